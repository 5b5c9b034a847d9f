/- Parts of the walks and laws (Ln1, PAw, Hl2). Conditions: as stated with each. -/
import Derived.Test.YtpieilkmmiopfaaGreatDoorPk37
import Derived.Test.YtpieilkmmiopfaaGreatDoorPk39
namespace Go.Proofs.YtpieilkmmiopfaaGreatDoor
open Go.RowKit Tryz
set_option linter.all false
set_option maxHeartbeats 4000000
set_option maxRecDepth 100000
variable{B' j k n:Nat}{K:mE}{Q:gj}{a:Act}{o:fR}
theorem zbx(x:er)(left:Int)(w:aa)(D:x.s.size<=maxLen)(G:0<=left)(H:left<=1048576):aw 47 (gD (oy x) left) w fun e w'=>∃r,e=.returned (.int .i64 r)/\Left left r x.s.size/\ag w w':=by
 have h:=zH (ak w (.cells (oy x) 88));obtain⟨k,v,s⟩:=x;dsimp only at D h ⊢;unfold maxLen at D;by_cases F:left-s.size<0
 .go_enter func47,ntmps47
  go_wp2;go_ret
  exact⟨_,rfl,au Rs,h.o⟩
 .go_enter func47,ntmps47
  go_wp2;go_ret
  exact⟨_,rfl,an Rr,h.o⟩
theorem zah(A:aq)(cap:Nat)(L:List er)(left:Int)(w:aa)(G:bF 3 iR w A L)(V:L.length<=maxLen)(I:∀x∈L,x.s.size<=maxLen)(ap:0<=left)(a0:left<=1048576):aw 21 (oI A L cap left) w fun e w'=>∃r,e=.returned (.int .i64 r)/\Left left r L.length/\ag w w':=by
 unfold maxLen at V;by_cases ac:left-L.length<0
 .go_enter func21,ntmps21
  exact WC
 .go_enter func21,ntmps21
  go_wp2;go_loopw [1,5] (fun l i wr=>∃(k:Nat) (q:Int),k<=L.length/\i=.int .i64 k/\l=.int .i64 q/\0<=q/\q<=left/\ag w wr) (fun _ i _=>L.length-(intOf i).toNat)
  case atStart=>exact⟨0,_,aX _,rfl,rfl,Rr,Rr,aj _ _⟩
  case round=>
   obtain⟨k,q,ao,rfl,rfl,J,Y,h⟩:=hrel;by_cases U:k<L.length
   .obtain⟨r,D⟩:=aB U;obtain⟨b,o,rfl,ab,c1,c2⟩:=f_ (bw G h) D;obtain⟨R,O⟩:=bD (I r (aY D)) h;clear D I G h;go_wp2_with ((go_at_call 47;refine(zbx _ _ _ R.o J Rr).mono ?_;rintro e w' ⟨Z,rfl,N,H⟩;have T:=zH N;have EO:=zH (ai O.o H);clear N H))
    .exact Wu
    .go_roundw
     case rel=>
      rcases T.o with F|⟨F,ad,am⟩
      .omega
      .exact⟨k+1,Z,Rr,Rt,rfl,F,Rr,EO.o⟩
     case measure=>simp[intOf];omega
   .go_wp2;go_ret
    exact⟨_,rfl,an ⟨J,Y,Rr⟩,h⟩
theorem tF(A:aq)(cap:Nat)(L:List er)(left:Int)(w:aa)(D:bF 3 iR w A L)(R:L.length<=maxLen)(T:∀x∈L,x.s.size<=maxLen)(N:0<=left)(O:left<=1048576):aw 6 (gD (aO A L cap) left) w fun e w'=>∃r,e=.returned (.int .i64 r)/\Left left r L.length/\ag w w':=by
 have h:=ak w (.cells (aO A L cap) 24);have H:=zH h;have J:=bw D h;clear h D;go_enter func6,ntmps6
 go_wp2_with ((go_at_call 21;refine(zah _ _ _ _ _ J R T N O).mono ?_;rintro e w' ⟨U,rfl,G,F⟩;have I:=zH G;have EO:=zH (ai H.o F);clear G F))
 .exact Wu
 .go_ret
  exact⟨_,rfl,I.o,EO.o⟩
theorem zby(x:er)(w:aa):aw 51 (cy (oy x)) w fun e w'=>e=.returned (.agg (oy x))/\ag w w':=by
 obtain⟨k,v,s⟩:=x;dsimp only;go_enter func51,ntmps51
 go_wp2;refine aE (v:=.agg (dG k v s)) (by simp[results,results51,go_sem, *]) rfl ⟨rfl,?_⟩
 repeat (refine jB ?_ Sp _)
 exact(((aj _ _).alloc Rq _).alloc Rq _).alloc Sp _
def dz(w:aa)(B:Nat)(v:ax)(L:List er):Prop:=w.ownsRow B 95 3 v L.length (L.map yM).flatten
def zai:er:=⟨0,0,ByteArray.mk #[]⟩
theorem Ci:∀{L:List er} {k j:Nat} {x:er},L[k]?=some x->j<3->(L.map yM).flatten[k*3+j]?=(yM x)[j]?
 |L,k,j,x,h,D=>kA (fun c hc=>UL) (by rw[cC,h];rfl) D
theorem zdo(L:List er):(L.map yM).flatten.length=L.length*3:=by rw[kz (s:=3) (fun c hc=>UL),bh]
theorem Cj:∀{L:List er} {k:Nat} (x:er),k<L.length->((((L.map yM).flatten.set (k*3) (.int .i64 x.k)).set (k*3+1) (.int .i64 x.v)).set (k*3+2) (.string x.s))=((L.set k x).map yM).flatten
 |[],k,x,hk=>by simp at hk
 |y::L,0,x,hk=>by simp[yM]
 |y::L,k+1,x,hk=>by
  have:=Cj (L:=L) (k:=k) x Sh;simp only[sH,m_,qy];rw[<-this];have e:∀j,(k+1)*3+j=(k*3+j)+3:=fun j=>Rr
  have h:(k+1)*3=k*3+3:=Rr;simp only[yM,sy,qs,e,h,sH]
theorem zbz(n:Nat):(madeCells (Value.agg #[.int .i64 0,.int .i64 0,.string (ByteArray.mk #[])]).cells (n*3)).toList=((List.replicate n zai).map yM).flatten:=by
 apply gS;intro i;by_cases hi:i<n*3
 .have D:i / 3<n:=Rr;have:=Ci (L:=List.replicate n zai) (k:=i / 3) (j:=i%3) (x:=zai) (by simp[D]) Rr;rw[show i / 3*3+i%3=i by omega]at this;rw[this];have F:i%3=0∨i%3=1∨i%3=2:=Rr;rcases F with h|h|h <;>simp[madeCells,Value.cells,hi,h,yM,zai]
 .rw[gT (by simp[madeCells];omega),gT (by rw[zdo];simp;omega)]
section
variable{w w':aa}{B:Nat}{v:ax}{L:List er}
theorem dz.zio(h:dz w B v L)(F:B<=w.heap.size):aV 95 3 iR w B v L:=
 ⟨L.map yM,h,bh _,fun k x c G D=>by
  rw[cC,G]at D;cases D
  exact⟨rfl,fun u hu=>VQ,B,B,af _,F,fun g e=>an (bL h g e).1,Fr.all fun _=>rfl⟩⟩
theorem dz.ext(D:dz w B v L)(h:ag w w'):dz w' B v L:=ik D (row:=none) ⟨h.os,h.tape,h.output,h.size,fun k F _=>h.block k F⟩ Uj
theorem dz.same(D:dz w B v L)(J:∀k,B<=k->w'.heap[k]?=w.heap[k]?):dz w' B v L:=⟨D.1,D.2.imp id fun⟨g,cap,I,F,h,G,H⟩=>⟨g,cap,I,F,h,(J g h).trans G,H⟩⟩
theorem dz.setCell(h:dz w B v L){a:dk}(D:a.block<B)(u:ax):dz (w.setCell a u) B v L:=h.same fun k F=>aZ _ _ _ _ Rr
theorem dz.low(h:dz w B v L)(I:B'<=B):dz w B' v L:=⟨h.1,h.2.imp id fun⟨g,cap,G,D,H,F⟩=>⟨g,cap,G,D,Rr,F⟩⟩
theorem dz.cells{g cap:Nat}(J:n=L.length)(F:dz w B (.slice (some ⟨g,0,none⟩) n cap) L)(I:k<n):∃x,L[k]?=some x/\(ae w g (k*3) (.int .i64 x.k)/\ae w g (k*3+1) (.int .i64 x.v)/\ae w g (k*3+2) (.string x.s))/\(w.frozen? ⟨g,k*3,none⟩=false/\w.frozen? ⟨g,k*3+1,none⟩=false/\w.frozen? ⟨g,k*3+2,none⟩=false):=by
 subst J;obtain⟨x,G⟩:=aB I;have D:∀j,j<3->w.cell? ⟨g,k*3+j,none⟩=(yM x)[j]?:=fun j H=>by rw[World.ownsRow.cellAt F _ Rr,Ci G H]
 have h:=World.ownsRow.frozenAt F;exact⟨x,G,⟨D 0 Rs,D 1 Rs,D 2 Rs⟩,⟨h _,h _,h _⟩⟩
theorem dz.put{g cap:Nat}(x:er)(I:n=L.length)(G:dz w B (.slice (some ⟨g,0,none⟩) n cap) L)(H:k<n):dz (((w.setCell ⟨g,k*3,none⟩ (.int .i64 x.k)).setCell ⟨g,k*3+1,none⟩ (.int .i64 x.v)).setCell ⟨g,k*3+2,none⟩ (.string x.s)) B (.slice (some ⟨g,0,none⟩) n cap) (L.set k x)/\w.grownBy (((w.setCell ⟨g,k*3,none⟩ (.int .i64 x.k)).setCell ⟨g,k*3+1,none⟩ (.int .i64 x.v)).setCell ⟨g,k*3+2,none⟩ (.string x.s)) (some g):=by subst I;have h:=World.ownsRow.stored G (k*3) (.int .i64 x.k);have D:=h.1.stored (k*3+1) (.int .i64 x.v);have F:=D.1.stored (k*3+2) (.string x.s);refine⟨?_,bN (bN h.2 D.2) F.2⟩;have:=F.1;rw[Cj x H]at this;unfold dz;simpa using this
theorem dz.view(h:dz w B v L)(G:B<=w.heap.size):∃A cap,v=.slice A L.length cap/\bF 3 iR w A L/\L.length<=cap:=by obtain⟨A,cap,e,D,F,-⟩:=(h.zio G).view;exact⟨A,cap,e,D,F⟩
end
theorem zaj(A:aq)(cap:Nat)(L:List er)(w:aa)(V:bF 3 iR w A L)(a7:L.length<=1048576):aw 26 (aO A L cap) w fun e w'=>∃u,e=.returned u/\dz w' w.heap.size u L/\ag w w':=by
 obtain⟨a3,hi,a1,a2,EK⟩:=de zeY.info;go_enter func26,ntmps26
 go_wp2_with ((at_make;refine jb _ rfl _ _ 33 rfl w.heap.size 95 a3 (.agg #[(),(),.string (ByteArray.mk #[])]) 3 underlying33 hi a1 a2 .i64 .i64 L.length L.length L.length rfl rfl rfl rfl SA TD (af _) ?_;intro a4 h Z))
 have Y:=cD Z;rw[zbz]at h;have R:=zH (by unfold dz;rw[iF];exact h:dz a4 w.heap.size (.slice (some ⟨w.heap.size,0,none⟩) L.length L.length) (List.replicate L.length zai));clear h Z;go_loopw [4] (fun i wr=>∃k:Nat,k<=L.length/\i=.int .i64 k/\dz wr w.heap.size (.slice (some ⟨w.heap.size,0,none⟩) L.length L.length) (fS L zai k)/\ag w wr)
  (fun i _=>L.length-(intOf i).toNat)
 case atStart=>exact⟨0,aX _,rfl,by rw[iW];exact R.o,Y⟩
 case round=>
  obtain⟨k,a6,rfl,h,D⟩:=hrel;have T:=zH h;clear h R Y;by_cases G:k<L.length
  .obtain⟨r,I⟩:=aB G;obtain⟨a5,o,rfl,ao,c1,c2⟩:=f_ (bw V D) I;obtain⟨am,O⟩:=bD (jK L zai r k I) (by simp[fS];omega:L.length=(fS L zai k).length);have a0:=D.size;have ab:=zH D;clear I V D;go_wp2_with ((go_at_call 51;refine(zby _ _).mono ?_;rintro e a8 ⟨rfl,F⟩;have J:=zH F;have N:=zH (T.o.ext F);obtain⟨a9,_,⟨d0,d1,d2⟩,⟨f0,f1,f2⟩⟩:=N.o.cells O.o G;clear F))
   have H:=N.o.put r O.o G;obtain⟨ad,ac⟩:=bD H.1 H.2;clear H d0 d1 d2 f0 f1 f2 ao c1 c2;go_roundw
   case rel=>exact⟨k+1,Rr,Rt,by rw[<-am.o];exact ad.o,(ab.o.trans (J.o.mono a0)).trans (oT (aj w.heap.size _) ac.o (by have:=J.o.size;omega) (fun b ap=>by cases ap;exact af _))⟩
   case measure=>simp[intOf];omega
  .go_wp2;go_ret
   have U:=T.o;rw[jJ _ _ _ Rr]at U;exact⟨_,rfl,U,D⟩
theorem tG(A:aq)(cap:Nat)(L:List er)(w:aa)(T:bF 3 iR w A L)(am:L.length<=1048576):aw 9 (cy (aO A L cap)) w fun e w'=>∃D c2,e=.returned (.agg (aO D L c2))/\L.length<=c2/\dz w' w.heap.size (.slice D L.length c2) L/\ag w w':=by
 have F:=below_alloc3 w (.cells (aO A L cap) 24) (.cells kj 35) (.cells kj 35);obtain⟨I,J,G⟩:=cm w (.cells (aO A L cap) 24) (.cells kj 35) (.cells kj 35);go_enter func9,ntmps9
 go_upto_region 2 with(fail)
 generalize ((w.alloc _).alloc _).alloc _=W at F I J G ⊢;have Z:=zH (bw T F);have a0:=aI I 0 rfl;obtain⟨N,O,R,ab⟩:=fU F J G (show w.heap.size+1+1<W.heap.size from(aT.1 G).1);clear T F I J G;go_wp2_with (go_at_call 26;(with_reducible refine(zaj A cap L W Z.o am).mono ?_);rintro e ap ⟨u,rfl,H,h⟩;obtain⟨D,c2,rfl,-,U⟩:=dz.view H h.size;have ac:=zH H;have Y:=zH U;have V:=zH (ai N.o h);have a1:=aI (ah O.o h) 0 rfl;have f1:=aK (ah O.o h) 0;have a2:=aI (ah R.o h) 0 rfl;have f2:=aK (ah R.o h) 0;have ao:=zH h.size;clear H h U)
 refine aE (v:=.agg (aO D L c2)) (by simp[results,results9,go_sem, *]) rfl ⟨D,c2,rfl,Y.o,?_,?_⟩
 .have ad:=ab.o;exact((ac.o.setCell (a:=⟨w.heap.size+1+1,0,none⟩) ad (.slice D L.length c2)).setCell (a:=⟨w.heap.size+1,0,none⟩) (by show w.heap.size+1<_;omega) (.slice D L.length c2)).low (by have:=N.o.size;omega)
 .exact(V.o.setCell (p:=⟨w.heap.size+1+1,0,none⟩) Sp _).setCell (p:=⟨w.heap.size+1,0,none⟩) Rq _
theorem qM(s x:jk)(V:o.op=.call {callee:=.builtin .append,args:=#[s,x],argTypes:=#[37,37]})(B D:Nat)(W:aa)(v v2:ax)(xs ys:List ft)(bc:cK W B v xs)(ac:cK W D v2 ys)(a0:∃J,J.heap.size<=D/\cK J B v xs/\ag J W)(ad:B<=D)(bd:D<=W.heap.size)(bq:xs.length+ys.length<=1048576)(Z:a.eval s=v)(h:a.eval x=v2)(R:∀I w',cK w' B I (xs++ys)->W.grownBy w' v.ownBlock->Below B W w'->K (a.put o.dst I) w'):o.wp prog a W K Q:=by
 obtain⟨bb,hi,a8,a9,ba⟩:=de DG;obtain⟨J,bu,⟨us,Y⟩,ao⟩:=a0;have G:=Y.ext ao;obtain⟨us2,H⟩:=ac;have a2:∀u∈us,∀b,u.ownBlock=some b->b<D:=fun u O b am=>by obtain⟨k,F⟩:=fk.1 O;obtain⟨x,_,h⟩:=Y.kC F;have:=(h.lt b am).2;omega
 have a6:∀u∈us2,∃A n c,u=.slice A n c:=fun u O=>by obtain⟨k,F⟩:=fk.1 O;obtain⟨x,_,h⟩:=H.kC F;obtain⟨A,c,e,_⟩:=h.view;exact⟨A,_,c,e⟩
 rcases H.outer.2 with⟨rfl,T⟩|⟨g,cap,ab,rfl,bp,bo,U,bg,bi,br⟩
 .have a7:ys=[]:=fC T;subst a7;have a5:(Builtin.append_ #[37,37] o.type #[v,.slice none 0 0]).run prog W=.ok v W:=by
   rcases G.outer.2 with⟨rfl,T⟩|⟨g,cap,ab,rfl,_,_,U,_⟩
   .simp[Builtin.append_,zh wP,sizeOf,typeInfo,hi,Builtin.lenOf,Builtin.firstCells]
   .simp[Builtin.append_,zh wP,sizeOf,typeInfo,hi,Builtin.lenOf,Builtin.firstCells,U,storeCells]
  unfold Oper.wp;simp[execOp,V,resolve,invoke,builtin,Z,h,a5,Result.andThen];exact R v W ⟨us,by simpa using G⟩ ⟨rfl,rfl,rfl,af _,fun _ _ _=>rfl⟩ (aj _ _)
 .have ap:=lL H.outer (g:=g) rfl;obtain⟨I,w',a4,a3,N,-,-⟩:=run_append_own_at (P:=prog) W B 37 o.type 97 bb (.agg yU) 5 56 wP hi a8 a9 ba rfl Rs v _ _ G.outer ⟨g,0,none⟩ ys.length cap (gW ys us2) (xN H.len) (fun j u a1=>ap j u a1) (CC a6) TD Rr Rr;unfold Oper.wp execOp;simp only[V,resolve,invoke,builtin,wI,wJ,wK,zj,m_,oQ,Z,h,a4];exact R I w' ⟨_,G.nm H ad a2 a3 N⟩ N ((aj _ _).grown N Rr fun k F=>(bL G.outer k F).1)
theorem zeG(n:Nat)(w:aa)(co:n<=4096):aw 150 (eE n) w (sL ⟨n,[],List.range n,List.range n⟩ w):=by
 have a2:=((aj w.heap.size w).alloc (af _) (.cells bQ 54)).alloc Rq (.cells (vO n) 54);have G:=(bJ (w.alloc (.cells bQ 54)) (.cells (vO n) 54) (k:=w.heap.size) Rq).trans (aC w _ rfl);have F:=aC (w.alloc (.cells bQ 54)) (.cells (vO n) 54) (n:=w.heap.size+1) Rq;go_enter func150,ntmps150
 go_upto_region 2 with(fail)
 generalize (w.alloc _).alloc _=W at a2 G F ⊢;obtain⟨H,a0,a1,O⟩:=fU (show w.heap.size+1<W.heap.size from(aT.1 F).1) a2 G F;clear a2 G F;go_wp2;go_loopw [4] (fun i wr=>∃(k:Nat) (v2 v3:ax),k<=n/\i=.int .i64 k/\O4 W.heap.size wr v2 v3 (.slice none 0 0) (.slice none 0 0) (bt (List.range k)) (bt (List.range k)) [] []/\aW wr (w.heap.size+1) #[.int .i64 (n:Nat),.slice none 0 0,v2,v3] 54/\aW wr w.heap.size bQ 54/\ag w wr) (fun i _=>n-(intOf i).toNat)
 case atStart=>exact⟨0,_,_,aX _,rfl,O4.nil (af _),O.o,a1.o,a0.o⟩
 case round=>
  obtain⟨k,v2,v3,ck,rfl,h,F,G,T⟩:=hrel;have HL:=zH (by rw[aQ,fX]:(bt (List.range k)).length=k);by_cases cn:k<n
  .obtain⟨a3,a4,p2,a5⟩:=aA F;obtain⟨b0,Z,b9,b7,bu⟩:=mD h (h.ext (ak wr (.cells (eE k) 3))) (ah F (ak wr (.cells (eE k) 3))) (ah G (ak wr (.cells (eE k) 3))) (T.trans ((ak wr (.cells (eE k) 3)).mono T.size));clear h F G T a0 a1 O;go_upto_region 6 with((at_builtin;refine cL nH rfl (.tmp 13) (.tmp 15) rfl W.heap.size (wr.alloc (.cells (eE k) 3)) v2 (bt (List.range k)) (k:Int) [.int .i64 (k:Nat)] wr.heap.size Z.o.o1 rfl TK (iV.flat Z.o.o1 Z.o.le fun _=>rfl) SD Z.o.le rfl rfl (aC wr _ rfl) ?_;intro ao am a7 N U R D;rw[HL.o]at N ⊢;have I:=(D.block (w.heap.size+1) H.o).trans b9.o;have b4:=zH ((D.block w.heap.size (mV H.o)).trans b7.o);obtain⟨bc,bd,bg,bi⟩:=aA I;obtain⟨f0,f1,f2,f3⟩:=bZ I;have ca:=zH I;have b1:=zH (O4.app b0.o U R D N);have bp:=zH (bu.o.trans (D.mono (fV (mV H.o))));clear N U R D I))
   have y:=bm a7 (w.heap.size+1) 2 _ _ (.slice (some ⟨ao,0,none⟩) (k+1) am) ca.o;simp only[zA]at y;have ap:=(b1.o.set (a:=⟨w.heap.size+1,2,none⟩) H.o (.slice (some ⟨ao,0,none⟩) (k+1) am)).sw;have a6:=(aZ a7 ⟨w.heap.size+1,2,none⟩ (.slice (some ⟨ao,0,none⟩) (k+1) am) w.heap.size (by show w.heap.size≠w.heap.size+1;omega)).trans b4.o;have ac:=bp.o.setCell (p:=⟨w.heap.size+1,2,none⟩) (by show w.heap.size<=w.heap.size+1;omega) (.slice (some ⟨ao,0,none⟩) (k+1) am);generalize a7.setCell ⟨w.heap.size+1,2,none⟩ _=J at y ap a6 ac ⊢;clear a3 a4 p2 a5 bc bd bg bi f0 f1 f2 f3;obtain⟨a3,a4,p2,a5⟩:=aA y;obtain⟨b2,ab,b8,b5,bq,O⟩:=kE ap (ap.ext (ak J (.cells (eE k) 3))) (ah y (ak J (.cells (eE k) 3))) (ah a6 (ak J (.cells (eE k) 3))) (ac.trans ((ak J (.cells (eE k) 3)).mono ac.size)) (by rw[oL];simp[bt]:bt (List.range k)++[(k:Int)]=bt (List.range (k+1)));clear y ap a6 ac;go_wp2_with ((at_builtin;refine cL nH rfl (.tmp 19) (.tmp 21) rfl W.heap.size (J.alloc (.cells (eE k) 3)) v3 (bt (List.range k)) (k:Int) [.int .i64 (k:Nat)] J.heap.size ab.o.o1 rfl TK (iV.flat ab.o.o1 ab.o.le fun _=>rfl) SD ab.o.le rfl rfl (aC J _ rfl) ?_;intro ba a9 bo N U R D;rw[HL.o]at N ⊢;have I:=(D.block (w.heap.size+1) H.o).trans b8.o;have b6:=zH ((D.block w.heap.size (mV H.o)).trans b5.o);obtain⟨bc,bd,bg,bi⟩:=aA I;obtain⟨f0,f1,f2,f3⟩:=bZ I;have cb:=zH I;have b3:=zH (O4.app b2.o U R D N);have br:=zH (bq.o.trans (D.mono (fV (mV H.o))));clear N U R D I))
   go_roundw
   case rel=>
    have y:=bm bo (w.heap.size+1) 3 _ _ (.slice (some ⟨ba,0,none⟩) (k+1) a9) cb.o;simp only[zA]at y;have bb:=(b3.o.set (a:=⟨w.heap.size+1,3,none⟩) H.o (.slice (some ⟨ba,0,none⟩) (k+1) a9)).sw;rw[O.o]at bb;exact⟨k+1,_,_,Rr,Rt,bb,y,(aZ bo ⟨w.heap.size+1,3,none⟩ _ w.heap.size (by show w.heap.size≠w.heap.size+1;omega)).trans b6.o,br.o.setCell (p:=⟨w.heap.size+1,3,none⟩) (by show w.heap.size<=w.heap.size+1;omega) _⟩
   case measure=>simp[intOf];omega
  .obtain rfl:k=n:=Rr;obtain⟨V,c2,rfl,-,-,-⟩:=h.o1.view;obtain⟨Y,ad,rfl,-,-,-⟩:=h.o2.view;rw[HL.o]at h F;obtain⟨a3,a4,p2,a5⟩:=aA F;obtain⟨cp,cq,cr,ct⟩:=aA G;obtain⟨f0,f1,f2,f3⟩:=bZ G;have y:=cd (v0:=.int .i64 (k:Nat)) (v1:=bW) (v2:=.slice V k c2) (v3:=.slice Y k ad) G;obtain⟨cc,ce,ch,ci⟩:=aA y;unfold dC at cc ce ch ci;obtain⟨bv,bz,a8,cj⟩:=fU (bI T (b:=w.heap.size) (af _) (.int .i64 (k:Nat)) (.slice none 0 0) (.slice V k c2) (.slice Y k ad)) (Bv (g:=⟨k,[],List.range k,List.range k⟩) (A1:=none) (Fr.all fun _=>au rfl) (xz h.o1 h.le) (xz h.o2 h.le)) (show w.heap.size<W.heap.size from mV H.o) HL.o;clear h F G T y HL a0 a1 O;go_wp2;refine aE (v:=.agg #[(k:Nat),bW,.slice V k c2,.slice Y k ad]) (by simp[results,results150,go_sem, *]) rfl ⟨none,0,V,c2,Y,ad,?_,?_,bv.o⟩
   .rw[show(List.range k).length=k from fX ..];rfl
   .exact(bz.o.dC (b:=w.heap.size) a8.o).to (fV a8.o) (fD dV.symm)
structure L4(B Z Y:Nat)(V:aa)(gw k v:Int)(v2 v3 u2 u3:ax)(l2 l3 m2 m3:aH):Prop where
 own:O4 B V v2 v3 u2 u3 l2 l3 m2 m3
 bz:aW V Z #[.int .i64 gw,.slice none 0 0,v2,v3] 54
 by':aW V Y #[.int .i64 k,.int .i64 v,u2,u3] 155
 lz:Z<B
 ly:Y<B
 ne:Y≠Z
section
variable{B Z Y:Nat}{V V' w8:aa}{gw k v:Int}{v2 v3 u2 u3:ax}{l2 l3 m2 m3 l:aH}{o:Obj}{g n cap:Nat}
theorem L4.ext(h:L4 B Z Y V gw k v v2 v3 u2 u3 l2 l3 m2 m3)(D:ag V V'):L4 B Z Y V' gw k v v2 v3 u2 u3 l2 l3 m2 m3:=⟨h.own.ext D,ah h.bz D,ah h.by' D,h.lz,h.ly,h.ne⟩
theorem L4.zeL(h:L4 B Z Y V gw k v v2 v3 u2 u3 l2 l3 m2 m3)(H:(V.alloc o).grownBy w8 v2.ownBlock)(G:v2.ownBlock=some g∨g=(V.alloc o).heap.size)(D:Below B (V.alloc o) w8)(I:aV 3 1 EI w8 B (.slice (some ⟨g,0,none⟩) n cap) l):L4 B Z Y (w8.setCell ⟨Z,2,none⟩ (.slice (some ⟨g,0,none⟩) n cap)) gw k v (.slice (some ⟨g,0,none⟩) n cap) v3 u2 u3 l l3 m2 m3/\aW w8 Z #[.int .i64 gw,.slice none 0 0,v2,v3] 54:=by have F:=(D.block Z h.lz).trans (ah h.bz (ak V o));have J:=(D.block Y h.ly).trans (ah h.by' (ak V o));have y:=bm w8 Z 2 _ _ (.slice (some ⟨g,0,none⟩) n cap) F;simp only[zA]at y;exact⟨⟨(O4.app h.own H G D I).set (a:=⟨Z,2,none⟩) h.lz _,y,(aZ _ _ _ _ h.ne).trans J,h.lz,h.ly,h.ne⟩,F⟩
theorem L4.zeM(h:L4 B Z Y V gw k v v2 v3 u2 u3 l2 l3 m2 m3)(H:(V.alloc o).grownBy w8 v3.ownBlock)(G:v3.ownBlock=some g∨g=(V.alloc o).heap.size)(D:Below B (V.alloc o) w8)(I:aV 3 1 EI w8 B (.slice (some ⟨g,0,none⟩) n cap) l):L4 B Z Y (w8.setCell ⟨Z,3,none⟩ (.slice (some ⟨g,0,none⟩) n cap)) gw k v v2 (.slice (some ⟨g,0,none⟩) n cap) u2 u3 l2 l m2 m3/\aW w8 Z #[.int .i64 gw,.slice none 0 0,v2,v3] 54:=by have F:=(D.block Z h.lz).trans (ah h.bz (ak V o));have J:=(D.block Y h.ly).trans (ah h.by' (ak V o));have y:=bm w8 Z 3 _ _ (.slice (some ⟨g,0,none⟩) n cap) F;simp only[zA]at y;exact⟨⟨(O4.app h.own.sw H G D I).sw.set (a:=⟨Z,3,none⟩) h.lz _,y,(aZ _ _ _ _ h.ne).trans J,h.lz,h.ly,h.ne⟩,F⟩
theorem L4.zij(h:L4 B Z Y V gw k v v2 v3 u2 u3 l2 l3 m2 m3)(H:(V.alloc o).grownBy w8 u2.ownBlock)(G:u2.ownBlock=some g∨g=(V.alloc o).heap.size)(D:Below B (V.alloc o) w8)(I:aV 3 1 EI w8 B (.slice (some ⟨g,0,none⟩) n cap) l):L4 B Z Y (w8.setCell ⟨Y,2,none⟩ (.slice (some ⟨g,0,none⟩) n cap)) gw k v v2 v3 (.slice (some ⟨g,0,none⟩) n cap) u3 l2 l3 l m3/\aW w8 Y #[.int .i64 k,.int .i64 v,u2,u3] 155:=by have J:=(D.block Z h.lz).trans (ah h.bz (ak V o));have F:=(D.block Y h.ly).trans (ah h.by' (ak V o));have y:=bm w8 Y 2 _ _ (.slice (some ⟨g,0,none⟩) n cap) F;simp only[zA]at y;exact⟨⟨(O4.app h.own.rot H G D I).rot.set (a:=⟨Y,2,none⟩) h.ly _,(aZ _ _ _ _ h.ne.symm).trans J,y,h.lz,h.ly,h.ne⟩,F⟩
theorem L4.zik(h:L4 B Z Y V gw k v v2 v3 u2 u3 l2 l3 m2 m3)(H:(V.alloc o).grownBy w8 u3.ownBlock)(G:u3.ownBlock=some g∨g=(V.alloc o).heap.size)(D:Below B (V.alloc o) w8)(I:aV 3 1 EI w8 B (.slice (some ⟨g,0,none⟩) n cap) l):L4 B Z Y (w8.setCell ⟨Y,3,none⟩ (.slice (some ⟨g,0,none⟩) n cap)) gw k v v2 v3 u2 (.slice (some ⟨g,0,none⟩) n cap) l2 l3 m2 l/\aW w8 Y #[.int .i64 k,.int .i64 v,u2,u3] 155:=by have J:=(D.block Z h.lz).trans (ah h.bz (ak V o));have F:=(D.block Y h.ly).trans (ah h.by' (ak V o));have y:=bm w8 Y 3 _ _ (.slice (some ⟨g,0,none⟩) n cap) F;simp only[zA]at y;exact⟨⟨(O4.app h.own.rot.sw H G D I).sw.rot.set (a:=⟨Y,3,none⟩) h.ly _,(aZ _ _ _ _ h.ne.symm).trans J,y,h.lz,h.ly,h.ne⟩,F⟩
end
def Ew(a j:Nat):List Int:=bt (List.range (min j a))
def rf(a j:Nat):List Int:=bt (eC a (j-a))
theorem zeN{a:Nat}(h:j<a):Ew a j++[(j:Int)]=Ew a (j+1)/\rf a (j+1)=rf a j/\(Ew a j).length=j:=by unfold Ew rf;rw[gR Rr,gR Rr,oL,show j+1-a=j-a by omega];exact⟨RK,rfl,by rw[aQ,fX]⟩
theorem zdb{a:Nat}(h:a<=j):rf a j++[(j:Int)]=rf a (j+1)/\Ew a (j+1)=Ew a j/\(rf a j).length=j-a:=by unfold Ew rf eC;rw[wu Rr,wu Rr,show j+1-a=(j-a)+1 by omega,oL];refine⟨?_,rfl,by rw[aQ];simp⟩;simp[bt];omega
theorem zbk(k v:Int)(s:ByteArray)(w:aa)(hl:dh ⟨k,v,s.toList.isEmpty⟩=true):aw 105 (cy (dG k v s)) w (sL (eY ⟨k,v,s.toList.isEmpty⟩) w):=by
 have O:=((aj w.heap.size w).alloc (af _) (.cells (dG k v s) 95)).alloc Rq (.cells bQ 54);have G:=(bJ (w.alloc (.cells (dG k v s) 95)) (.cells bQ 54) (k:=w.heap.size) Rq).trans (aC w _ rfl);have ab:=aC (w.alloc (.cells (dG k v s) 95)) (.cells bQ 54) (n:=w.heap.size+1) Rq;have dc:s.toList.isEmpty=true:=Vq;rw[dc]at hl ⊢;by_cases h1:k=1
 .subst h1;obtain⟨m,rfl⟩:∃m:Nat,v=(m:Int):=⟨v.toNat,TS⟩;have cb:m<=12:=TS;rw[show eY ⟨1,(m:Int),true⟩=⟨m,[],List.range m,List.range m⟩ from rfl];clear hl;go_enter func105,ntmps105
  go_upto_region 1 with(fail)
  generalize (w.alloc _).alloc _=W at O G ab ⊢;obtain⟨bv,c1,c2⟩:=aG G;obtain⟨bi,bq⟩:=bD O ab;clear O G ab;go_wp2_with (go_at_call 150;refine(zeG m _ Rr).mono ?_;rintro e w2 ⟨A1,d1,A2,d2,A3,d3,rfl,dq,h⟩;have hz:=ah bq.o h;obtain⟨d6,d7,d8,d9⟩:=aA hz;obtain⟨f0,f1,f2,f3⟩:=bZ hz;have eo:=zH hz;have HF:=zH dq;have b7:=zH (bi.o.trans (h.mono bi.o.size));clear hz dq h)
  have y:=cd (v0:=.int .i64 m) (v1:=.slice A1 ([]:List Ed).length d1) (v2:=.slice A2 (List.range m).length d2) (v3:=.slice A3 (List.range m).length d3) eo.o;obtain⟨bb,bc,bd,bg⟩:=aA y;unfold dC at bb bc bd bg;simp only[il,fX]at bb bc bd bg;refine aE (v:=.agg #[m,.slice A1 0 d1,.slice A2 m d2,.slice A3 m d3]) U6 rfl ⟨A1,d1,A2,d2,A3,d3,by rw[fX];rfl,?_,bI b7.o (b:=w.heap.size+1) Rr _ _ _ _⟩;have s0:=(aT.1 bq.o).1;exact Y5
 by_cases h2:k=2
 .subst h2;rw[show eY ⟨2,v,true⟩=⟨2,[],[0,1],[1,0]⟩ from rfl];clear hl;go_enter func105,ntmps105
  go_upto_region 1 with(fail)
  generalize (w.alloc _).alloc _=W at O G ab ⊢;obtain⟨bv,c1,c2⟩:=aG G;have s0:=(aT.1 ab).1;have db:=(O.alloc O.size (.cells jx 3)).alloc (by have:=O.size;simp;omega) (.cells ki 3);have d4:=(bJ (W.alloc (.cells jx 3)) (.cells ki 3) (k:=W.heap.size) Rq).trans (aC W _ rfl);have d5:=aC (W.alloc (.cells jx 3)) (.cells ki 3) (n:=W.heap.size+1) Rq;have hz:=(bJ (W.alloc (.cells jx 3)) (.cells ki 3) (k:=w.heap.size+1) RS).trans ((bJ W (.cells jx 3) s0).trans ab);have JD:W.heap.size+2=((W.alloc (.cells jx 3)).alloc (.cells ki 3)).heap.size:=Rq;clear O G ab;obtain⟨d6,d7,d8,d9⟩:=aA hz;obtain⟨f0,f1,f2,f3⟩:=bZ hz;have y:=cd (v0:=.int .i64 2) (v1:=bW) (v2:=.slice (some ⟨W.heap.size,0,none⟩) 2 2) (v3:=.slice (some ⟨W.heap.size+1,0,none⟩) 2 2) hz;obtain⟨bb,bc,bd,bg⟩:=aA y;unfold dC at bb bc bd bg;obtain⟨b8,HF,F0,JC⟩:=fU (bI db (b:=w.heap.size+1) Rr (.int .i64 2) (.slice none 0 0) (.slice (some ⟨W.heap.size,0,none⟩) 2 2) (.slice (some ⟨W.heap.size+1,0,none⟩) 2 2)) (Bv (g:=⟨2,[],[0,1],[1,0]⟩) (A1:=none) (Fr.all fun _=>au rfl) (uN (xs:=bt [0,1]) d4 rfl (af _) (Rr:W.heap.size<W.heap.size+2)) (uN (xs:=bt [1,0]) d5 rfl Rr Rr)) JD s0;clear y hz d4 d5 db JD s0;go_wp2;refine aE (v:=.agg #[.int .i64 2,bW,.slice (some ⟨W.heap.size,0,none⟩) 2 2,.slice (some ⟨W.heap.size+1,0,none⟩) 2 2]) U6 rfl ⟨none,0,_,2,_,2,rfl,?_,b8.o⟩;exact Yi
 .have c9:3<=k:=by
   unfold dh at hl;rw[bE]at hl;have hl:=hl.2;dsimp only at hl;rw[av h1]at hl;by_cases e1:k=7∨k=13
   .omega
   .rw[av e1]at hl;simp only[bE,bX]at hl;omega
  obtain⟨cF,cI⟩:=rZ (v:=v) c9;have dr:=pT hl;obtain⟨a,ca⟩:=aM (xD k);obtain⟨b,h⟩:=aM (xE k);rw[cF,cI,<-ca,<-h]at dr;obtain⟨e7,e8⟩:=dr;have c4:=zH (show eY ⟨k,v,true⟩=⟨a+b,[⟨k,v,List.range a,eC a b⟩],List.range a,eC a b⟩ by unfold eY eC;rw[av h1,av h2,cF,cI,ca,h])
  have em:=zH (fun V=>(by have:=t_ k V;rw[<-ca,<-h]at this;exact this:aw 151 (bs k) V fun e w'=>e=.returned (.tuple (gl a b))/\V=w'));have fn:(k==1)=false:=Sl;have n2:(k==2)=false:=Sm;obtain⟨m,cb⟩:=aM (a+b);have fl:IntKind.i64.wrap ((a:Int)+b)=(m:Int):=Sq;have fb:m<=24:=Rr;have e3:a<=m:=Rr;have eg:=zH cb;rw[<-cb]at c4;clear cF cI ca h hl h1 h2 c9 cb dc;go_enter func105,ntmps105
  go_upto_region 1 with(fail)
  generalize (w.alloc _).alloc _=W at O G ab ⊢;obtain⟨bv,c1,c2⟩:=aG G;obtain⟨bi,bq,ei⟩:=dO O ab G;clear O G ab;go_upto_region 8 with(go_at_call 151;refine(em.o _).mono ?_;rintro e w' ⟨rfl,rfl⟩)
  have I:=ak W (.cells (vO m) 54);have cB:=zH (aC W (.cells (vO m) 54) rfl);generalize W.alloc _=J at I cB ⊢;obtain⟨ej,a5⟩:=bD (ah bq.o I) (bi.o.trans (I.mono bi.o.size));clear bv c1 c2;obtain⟨bv,c1,c2⟩:=aG (ah ei.o I);clear I;go_upto_region 9 with(fail)
  have I:=ak J (.cells #[k,v,bW,bW] 155);have cA:=zH (aC J (.cells #[k,v,bW,bW] 155) rfl);generalize J.alloc _=U at I cA ⊢;obtain⟨es,ek,b7,bu,br,cu⟩:=kE (ah cB.o I) (ah ej.o I) (a5.o.trans (I.mono a5.o.size)) (show w.heap.size+1<W.heap.size from(aT.1 bq.o).1) (show W.heap.size<J.heap.size from(aT.1 cB.o).1) (show J.heap.size<U.heap.size from(aT.1 cA.o).1);have a6:=zH (show L4 U.heap.size W.heap.size J.heap.size U m k v (.slice none 0 0) (.slice none 0 0) (.slice none 0 0) (.slice none 0 0) (Ew a 0) (rf a 0) (Ew a 0) (rf a 0) from⟨by
   rw[show Ew a 0=[] by simp[Ew,bt],show rf a 0=[] by simp[rf,bt,eC]];exact O4.nil (af _),es.o,cA.o,Nat.lt_trans br.o cu.o,cu.o,Nat.ne_of_gt br.o⟩)
  clear bv c1 c2 I;go_wp2;go_loopw [7] (fun i wr=>∃(j:Nat) (v2 v3 u2 u3:ax),j<=m/\i=.int .i64 j/\L4 U.heap.size W.heap.size J.heap.size wr m k v v2 v3 u2 u3 (Ew a j) (rf a j) (Ew a j) (rf a j)/\aW wr (w.heap.size+1) bQ 54/\ag w wr) (fun i _=>m-(intOf i).toNat)
  case atStart=>exact⟨0,_,_,_,_,aX _,rfl,a6.o,ek.o,b7.o⟩
  case round=>
   obtain⟨j,v2,v3,u2,u3,e9,rfl,D,G,ap⟩:=hrel;clear a6;obtain⟨bo,bp,cn,c5,co,c6⟩:=kE (show w.heap.size<=U.heap.size from b7.o.size) (show w.heap.size+1<U.heap.size by have:=bu.o;have:=br.o;have:=cu.o;omega) (show w.heap.size+1≠W.heap.size by have:=bu.o;omega) (show w.heap.size+1≠J.heap.size by have:=bu.o;have:=br.o;omega) (show w.heap.size<=W.heap.size by have:=bu.o;omega) (show w.heap.size<=J.heap.size by have:=bu.o;have:=br.o;omega);by_cases fa:j<m
   .obtain⟨fo,d0⟩:=aM (Obj.cells #[.int .i64 (j:Nat)] 3);by_cases e2:j<a
    .obtain⟨a2,a3,a0⟩:=zeN e2;obtain⟨cj,ck,Jk⟩:=dO a2 a3 a0;obtain⟨a8,a9,p2,ba⟩:=aA D.bz;obtain⟨a6,ad,ct,ci⟩:=fU D (D.ext (ak wr (.cells (eE j) 3))) (ah G (ak wr (.cells (eE j) 3))) (ap.trans ((ak wr (.cells (eE j) 3)).mono ap.size));clear D G ap a2 a3 a0 d0;go_upto_region 14 with((at_builtin;refine cL nH rfl (.tmp 46) (.tmp 48) rfl U.heap.size (wr.alloc (.cells (eE j) 3)) v2 (Ew a j) (j:Int) [.int .i64 (j:Nat)] wr.heap.size ad.o.own.o1 rfl TK (iV.flat ad.o.own.o1 ad.o.own.le fun _=>rfl) SM ad.o.own.le rfl rfl (aC wr _ rfl) ?_;intro b0 bz b6 F T R h;rw[Jk.o]at F ⊢;have cp:=zH ((h.block (w.heap.size+1) bp.o).trans ct.o);obtain⟨H,hz⟩:=L4.zeL a6.o T R h F;obtain⟨b2,b3,b4,b5⟩:=aA hz;obtain⟨f0,f1,f2,f3⟩:=bZ hz;have ao:=zH H;have a5:=zH (ci.o.trans (h.mono bo.o));clear F T R h hz H))
     have a4:=(aZ b6 ⟨W.heap.size,2,none⟩ (.slice (some ⟨b0,0,none⟩) (j+1) bz) (w.heap.size+1) cn.o).trans cp.o;have N:=a5.o.setCell (p:=⟨W.heap.size,2,none⟩) co.o (.slice (some ⟨b0,0,none⟩) (j+1) bz);clear a8 a9 p2 ba b2 b3 b4 b5 f0 f1 f2 f3;generalize b6.setCell ⟨W.heap.size,2,none⟩ _=V at ao a4 N ⊢;obtain⟨a8,a9,p2,ba⟩:=aA ao.o.by';obtain⟨am,cq,ce⟩:=dO (ao.o.ext (ak V (.cells (eE j) 3))) (ah a4 (ak V (.cells (eE j) 3))) (N.trans ((ak V (.cells (eE j) 3)).mono N.size));clear a4 N;go_wp2_with ((at_builtin;refine cL nH rfl (.tmp 52) (.tmp 54) rfl U.heap.size (V.alloc (.cells (eE j) 3)) u2 (Ew a j) (j:Int) [.int .i64 (j:Nat)] V.heap.size am.o.own.o3 rfl TK (iV.flat am.o.own.o3 am.o.own.le fun _=>rfl) SM am.o.own.le rfl rfl (aC V _ rfl) ?_;intro e0 ev w2 F T R h;rw[Jk.o]at F ⊢;have cr:=zH ((h.block (w.heap.size+1) bp.o).trans cq.o);obtain⟨H,hz⟩:=L4.zij ao.o T R h F;obtain⟨b2,b3,b4,b5⟩:=aA hz;obtain⟨f0,f1,f2,f3⟩:=bZ hz;have cz:=zH H;have ch:=zH (ce.o.trans (h.mono bo.o));clear F T R h hz H))
     go_roundw
     case rel=>
      have H:=cz.o;rw[cj.o,<-ck.o]at H;exact⟨j+1,_,_,_,_,Rr,Rt,H,(aZ w2 ⟨J.heap.size,2,none⟩ _ (w.heap.size+1) c5.o).trans cr.o,ch.o.setCell (p:=⟨J.heap.size,2,none⟩) c6.o _⟩
     case measure=>simp[intOf];omega
    .obtain⟨a2,a3,a0⟩:=zdb (Rr:a<=j);obtain⟨n,dT⟩:=aM (j-a);rw[<-dT]at a0;obtain⟨cj,ck,Jk⟩:=dO a2 a3 a0;have fd:n<=24:=Rr;obtain⟨a8,a9,p2,ba⟩:=aA D.bz;obtain⟨a6,ad,ct,ci⟩:=fU D (D.ext (ak wr (.cells (eE j) 3))) (ah G (ak wr (.cells (eE j) 3))) (ap.trans ((ak wr (.cells (eE j) 3)).mono ap.size));clear D G ap a2 a3 a0 d0 dT;go_upto_region 16 with((at_builtin;refine cL nH rfl (.tmp 58) (.tmp 60) rfl U.heap.size (wr.alloc (.cells (eE j) 3)) v3 (rf a j) (j:Int) [.int .i64 (j:Nat)] wr.heap.size ad.o.own.o2 rfl TK (iV.flat ad.o.own.o2 ad.o.own.le fun _=>rfl) SM ad.o.own.le rfl rfl (aC wr _ rfl) ?_;intro b0 bz b6 F T R h;rw[Jk.o]at F ⊢;have cp:=zH ((h.block (w.heap.size+1) bp.o).trans ct.o);obtain⟨H,hz⟩:=L4.zeM a6.o T R h F;obtain⟨b2,b3,b4,b5⟩:=aA hz;obtain⟨f0,f1,f2,f3⟩:=bZ hz;have ao:=zH H;have a5:=zH (ci.o.trans (h.mono bo.o));clear F T R h hz H))
     have a4:=(aZ b6 ⟨W.heap.size,3,none⟩ (.slice (some ⟨b0,0,none⟩) (n+1) bz) (w.heap.size+1) cn.o).trans cp.o;have N:=a5.o.setCell (p:=⟨W.heap.size,3,none⟩) co.o (.slice (some ⟨b0,0,none⟩) (n+1) bz);clear a8 a9 p2 ba b2 b3 b4 b5 f0 f1 f2 f3;generalize b6.setCell ⟨W.heap.size,3,none⟩ _=V at ao a4 N ⊢;obtain⟨a8,a9,p2,ba⟩:=aA ao.o.by';obtain⟨am,cq,ce⟩:=dO (ao.o.ext (ak V (.cells (eE j) 3))) (ah a4 (ak V (.cells (eE j) 3))) (N.trans ((ak V (.cells (eE j) 3)).mono N.size));clear a4 N;go_wp2_with ((at_builtin;refine cL nH rfl (.tmp 64) (.tmp 66) rfl U.heap.size (V.alloc (.cells (eE j) 3)) u3 (rf a j) (j:Int) [.int .i64 (j:Nat)] V.heap.size am.o.own.o4 rfl TK (iV.flat am.o.own.o4 am.o.own.le fun _=>rfl) SM am.o.own.le rfl rfl (aC V _ rfl) ?_;intro e0 ev w2 F T R h;rw[Jk.o]at F ⊢;have cr:=zH ((h.block (w.heap.size+1) bp.o).trans cq.o);obtain⟨H,hz⟩:=L4.zik ao.o T R h F;obtain⟨b2,b3,b4,b5⟩:=aA hz;obtain⟨f0,f1,f2,f3⟩:=bZ hz;have cz:=zH H;have ch:=zH (ce.o.trans (h.mono bo.o));clear F T R h hz H))
     go_roundw
     case rel=>
      have H:=cz.o;rw[cj.o,<-ck.o]at H;exact⟨j+1,_,_,_,_,Rr,Rt,H,(aZ w2 ⟨J.heap.size,3,none⟩ _ (w.heap.size+1) c5.o).trans cr.o,ch.o.setCell (p:=⟨J.heap.size,3,none⟩) c6.o _⟩
     case measure=>simp[intOf];omega
   .obtain rfl:j=m:=Rr;have hi:Ew a j=bt (List.range a):=by unfold Ew;rw[wu e3]
    have F:rf a j=bt (eC a b):=by unfold rf;rw[eg.o,Nat.add_sub_cancel_left]
    rw[hi,F]at D;obtain⟨A2,c2,rfl,-,-,-⟩:=D.own.o1.view;obtain⟨A3,a7,rfl,-,-,-⟩:=D.own.o2.view;obtain⟨cO,d2,rfl,-,-,-⟩:=D.own.o3.view;obtain⟨c0,d3,rfl,-,-,-⟩:=D.own.o4.view;simp only[aQ,fX,dw]at D;have I:=ak wr (.cells (sx k v cO a d2 c0 b d3) 155);obtain⟨b8,a1,c7,c3⟩:=fU (aC wr (.cells (sx k v cO a d2 c0 b d3) 155) rfl) (D.ext I) (ah G I) (ap.trans (I.mono ap.size));obtain⟨ey,a2,a3,a0⟩:=aA D.by';obtain⟨s0,e4,e5,e6⟩:=aA a1.o.bz;obtain⟨t0,t1,t2,t3⟩:=bZ a1.o.bz;have c8:=zH D.own.le;clear D G ap I hi F;go_upto_region 18 with(fail)
    generalize wr.alloc _=cc at b8 a1 c7 c3 ⊢;have y:=bm cc W.heap.size 1 _ _ (.slice (some ⟨wr.heap.size,0,none⟩) 1 1) a1.o.bz;simp only[zA]at y;have b1:=(aZ cc ⟨W.heap.size,1,none⟩ (.slice (some ⟨wr.heap.size,0,none⟩) 1 1) (w.heap.size+1) cn.o).trans c7.o;have N:=c3.o.setCell (p:=⟨W.heap.size,1,none⟩) co.o (.slice (some ⟨wr.heap.size,0,none⟩) 1 1);have ac:=a1.o.own.set (a:=⟨W.heap.size,1,none⟩) a1.o.lz (.slice (some ⟨wr.heap.size,0,none⟩) 1 1);have b9:=(aZ cc ⟨W.heap.size,1,none⟩ (.slice (some ⟨wr.heap.size,0,none⟩) 1 1) wr.heap.size (by show wr.heap.size≠W.heap.size;have:=c8.o;have:=a1.o.lz;omega)).trans b8.o;clear ey a2 a3 a0 s0 e4 e5 e6 t0 t1 t2 t3;generalize cc.setCell ⟨W.heap.size,1,none⟩ _=V at y b1 N ac b9 ⊢;obtain⟨a8,a9,p2,ba⟩:=aA y;obtain⟨d6,d7,d8,d9⟩:=aA b1;obtain⟨f0,f1,f2,f3⟩:=bZ b1;have ea:=cd (v0:=.int .i64 (j:Nat)) (v1:=.slice (some ⟨wr.heap.size,0,none⟩) 1 1) (v2:=.slice A2 a c2) (v3:=.slice A3 b a7) b1;obtain⟨bb,bc,bd,bg⟩:=aA ea;unfold dC at bb bc bd bg;have eb:=zH (bI N (b:=w.heap.size+1) Rr (.int .i64 (j:Nat)) (.slice (some ⟨wr.heap.size,0,none⟩) 1 1) (.slice A2 a c2) (.slice A3 b a7));have dl:=(aT.1 b9).1;have g:=Bv (g:=⟨j,[⟨k,v,List.range a,eC a b⟩],List.range a,eC a b⟩) (zcu (e:=⟨k,v,List.range a,eC a b⟩) (c1:=d2) (c2:=d3) (by rw[show(List.range a).length=a from fX ..,show(eC a b).length=b from dw ..];exact b9) c8.o dl (xz ac.o3 ac.le) (xz ac.o4 ac.le)) (xz ac.o1 ac.le) (xz ac.o2 ac.le);have HF:=zH ((g.dC (b:=w.heap.size+1) (v0:=.int .i64 (j:Nat)) (v1:=.slice (some ⟨wr.heap.size,0,none⟩) 1 1) (v2:=.slice A2 a c2) (v3:=.slice A3 b a7) bp.o).to (hi':=(dC V (w.heap.size+1) (.int .i64 (j:Nat)) (.slice (some ⟨wr.heap.size,0,none⟩) 1 1) (.slice A2 a c2) (.slice A3 b a7)).heap.size) bo.o (fD dV.symm));clear y b1 N ac b9 ea dl g;go_wp2;refine aE (v:=.agg #[(j:Nat),.slice (some ⟨wr.heap.size,0,none⟩) 1 1,.slice A2 a c2,.slice A3 b a7]) U6 rfl ?_;rw[c4.o];refine⟨_,1,A2,c2,A3,a7,?_,HF.o,eb.o⟩;exact XM
theorem BC(xs:aH)(l r k N d G:Nat)(A I:aq)(h:aa)(a5:aW h G (iJ l r A k N) 67)(R:aJ h I xs)(Z:xs.length=l+r)(am:0<xs.length)(V:xs.length<=d)(Y:l+r<=1048576):aw 215 #[.slice I xs.length d,.pointer (some ⟨G,0,none⟩)] h fun e w'=>∃H O,e=.returned (.slice H xs.length O)/\xs.length<=O/\Fr w' h.heap.size w'.heap.size (fun W=>aJ W H (xs.drop l++xs.take l))/\ag h w':=by
 obtain⟨ac,ab⟩:=bD (fun W (T:ag h W)=>tw xs l r k N d A I W (R.ext T) Z am V Y) (fun W (T:ag h W)=>wX xs l r k N d A I W (R.ext T) Z V Y);obtain⟨n,a4⟩:=aM xs.length;obtain⟨bo,bp,bq,br⟩:=fU (Sk:r=(xs.drop l).length) (Sr:l=(xs.take l).length) (by rw[bx,gp,cG];omega:n=(xs.drop l++xs.take l).length) (Rr:r+l<=1048576);rw[<-a4]at ac ab ⊢;obtain⟨a6,a7,a8⟩:=aG a5;have F:=aF a6 (aF a7 a8);clear a5 R Z am V Y a4 a6 a7 a8;go_enter func215,ntmps215
 go_upto_region 1 with(fail)
 go_region_held3 (fun W=>ae W G 0 (.int .i64 (l:Nat))/\ae W G 1 (.int .i64 (r:Nat))/\ae W G 2 (.slice A k N))
  (first|with_reducible exact F|with_reducible exact kf (az _) F|with_reducible exact kf J.o F|with_reducible exact kf D.o F|with_reducible exact kf (D.o.alloc D.o.size _) F|with_reducible exact kf ad.o F)
  ((first|(go_at_call 174;with_reducible refine(ac.o _ (az _)).mono ?_;rintro e bv ⟨a9,d1,rfl,-,a1,ao⟩;have J:=zH ((az h).trans (ao.mono (az h).size));have bc:=zH a1;clear a1 ao)|(go_at_call 175;with_reducible refine(ab.o _ J.o).mono ?_;rintro e bu ⟨ba,d2,rfl,-,a2,U⟩;have D:=zH (J.o.trans (U.mono J.o.size));have bg:=zH (bc.o.ext U);have bd:=zH a2;clear a2 U)|(go_at_call 65;with_reducible refine(uH (xs.drop l) (xs.take l) a9 ba d1 d2 r l n bu bg.o bd.o bo.o bp.o bq.o br.o).mono ?_;rintro e bz ⟨H,O,rfl,a3,a0,ap⟩;have bi:=zH a3;have ad:=zH (D.o.trans (ap.mono D.o.size));have bb:=zH (a0.to (lo':=h.heap.size) D.o.size (af _));clear a3 a0 ap)))
 go_wp2;go_ret
 exact⟨H,O,rfl,bi.o,bb.o,ad.o⟩
end Go.Proofs.YtpieilkmmiopfaaGreatDoor
