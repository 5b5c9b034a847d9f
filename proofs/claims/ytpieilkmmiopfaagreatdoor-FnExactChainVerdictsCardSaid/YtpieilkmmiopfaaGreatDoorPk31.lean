/- Parts of the walks and laws (Sc3, Rlw2, Rlw3). Conditions: as stated with each. -/
import Derived.Test.YtpieilkmmiopfaaGreatDoorPk22
import Derived.Test.YtpieilkmmiopfaaGreatDoorPk30
namespace Go.Proofs.YtpieilkmmiopfaaGreatDoor
open Go.RowKit Tryz
set_option linter.all false
set_option maxHeartbeats 2000000
set_option maxRecDepth 100000
variable{A:aq}{B Rn:Nat}{v:ax}{w w':aa}
theorem AG(L:List er)(A:aq)(cap:Nat)(w:aa)(ao:bF 3 iR w A L)(bg:L.length<=1048576):aw 103 (cy (aO A L cap)) w (ze7 L w):=by
 have U:=((aj w.heap.size w).alloc (af _) (.cells (aO A L cap) 35)).alloc Rq (.cells oD 145);have Y:=(bJ (w.alloc (.cells (aO A L cap) 35)) (.cells oD 145) (k:=w.heap.size) Rq).trans (aC w _ rfl);have G:=aC (w.alloc (.cells (aO A L cap) 35)) (.cells oD 145) (n:=w.heap.size+1) Rq;have a1:=zH (fun ad (bc:ag w ad)=>zbC L A cap ad (bw ao bc) bg);clear ao;go_enter func103,ntmps103
 go_upto_region 1 with(fail)
 generalize (w.alloc _).alloc _=W at U Y G ⊢;have bu:=aI Y 0 rfl;obtain⟨D,a3,a4⟩:=dO U G (show w.heap.size+1<W.heap.size from(aT.1 G).1);clear U Y G;go_wp2_with ((go_at_call 149;(with_reducible refine(a1.o _ D.o).mono ?_);intro e br F;unfold ze7 at F;obtain⟨H,Z,N,I,ab,O,J,ac,R,a6,V,ap⟩:=F;subst a6;have h:=ah a3.o V;obtain⟨bo,bp,bq⟩:=aG h;have f0:=aK h 0;have f1:=aK h 1;have f2:=aK h 2;have y:=fM (v0:=.slice H Z N) (v1:=.slice I ab O) (v2:=.slice J ac R) h;obtain⟨u0,u1,u2⟩:=aG y;have a2:=zH ap;have a0:=zH (D.o.trans (V.mono D.o.size));clear V h y ap))
 refine aE (v:=.tuple #[.agg #[.slice H Z N,.slice I ab O,.slice J ac R],.bool (iQ (b_ L))]) (by simp[results,results103,go_sem, *]) rfl ⟨H,Z,N,I,ab,O,J,ac,R,rfl,((a0.o.setCell (p:=⟨w.heap.size+1,0,none⟩) (by show w.heap.size<=w.heap.size+1;omega) _).setCell (p:=⟨w.heap.size+1,1,none⟩) (by show w.heap.size<=w.heap.size+1;omega) _).setCell (p:=⟨w.heap.size+1,2,none⟩) (by show w.heap.size<=w.heap.size+1;omega) _,fun F=>?_⟩;obtain⟨s,a5,a7,a8,a9,ba,am,T⟩:=a2.o F;refine⟨s,a5,a7,a8,a9,ba,fun a e=>aR D.o.size (am a e),?_⟩;rcases T with T|⟨b,o,e,bd⟩
 .exact au T
 .subst e;refine Cs (an ⟨b,o,rfl,bd⟩) fun e=>?_
  have bb:=am _ rfl;have bi:=a4.o;cases e
  dsimp only at bb;omega
theorem dm.ext{rows:aN}(F:dm w A rows)(h:ag w w'):dm w' A rows:=F.imp id fun⟨b,o,e,J⟩=>⟨b,o,e,fun k r N=>by obtain⟨D,cap,G,H,I⟩:=J k r N;exact⟨D,cap,al h G,H,I.ext h⟩⟩
theorem fF.frC{rows:aN}(h:fF w B A rows)(D:B<=w.heap.size):Fr w B w.heap.size (fun W=>dm W A rows):=pZ (fun W F=>h W F) (fun _ _ G h=>h.ext G) D
def kB(h:Rl)(w:aa)(e:Ending)(w':aa):Prop:=∃A c,e=.returned (.agg (dF h.l h.r A h.b.length c))/\Fr w' w.heap.size w'.heap.size (fun W=>dm W A h.b)/\ag w w'
theorem kF(p:Int)(l r D:Nat)(M:aN)(A:aq)(cap:Nat)(w:aa)(a1:cN p=true)(U:bk w A M)(s:fI p D (l+r) M)(ap:D<=1048576)(a2:l+r<=1048576):aw 179 (vQ p l r A D cap) w (kB (wZ p l r M) w):=by
 obtain⟨V,Y⟩:=bA w (.cells bj 67);have R:=zH (show ∀F,ag w F->aw 214 #[p,.slice A D cap,.int .i64 ((l:Int)+(r:Int))] F (zfd (sI p (l+r) M) F) from fun F a0=>by have:=rJ p M A cap D (l+r) F a1 (U.ext a0) s ap a2;rw[show(((l+r:Nat)):Int)=(l:Int)+(r:Int) from Int.natCast_add l r]at this;exact this)
 have a6:IntKind.i64.wrap ((l:Int)+(r:Int))=(l:Int)+(r:Int):=Sq;obtain⟨H,N⟩:=bD V Y;obtain⟨I,O⟩:=aM (sI p (l+r) M);have T:=zH O;rw[<-O]at R;clear V Y U s O;go_enter func179,ntmps179
 go_upto_region 1 with(fail)
 generalize w.alloc _=W at H N ⊢;go_wp2_with (go_at_call 214;refine(R.o _ H.o).mono ?_;rintro e ab ⟨G,d,rfl,Z,J⟩;have h:=ah N.o J;obtain⟨a7,a8,a9⟩:=aG h;have f0:=aK h 0;have f1:=aK h 1;have f2:=aK h 2;have ao:=zH h;have am:=zH (Z.frC J.size);have ad:=zH (H.o.trans (J.mono H.o.size));clear h Z J)
 have a3:=bm ab w.heap.size 0 _ _ (.int .i64 (l:Nat)) ao.o;have a4:=bm _ w.heap.size 1 _ _ (.int .i64 (r:Nat)) a3;have ac:=bm _ w.heap.size 2 _ _ (.slice G I.length d) a4;simp only[zA]at ac;obtain⟨u0,u1,u2⟩:=aG ac;have a5:=(aT.1 N.o).1;refine aE (v:=.agg (dF l r G I.length d)) (by simp[results,results179,go_sem, *]) rfl ⟨G,d,by rw[T.o];rfl,?_,((ad.o.setCell (p:=⟨w.heap.size,0,none⟩) (af _) _).setCell (p:=⟨w.heap.size,1,none⟩) (af _) _).setCell (p:=⟨w.heap.size,2,none⟩) (af _) _⟩;rw[show(wZ p l r M).b=I from T.o.symm];exact(am.o.same (w':=((ab.setCell ⟨w.heap.size,0,none⟩ (.int .i64 (l:Nat))).setCell ⟨w.heap.size,1,none⟩ (.int .i64 (r:Nat))).setCell ⟨w.heap.size,2,none⟩ (.slice G I.length d)) fun q a _=>(aZ _ _ _ _ (by show q≠w.heap.size;omega)).trans ((aZ _ _ _ _ (by show q≠w.heap.size;omega)).trans (aZ _ _ _ _ (by show q≠w.heap.size;omega)))).to Rr Rq
def xf(w:aa)(r:aH)(c:bU):Prop:=∃A cap,c=[.slice A r.length cap]/\r.length<=cap/\aJ w A r
theorem xf.ext{a b:aa}{r:aH}{c:bU}(D:ag a b)(h:xf a r c):xf b r c:=by obtain⟨A,cap,e,F,h⟩:=h;exact⟨A,cap,e,F,h.ext D⟩
theorem uG:RT prog 55 26 1 (.slice none 0 0) 24:=⟨gF,RP,Rs,Rs,Rs⟩
theorem jR{rows:aN}(h:bF 1 xf w A rows):dm w A rows:=by
 rcases h with h|⟨b,o,e,H⟩
 .exact au h
 .refine an ⟨b,o,e,fun k r I=>?_⟩;obtain⟨c,F,D,cap,rfl,J,G⟩:=H k r I;have:=F 0 _ rfl;rw[eG,iM]at this;exact⟨D,cap,this,J,G⟩
theorem uH(F G:aH)(A1 H:aq)(c1 c2 I n2 n:Nat)(h:aa)(ab:aJ h A1 F)(ac:aJ h H G)(V:I=F.length)(Y:n2=G.length)(Z:n=(F++G).length)(a0:I+n2<=1048576):aw 65 #[.slice (some ⟨h.heap.size,0,none⟩) 2 2] (h.alloc (.cells (kX A1 I c1 H n2 c2) 26)) fun e w'=>∃N O,e=.returned (.slice N n O)/\n<=O/\Fr w' h.heap.size w'.heap.size (fun W=>aJ W N (F++G))/\ag h w':=by
 have J:=ak h (.cells (kX A1 I c1 H n2 c2) 26);obtain⟨ao,ap,-,-⟩:=dd (aC h (.cells (kX A1 I c1 H n2 c2) 26) rfl);have ad:bk (h.alloc (.cells (kX A1 I c1 H n2 c2) 26)) (some ⟨h.heap.size,0,none⟩) [F,G]:=an ⟨h.heap.size,0,rfl,fun k r D=>by
  match k,D with
  |0,D=>simp at D;subst D;exact⟨A1,c1,by rw[<-V];exact ao,ab.ext J⟩
  |1,D=>simp at D;subst D;exact⟨H,c2,by rw[<-Y];exact ap,ac.ext J⟩
  |k+2,D=>simp at D⟩
 have:=tz [F,G] (some ⟨h.heap.size,0,none⟩) 2 _ ad Rq (fun k _=>by
  match k with
  |0=>simp
  |1=>simp;omega
  |k+2=>simp;omega)
 refine gG this ?_;rintro e w' ⟨u,rfl,R,T⟩;have am:[F,G].flatten=F++G:=Rq;rw[am]at R;obtain⟨N,O,rfl,-,U,-⟩:=R.view;rw[<-Z]at U ⊢;exact⟨N,O,rfl,U,(R.fr T.size).to J.size (af _),J.trans (T.mono J.size)⟩
section
open Go.ChangeShapes Go.WideShapes Go.ChangeAt Go.Deep Go.Joins
section
variable{H:Type}{enc:TypeId×Value->H}{W:aa}
theorem zg1{cs:bU}{y:DataW H×List MemPlace}(ac:DataW.trod enc prog W 0 (fun _=>true) true Rn 91 cs=some y):∃(x:ft) (A:aq) (cap:Nat),cs=[.int .i64 x.k,.int .i64 x.a,.int .i64 x.b,.int .i64 x.c,.slice A x.row.length cap]/\aJ W A x.row/\x.row.length<=maxLen:=by
 obtain⟨xs,n,_,_,ad,am,h⟩:=yY underlying91 ac;obtain⟨v0,v1,v2,v3,v4,rfl⟩:∃v0 v1 v2 v3 v4,cs=[v0,v1,v2,v3,v4]:=by
  match cs,ad.trans Ch with
  |[v0,v1,v2,v3,v4],_=>exact⟨v0,v1,v2,v3,v4,rfl⟩
 obtain⟨D,F,G,I,J,rfl⟩:∃D F G I J,xs=[D,F,G,I,J]:=by
  match xs,am with
  |[D,F,G,I,J],_=>exact⟨D,F,G,I,J,rfl⟩
 have U:=h 0 _ rfl;have V:=h 1 _ rfl;have Y:=h 2 _ rfl;have Z:=h 3 _ rfl;have ab:=h 4 _ rfl;simp only[lZ,Cg,Value.cells,yZ,DS,qt,mW,cZ,cP]at U V Y Z ab;obtain⟨k,N,_,_⟩:=qu gE U;obtain⟨a,O,_,_⟩:=qu gE V;obtain⟨b,R,_,_⟩:=qu gE Y;obtain⟨c,T,_,_⟩:=qu gE Z;obtain⟨A,row,cap,rfl,ao⟩:=yK ab;simp[lZ]at N O R T;subst N O R T;exact⟨⟨k,a,b,c,row⟩,A,cap,rfl,ao⟩
theorem zeK{x:DataW H×List MemPlace}(I:DataW.trod enc prog W 0 (fun _=>true) true Rn 25 [v]=some x):∃(A:aq) (xs:List ft) (cap:Nat),v=.slice A xs.length cap/\fL W A xs/\xs.length<=maxLen/\∀x∈xs,x.row.length<=maxLen:=by
 rcases open_slice underlying25 I with⟨Fp,_⟩|⟨a,len,cap,m,n,ao,ap,Fp,_,a0,a2,ab,_,hi⟩
 .exact Yj
 .obtain rfl:v=.slice (some a) len cap:=Sz;have a1:len<=m:=by rw[ab];split <;>omega
  have F:∀i,∃x:ft,i<len->∃A c,(∀(j:Nat) (y:ax),[Value.int .i64 x.k,.int .i64 x.a,.int .i64 x.b,.int .i64 x.c,.slice A x.row.length c][j]?=some y->W.cell? (a.add (i*5+j))=some y)/\aJ W A x.row/\x.row.length<=maxLen:=fun i=>by
   by_cases Y:i<len
   .obtain⟨cs,O,ad⟩:=hi i Rr;rw[Ch]at O;obtain⟨x,A,c,rfl,h1,J⟩:=zg1 ad;obtain⟨_,_,V⟩:=World.cells?_some O;refine⟨x,fun _=>⟨A,c,fun j y G=>?_,h1,J⟩⟩;have h:j<5:=(bG.1 G).1;rw[<-Go.Deep.add_add,V j h,G]
   .exact⟨⟨0,0,0,0,[]⟩,fun I=>absurd I Y⟩
  obtain⟨X,N⟩:∃X:Nat->ft,∀i,i<len->∃A c,(∀(j:Nat) (y:ax),[Value.int .i64 (X i).k,.int .i64 (X i).a,.int .i64 (X i).b,.int .i64 (X i).c,.slice A (X i).row.length c][j]?=some y->W.cell? (a.add (i*5+j))=some y)/\aJ W A (X i).row/\(X i).row.length<=maxLen:=
   ⟨fun i=>Classical.choose (F i),fun i=>Classical.choose_spec (F i)⟩
  have Z:((List.range len).map X).length=len:=Rq;refine⟨some a,(List.range len).map X,cap,by rw[Z],?_,Rr,fun r hr=>?_⟩
  .by_cases T:len=0
   .subst T;exact au rfl
   .obtain⟨b,o,am⟩:=a;have ac:am=none:=by obtain⟨A,c,h1,_⟩:=N 0 Rr;exact WU
    subst ac;refine an ⟨b,o,rfl,fun k x D=>?_⟩;have R:k<len:=by have:=(bG.1 D).1;omega
    have F:x=X k:=by simpa[R]using D.symm
    subst F;obtain⟨A,c,h1,J,_⟩:=N k R;have h:∀(j:Nat) (y:ax),[Value.int .i64 (X k).k,.int .i64 (X k).a,.int .i64 (X k).b,.int .i64 (X k).c,.slice A (X k).row.length c][j]?=some y->ae W b (o+k*5+j) y:=fun j y G=>by have:=h1 j y G;rwa[add_plain,<-oO]at this
    exact⟨A,c,⟨h 0 _ rfl,h 1 _ rfl,h 2 _ rfl,h 3 _ rfl,h 4 _ rfl⟩,J⟩
  .obtain⟨k,D,rfl⟩:=cM.1 hr;obtain⟨_,_,_,_,U⟩:=N k (fi.1 D);exact U
end
end
end Go.Proofs.YtpieilkmmiopfaaGreatDoor
