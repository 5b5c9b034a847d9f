/- Parts of the walks. Conditions: as stated with each. -/
import Derived.Test.YtpieilkmmiopfaaGreatDoorPk13
namespace Go.Proofs.YtpieilkmmiopfaaGreatDoor
open Go.RowKit Tryz
set_option linter.all false
set_option maxHeartbeats 8000000
set_option maxRecDepth 100000
variable{A:ax}{B' J c k n:Nat}{R:Rl}{V w:aa}{a:Act}{g:Gr}{xs:aL}
def zeJ x left w(D:x.s.size<=maxLen)(G:0<=left)(H:left<=1048576):az 47 (jy (re x) left) w fun e w'=>∃r,e=.returned (zI r)/\Þ left r x.s.size/\ag w w':=by
 have h:=zH (aw w (.cells (re x) 88));obtain⟨k,v,s⟩:=x;dsimp only at D h ⊢;unfold maxLen at D;by_cases F:left-s.size<0
 .go_enter func47,ntmps47
  go_wp2;go_ret
  exact⟨_,rfl,ay Qw,h⟩
 .go_enter func47,ntmps47
  go_wp2;go_ret
  exact⟨_,rfl,au Qu,h⟩
def zc9 A ε L(left:Int)w(G:bR 3 jK w A L)(ab:L.length<=maxLen)(I:∀x∈L,x.s.size<=maxLen)(av:0<=left)(a0:left<=1048576):az 21 #[.slice A L ε,left] w fun e w'=>∃r,e=.returned (zI r)/\Þ left r L/\ag w w':=by
 unfold maxLen at ab;by_cases am:left-L.length<0
 .go_enter func21,ntmps21
  exact Wu
 .go_enter func21,ntmps21
  go_wp2;go_loopw [1,5] (fun l i wr=>∃(k:Nat) (q:Int),k<=L.length/\i=.int .i64 k/\l=.int .i64 q/\0<=q/\q<=left/\ag w wr) (fun _ i _=>L.length-(intOf i).toNat)
  case atStart=>exact⟨0,_,aW _,rfl,rfl,Qu,Qu,al _ _⟩
  case round=>
   obtain⟨k,q,ap,rfl,rfl,J,ac,h⟩:=hrel;by_cases Z:k<L.length
   .have⟨r,D⟩:=aq Z;obtain⟨b,o,rfl,ah,c1,c2⟩:=iF (bQ G h) D;have⟨U,T⟩:=bJ (I r (aU D)) h;clear D I G h;go_wp2_with ((go_at_call 47;refine(zeJ _ _ _ U J Qu).x ?_;rintro e w' ⟨ad,rfl,O,H⟩;have Y:=zH O;have FV:=zH (aJ T.o H);clear O H))
    .exact Wm
    .go_roundw
     case rel=>
      rcases Y.o with F|⟨F,an,ao⟩
      .omega
      .exact⟨k+1,ad,Qu,Qx,rfl,F,Qu,FV⟩
     case measure=>simp[intOf];omega
   .go_wp2;go_ret
    exact⟨_,rfl,au ⟨J,ac,Qu⟩,h⟩
def tw A ε L left w(D:bR 3 jK w A L)(U:L.length<=maxLen)(Y:∀x∈L,x.s.size<=maxLen)(O:0<=left)(T:left<=1048576):az 6 (jy (aV A L ε) left) w fun e w'=>∃r,e=.returned (zI r)/\Þ left r L/\ag w w':=by
 have h:=aw w (.cells (aV A L ε) 24);have H:=zH h;have J:=bQ D h;clear h D;go_enter func6,ntmps6
 go_wp2_with ((go_at_call 21;refine(zc9 _ _ _ _ _ J U Y O T).x ?_;rintro e w' ⟨Z,rfl,G,F⟩;have I:=zH G;have FV:=zH (aJ H F);clear G F))
 .exact Wm
 .go_ret
  exact⟨_,rfl,I,FV⟩
def zeK x w:az 51 (cY (re x)) w fun e w'=>e=.returned (.agg (re x))/\ag w w':=by
 obtain⟨k,v,s⟩:=x;dsimp only;go_enter func51,ntmps51
 go_wp2;refine aI (v:=.agg (dN k v s)) (by simp[results,results51,go_sem, *]) rfl ⟨rfl,?_⟩
 repeat (refine lj ?_ Rs _)
 exact(((al _ _).alloc Qt _).alloc Qt _).alloc Rs _
def ed(w:aa)(B:Nat)(v:aG)(L:List eE):Prop:=w.ownsRow B 95 3 v L.length (L.map DY).flatten
def é:eE:=⟨0,0,ByteArray.mk #[]⟩
def zaw:∀{L:List eE} {k j:Nat} {x:eE},L[k]?=some x->j<3->(L.map DY).flatten[k*3+j]?=(DY x)[j]?
 |L,k,j,x,h,D=>mM (fun c hc=>Ua) (by rw[bI,h];rfl) D
def zg8(L:List eE):(L.map DY).flatten.length=L*3:=by rw[mL (s:=3) (fun c hc=>Ua),bs]
def Ź:∀{L:List eE} {k:Nat} (x:eE),k<L.length->((((L.map DY).flatten.set (k*3) (zI x.k)).set (k*3+1) (zI x.v)).set (k*3+2) (.string x.s))=((L.set k x).map DY).flatten
 |[],k,x,hk=>by simp at hk
 |y::L,0,x,hk=>by simp[DY]
 |y::L,k+1,x,hk=>by
  have:=Ź (L:=L) (k:=k) x Rj;simp only[xh,se,uH];rw[<-this];have e:∀j,(k+1)*3+j=(k*3+j)+3:=fun j=>Qu
  have h:(k+1)*3=k*3+3:=Qu;simp only[DY,wZ,rP,e,h,xh]
def zeL n:(madeCells (Value.agg #[.int .i64 0,.int .i64 0,.string (ByteArray.mk #[])]).cells (n*3)).toList=((List.replicate n é).map DY).flatten:=by
 apply gk;intro i;by_cases hi:i<n*3
 .have D:i / 3<n:=Qu;have:=zaw (L:=List.replicate n é) (k:=i / 3) (j:=i%3) (x:=é) (by simp[D]) Qu;rw[show i / 3*3+i%3=i by omega]at this;rw[this];have F:i%3=0∨i%3=1∨i%3=2:=Qu;rcases F with h|h|h<;>simp[madeCells,Value.cells,hi,h,DY,é]
 .rw[eP (by simp[madeCells];omega),eP (by rw[zg8];simp;omega)]
section
variable{w w':aa}{B:Nat}{v:aG}{L:List eE}
def ed.zmY(h:ed w B v L)(F:B<=(w:Nat)):bw 95 3 jK w B v L:=
 ⟨L.map DY,h,bs _,fun k x c G D=>by
  rw[bI,G]at D;cases D
  exact⟨rfl,fun u hu=>VB,B,B,ae _,F,fun g e=>au (bS h g e).1,Fr.all fun _=>rfl⟩⟩
def ed.ext(D:ed w B v L)(h:ag w w'):ed w' B v L:=jA D (row:=none) ⟨h.os,h.tape,h.output,h.size,fun k F _=>h.block k F⟩ TC
def ed.y(D:ed w B v L)(J:∀k,B<=k->w'.heap[k]?=w.heap[k]?):ed w' B v L:=⟨D.1,D.2.E id fun⟨g,ε,I,F,h,G,H⟩=>⟨g,ε,I,F,h,(J g h).t G,H⟩⟩
def ed.setCell(h:ed w B v L){a}(D:a.block<B)u:ed (w.setCell a u) B v L:=h.y fun k F=>a_ _ _ _ _ Qu
def ed.À(h:ed w B v L)(I:B'<=B):ed w B' v L:=⟨h.1,h.2.E id fun⟨g,ε,G,D,H,F⟩=>⟨g,ε,G,D,Qu,F⟩⟩
def ed.cells{g ε}(J:n=L.length)(F:ed w B (.slice (bH g) n ε) L)(I:k<n):∃x,L[k]?=some x/\(af w g (k*3) (zI x.k)/\af w g (k*3+1) (zI x.v)/\af w g (k*3+2) (.string x.s))/\(w.frozen? ⟨g,k*3,none⟩=false/\w.frozen? ⟨g,k*3+1,none⟩=false/\w.frozen? ⟨g,k*3+2,none⟩=false):=by
 subst J;have⟨x,G⟩:=aq I;have D:∀j,j<3->w.cell? ⟨g,k*3+j,none⟩=(DY x)[j]?:=fun j H=>by rw[World.ownsRow.C F _ Qu,zaw G H]
 have h:=World.ownsRow.g F;exact⟨x,G,⟨D 0 Qw,D 1 Qw,D 2 Qw⟩,⟨h _,h _,h _⟩⟩
def ed.put{g ε}x(I:n=L.length)(G:ed w B (.slice (bH g) n ε) L)(H:k<n):ed (((w.setCell ⟨g,k*3,none⟩ (zI x.k)).setCell ⟨g,k*3+1,none⟩ (zI x.v)).setCell ⟨g,k*3+2,none⟩ (.string x.s)) B (.slice (bH g) n ε) (L.set k x)/\w.grownBy (((w.setCell ⟨g,k*3,none⟩ (zI x.k)).setCell ⟨g,k*3+1,none⟩ (zI x.v)).setCell ⟨g,k*3+2,none⟩ (.string x.s)) (some g):=by subst I;have h:=World.ownsRow.j G (k*3) (zI x.k);have D:=h.1.j (k*3+1) (zI x.v);have F:=D.1.j (k*3+2) (.string x.s);refine⟨?_,cx (cx h.2 D.2) F.2⟩;have:=F.1;rw[Ź x H]at this;unfold ed;simpa using this
def ed.p(h:ed w B v L)(G:B<=(w:Nat)):∃A ε,v=.slice A L ε/\bR 3 jK w A L/\L.length<=ε:=by obtain⟨A,ε,e,D,F,-⟩:=(h.zmY G).p;exact⟨A,ε,e,D,F⟩
end
def zda A ε L w(ab:bR 3 jK w A L)(a7:L.length<=1048576):az 26 (aV A L ε) w fun e w'=>∃u,e=.returned u/\ed w' w u L/\ag w w':=by
 have⟨a3,hi,a1,a2,FU⟩:=dp þ.Ï;go_enter func26,ntmps26
 go_wp2_with ((at_make;refine jg _ rfl _ _ 33 rfl w.heap.size 95 a3 (.agg (CX (ByteArray.mk #[]))) 3 underlying33 hi a1 a2 .i64 .i64 L.length L.length L.length rfl rfl rfl rfl RF SL (ae _) ?_;intro a4 h ad))
 have ac:=cy ad;rw[zeL]at h;have U:=zH (by unfold ed;rw[fA];exact h:ed a4 w (.slice (bH w) L L) (List.replicate L é));clear h ad;go_loopw [4] (fun i wr=>∃k:Nat,k<=L.length/\i=.int .i64 k/\ed wr w (.slice (bH w) L L) (eF L é k)/\ag w wr)
  (fun i _=>L.length-(intOf i).toNat)
 case atStart=>exact⟨0,aW _,rfl,by rw[iP];exact U,ac⟩
 case round=>
  obtain⟨k,a6,rfl,h,D⟩:=hrel;have Y:=zH h;clear h U ac;by_cases G:k<L.length
  .have⟨r,I⟩:=aq G;obtain⟨a5,o,rfl,ap,c1,c2⟩:=iF (bQ ab D) I;obtain⟨ao,T⟩:=bJ (jq L é r k I) (by simp[eF];omega:L.length=(eF L é k));have a0:=D.size;have ah:=zH D;clear I ab D;go_wp2_with ((go_at_call 51;refine(zeK _ _).x ?_;rintro e a8 ⟨rfl,F⟩;have J:=zH F;have O:=zH (Y.ext F);obtain⟨a9,_,⟨d0,d1,d2⟩,⟨f0,f1,f2⟩⟩:=O.cells T.o G;clear F))
   have H:=O.put r T.o G;have⟨an,am⟩:=bJ H.1 H.2;clear H d0 d1 d2 f0 f1 f2 ap c1 c2;go_roundw
   case rel=>exact⟨k+1,Qu,Qx,by rw[<-ao.o];exact an,(ah.t (J.o.x a0)).t (rY (al w _) am (by have:=J.o.size;omega) (fun b av=>by cases av;exact ae _))⟩
   case measure=>simp[intOf];omega
  .go_wp2;go_ret
   have Z:=Y.o;rw[jo _ _ _ Qu]at Z;exact⟨_,rfl,Z,D⟩
def tx A ε L w(Y:bR 3 jK w A L)(ao:L.length<=1048576):az 9 (cY (aV A L ε)) w fun e w'=>∃D c2,e=.returned (.agg (aV D L c2))/\L.length<=c2/\ed w' w (.slice D L c2) L/\ag w w':=by
 have F:=ζ w (.cells (aV A L ε) 24) (.cells lU 35) (.cells lU 35);have⟨I,J,G⟩:=cD w (.cells (aV A L ε) 24) (.cells lU 35) (.cells lU 35);go_enter func9,ntmps9
 go_upto_region 2 with(fail)
 generalize ((w.alloc _).alloc _).alloc _=W at F I J G ⊢;have ad:=zH (bQ Y F);have a0:=aF I 0 rfl;obtain⟨O,T,U,ah⟩:=gG F J G (show(w:Nat)+1+1<W from(bk.1 G).1);clear Y F I J G;go_wp2_with (go_at_call 26;(with_reducible refine(zda A ε L W ad.o ao).x ?_);rintro e av ⟨u,rfl,H,h⟩;obtain⟨D,c2,rfl,-,Z⟩:=ed.p H h.size;have am:=zH H;have ac:=zH Z;have ab:=zH (aJ O h);have a1:=aF (ai T.o h) 0 rfl;have f1:=aK (ai T.o h) 0;have a2:=aF (ai U h) 0 rfl;have f2:=aK (ai U h) 0;have ap:=zH h.size;clear H h Z)
 refine aI (v:=.agg (aV D L c2)) (by simp[results,results9,go_sem, *]) rfl ⟨D,c2,rfl,ac,?_,?_⟩
 .have an:=ah.o;exact((am.setCell (a:=⟨(w:Nat)+1+1,0,none⟩) an (.slice D L c2)).setCell (a:=⟨(w:Nat)+1,0,none⟩) (by show(w:Nat)+1<_;omega) (.slice D L c2)).À (by have:=O.size;omega)
 .exact(ab.setCell (p:=⟨(w:Nat)+1+1,0,none⟩) Rs _).setCell (p:=⟨(w:Nat)+1,0,none⟩) Qt _
def zh1 p(g:Gr):g.rows p=g.es.flatMap fun e=>(e.G p).map (iE p g.w):=by unfold Gr.rows Gr.V;rw[List.map_flatMap]
def zbW p g A1 H I c1 c2 ab w(ba:bV p=true)(a6:jV w A1 H I g)(hg:g.B=true)(bd:∀e∈g.es,0<=e.v/\e.v<p):az 116 (gj p (bj g A1 c1 H c2 I ab)) w (Ct (g.lN p) w):=by
 have⟨hp,JC⟩:=cv ba;refine OF fun G8 If Ie F0=>?_
 obtain⟨bu,IW,JE,HV,a1,ao⟩:=ny (fun V (hV:ag w V)=>a6.ext hV) If G8.2.2.2.2.1 bd (zh1 p g) (fun V ah b5 N (h:bt V ah (g.rows p)) (b9:N=(g.rows p).length) (ca:N<=1048576)=>zen p (g.rows p) ah b5 N g.w V ba h (by rw[b9];have:=Gr.zc hp G8.2.2.2.2.1 If;rw[<-this.1]at this;exact this) ca Qu);have⟨gw,ac⟩:=aR g.w;have IV:=zH ac;rw[<-ac]at Ie ao a1 ⊢;have hq:=aH w (.cells (fw gw A1 g.es c1 H g.i c2 I g.o ab) 54) rfl;have hB:=aw w (.cells (fw gw A1 g.es c1 H g.i c2 I g.o ab) 54);clear ac;go_enter func116,ntmps116
 go_upto_region 1 with(fail)
 generalize w.alloc _=Z at hq hB ⊢;refine NQ fun x0 x1 x2 x3 HB HQ=>?_
 go_wp2;go_loopw [5,11] (fun u i wr=>∃(j:Nat) (X:aP),j<=g.es.length/\i=.int .i64 j/\X=((g.es.take j).flatMap fun e=>(e.G p).map (iE p gw))/\X.length<=2*j/\bw 26 1 ERa wr Z u X/\ag Z wr) (fun _ i _=>g.es.length-(intOf i).toNat)
 case atStart=>exact⟨0,[],aW _,rfl,Qt,Qt,bw.nil _ _ _ _ _,al _ _⟩
 case round=>
  obtain⟨j,X,cp,rfl,J,a7,G,F⟩:=hrel;have Y:=zH (aT HB F);by_cases ce:j<g.es.length
  .have⟨e,T⟩:=aq ce;have⟨cn,co,D1,e1,D2,e2,cb,u0,u1,u2,u3,hi1,hi2⟩:=fU (bu wr Y).es T;subst cb;have a3:=zH (by rw[du,T,Di,J];simp:((g.es.take (j+1)).flatMap fun e=>(e.G p).map (iE p gw))=X++(e.G p).map (iE p gw));have I0:=aU T;obtain⟨kk,vv,ei,JH⟩:=e;dsimp only at u0 u1 u2 u3 hi1 hi2;have⟨D,ad⟩:=bM wr (.cells (eh kk vv D1 ei e1 D2 JH e2) 155);refine Pg fun Ib R hR=>?_
   rw[<-hR]at Ib a3;have⟨a0,a4,av,U,am,ap⟩:=ny (Vh:R.length<=2) a7 (ai (ai HQ F) D) (aT F D) D (G.ext D);have b1:=zH (show ∀g,u5.ownBlock=some g->g < (wr:Nat) from fun g h=>by obtain⟨cs,ch⟩:=G;exact(bS ch.η g h).2)
   clear hR;go_upto_region 5 with(fail)
   have a2:=zH (Qt:(wr:Nat)<=(wr.alloc (.cells (eh kk vv D1 ei e1 D2 JH e2) 155)));generalize wr.alloc _=cj at D ad av U am ap a2 ⊢;have⟨cq,cr,n2,ct⟩:=aB ad;have⟨x0,x1,x2,x3⟩:=aB av;go_wp2_with (first|(go_at_call 113;(with_reducible refine(Ib.o _ am.o).x ?_);intro e bh h;unfold ñ at h;obtain⟨bi,b3,b7,bb,O⟩:=h;subst b7;have br:=zH bb;have an:=zH (aT U O);have b0:=zH (ap.ext O);have ck:=zH O.size)|(at_builtin;refine Ba rfl _ _ rfl Z cj bh bh _ X R bi b3 b0.o br.o (fun g h=>ay (by have:=b1 g h;have:=a2.o;omega)) U.o.size (ae _) (by have:=an.size;omega) (by have:=a4.o;have:=a0.o;omega) rfl rfl ?_;intro cu wc bc cc ci a8;have bz:=zH bc;have bp:=zH (an.t a8)))
   go_roundw
   case rel=>exact⟨j+1,X++R,Qu,Qx,a3.q,by rw[bm];have:=a4.o;have:=a0.o;omega,bz,bp⟩
   case measure=>simp[intOf];omega
  .obtain rfl:j=g.es.length:=Qu;rw[cZ (ae _),<-a1.o]at J;subst J;obtain⟨bn,b4,rfl,a5,-⟩:=G.p;have bv:=zH (ao wr bn b4 _ (sq a5) rfl Qu);have⟨x0,x1,x2,x3⟩:=aB (ai HQ F);go_wp2_with (go_at_call 157;refine bv.x ?_;intro e cz h;obtain⟨bo,b6,b8,bg,a9⟩:=h;subst b8;have b2:=zH bg;have bq:=zH a9)
   go_ret
   have be:g.lN p=xN p gw (g.rows p):=by unfold Gr.lN;rw[IV.o]
   exact⟨bo,b6,by rw[be];rfl,by rw[be];exact b2.x Y.size,aT Y bq⟩
section
variable{p:Int}
def zdC l v:nA v (bD l)=eC l v:=by unfold nA eC bD;rw[nr];exact kB fun x _=>Qt
def zdD(h:bV p=true)(F:∀e∈g.es,e.jd=true)(H:g.In):(g.lN p).length<=g.w:=by
 have D:=(cv h).1;unfold Gr.lN xN;have s:=wE (p:=p) (n:=g.w) (R:=j5 p g.w (g.rows p)) D;have:=Eu h s;have G:(xM g.w (j5 p g.w (g.rows p))).length<=g.w:=by unfold xM;exact aZ (C4 _ _) Qt
 unfold ú;omega
def Į(D:g.In):∀x∈g.i++g.o,x<g.w:=fun x F=>by
 rcases dP.1 F with h|h
 .exact D _ (ay h)
 .exact D _ (au (ay h))
def zjl(G:bV p=true)(F:∀e∈g.es,e.jd=true)(h:g.In):eV p (g.lN p) (g.i.length+g.o) ((g.lN p).map (eC (g.i++g.o))):=by
 have D:=Gr.D0 G F h;refine eV.yP D fun r H=>?_
 refine⟨by unfold eC;rw[bs,bm],fun d hd=>?_⟩;rw[CH RP];exact D.vY H (Į h _ (ku RP))
def zm6(R:Rl)(w:aa)(e:Ending)(w':aa):Prop:=∃A c,e=.returned (.tuple (fH (dh R.l R.r A R.b c)))/\Fr w' w w' (fun W=>cS W A R.b)/\ag w w'
def zdE p g A1 F H c1 c2 I w(Y:bV p=true)(am:jV w A1 F H g)(an:g.B=true)(c0:∀e∈g.es,0<=e.v/\e.v<p)(cr:Ð p g=true):az 80 (gj p (bj g A1 c1 F c2 H I)) w (zm6 (g.qw p) w):=by
 have⟨fd,fl⟩:=cv Y;have T:=Gr.iT.1 an;have ac:=Gr.mE an;have e8:g.w<=100:=T.1;have fb:g.i.length<=12:=T.2.2.1;have fc:g.o.length<=12:=T.2.2.2.1;obtain⟨d2,b4,bd,b9,cj,ck,dr⟩:=ß (fun V (J:ag w V)=>am.ext J) (fun V (J:ag w V)=>(by have:=BO p g A1 F H c1 c2 I V (am.ext J) an;rw[cr]at this;exact this:az 76 (gj p (bj g A1 c1 F c2 H I)) V (dt V true))) (fun V (J:ag w V)=>zbW p g A1 F H c1 c2 I V Y (am.ext J) an c0) (fun V (J:ag w V)=>(by have:=iR F c2 (bD g.i) V (am.ext J).i Rn;rw[aS]at this;exact this:az 70 #[.slice F g.i c2] V fun e w'=>∃u,e=.returned u/\aE w' V u (bD g.i)/\ag V w')) (Gr.D0 Y T.2.2.2.2.1 ac) (zdD (p:=p) Y T.2.2.2.2.1 ac) (Į ac);have bh:=zH (fun V A ε N (h:bt V A ((g.lN p).map (eC (g.i++g.o)))) (em:N=(g.lN p).length)=>(by
  subst em;exact ziA p g.i g.o (g.lN p) ((g.lN p).map (eC (g.i++g.o))) A ε V Y h (zjl Y T.2.2.2.2.1 ac) (by have:=zdD (p:=p) Y T.2.2.2.2.1 ac;omega) Qu:
  az 117 #[p,(g.i:Nat),(g.o:Nat),.slice A N ε] V (lJ (g.qw p) V)))
 have⟨G,cq⟩:=aR (g.lN p);rw[<-cq]at bd cj ck bh;have⟨n,cO⟩:=aR (g.i.length+g.o);have be:=zH (by rw[bm,aS,aS,cO]:(bD g.i++bD g.o).length=n);have fa:n<=24:=Qu;have fo:G.length<=100:=by have:=ck.o;omega
 have a5:=(bO (w.alloc (.cells (bj g A1 c1 F c2 H I) 54)) (.cells bx 67) (k:=w.heap.size) Qt).t (aH w _ rfl);have hr:=aH (w.alloc (.cells (bj g A1 c1 F c2 H I) 54)) (.cells bx 67) (n:=(w:Nat)+1) Qt;have bo:=((al w w).alloc (ae _) (.cells (bj g A1 c1 F c2 H I) 54)).alloc Qt (.cells bx 67);clear cq cO;go_enter func80,ntmps80
 go_upto_region 1 with(fail)
 generalize (w.alloc _).alloc _=W at bo a5 hr ⊢;have⟨a6,a7,a8,a9⟩:=aB a5;have⟨b5,d6,d7⟩:=er bo a5 hr;go_upto_region 3 with(go_at_call 76;(with_reducible refine(b4.o _ b5.o).x ?_);rintro e c5 ⟨rfl,bq⟩;have cn:=zH bq;have bc:=zH (aT b5 bq))
 have⟨cc,d9⟩:=bJ (ai d6 cn) (ai d7 cn);have⟨c6,c7,b2,c8⟩:=aB cc;have a1:=aQ b2 c8;go_region_held3 (fun V=>af V w 2 (.slice F g.i c2)/\af V w 3 (.slice H g.o I))
  (first|with_reducible exact j6 av.o a1|with_reducible exact j6 a0.o a1|exact a1)
  ((first|(go_at_call 70;(with_reducible refine(b9.o _ (bc.o.drew)).x ?_);rintro e c4 ⟨u1,rfl,cV,ct⟩;have av:=zH ((aC c5).t ct);have ea:=zH cV;have d3:=zH (d2 c4 (aT bc av)).o)|(refine df rfl (.tmp 17) (.tmp 19) rfl c5 c4 u1 (bD g.i) (bD g.o) H g.o I (aS _).q rfl rfl ea.o d3.o Rn av.o.size ?_;intro v5 eB cW cu;obtain⟨ba,co,ei,cI,-,-⟩:=cW.p;subst ei;have a0:=zH (av.t (cu.x (ae _)));have b8:=zH cI;rw[be.o])))
 have⟨b6,cb,d8⟩:=er (aT bc a0) (ai cc a0) (ai d9 a0);obtain⟨c9,ca⟩:=bJ (by rw[jr];exact b8:aO eB ba (bD (g.i++g.o))) (by rw[jr];exact be:(bD (g.i++g.o)).length=n);have⟨a6,a7,a8,a9⟩:=aB cb;go_wp2_with (go_at_call 116;(with_reducible refine(bd.o _ b6.o).x ?_);intro e b0 h;obtain⟨e2,d,eg,cB,br⟩:=h;subst eg;have eb:=zH (cB.fr br.size);have bi:=zH br)
 have db:=zH (aT b6 bi);go_loopw [7,25] (fun u i wr=>∃k:Nat,k<=G.length/\i=.int .i64 k/\bw 26 1 ERa wr b0 u ((G.take k).map (eC (g.i++g.o)))/\ag b0 wr) (fun _ i _=>G.length-(intOf i).toNat)
 case atStart=>exact⟨0,aW _,rfl,by simpa using bw.nil _ _ _ _ _,al _ _⟩
 case round=>
  obtain⟨k,e9,rfl,ad,U⟩:=hrel;by_cases ey:k<G.length
  .have⟨r,hr⟩:=aq ey;have ez:=cj.row r (aU hr);rcases eb wr (fun q e6 ek=>U.block q ek)with h|⟨fx,fy,es,cA⟩
   .exact V9
   subst es;obtain⟨b3,cp,e7,cK⟩:=cA k r hr;have ab:=aT bi U;have b7:=zH (by
    have:=qG r b3 cp (bD (g.i++g.o)) ba co wr cK (c9.ext ab) Qu (by rw[ca.o];omega) (fun i hi=>by obtain⟨x,eA,rfl⟩:=cH.1 hi;have:=dr x eA;omega)
    rw[ca.o,zdC]at this;exact this:az 82 #[.slice ba n co,.slice b3 r cp] wr fun e w'=>∃u,e=.returned u/\aE w' wr u (eC (g.i++g.o) r)/\ag wr w')
   obtain⟨Gl,Gu⟩:=bJ (by rw[du,hr,kA];rfl:(G.take (k+1)).map (eC (g.i++g.o))=(G.take k).map (eC (g.i++g.o))++[eC (g.i++g.o) r]) (by rw[bs,cQ];omega:((G.take k).map (eC (g.i++g.o))).length=k);obtain⟨u0,a2,rfl,-⟩:=ad.p;rw[Gu.o];have⟨bg,ap⟩:=bJ ad U;have⟨y,c3⟩:=aR (eC (g.i++g.o) r);rw[<-c3]at b7 Gl;have d5:=zH (show ∀g,(Value.slice u0 k a2).ownBlock=some g->g < (wr:Nat) from fun g e=>by obtain⟨cs,h⟩:=bg.o;rw[Gu.o]at h;exact(bS h.η g e).2)
   rw[Gu.o]at bg;clear c3 ez;go_wp2_with (first|(go_at_call 82;refine b7.x ?_;rintro e ao ⟨u,rfl,bv,a3⟩;obtain⟨bb,bz,rfl,-⟩:=bv.p;have bn:=zH a3;have dT:=zH (bv.fr a3.size);have d4:=zH (bg.ext a3))|(at_builtin;refine de yb rfl (.tmp 29) (.tmp 33) rfl b0 (ao.alloc (.cells (aV bb y bz) 26)) (.slice u0 k a2) ((G.take k).map (eC (g.i++g.o))) y [.slice bb y bz] ao (d4.ext (aw _ _)) rfl SU ⟨wr,ao,ap.size,(aw _ _).size,fun g e=>ay (d5 g e),(dT.ext (aw _ _) (ae _)).E fun V J=>⟨bb,bz,rfl,J⟩⟩ R5 (aZ ap.size (aZ bn.size (aw _ _).size)) rfl rfl (aH ao _ rfl) ?_;intro e5 e4 fz bu ev eo cz;rw[Gu.o]at bu ⊢;have Gv:=zH bu;have dc:=zH (((aT ap bn).t ((aw ao _).x (aZ ap.size bn.size))).t cz)))
   go_roundw
   case rel=>exact⟨k+1,Qu,Qx,Tb,dc⟩
   case measure=>simp[intOf];omega
  .obtain rfl:k=G.length:=Qu;rw[cZ (ae _)]at ad;obtain⟨u0,a2,rfl,cR,-⟩:=ad.p;rw[bs];have ab:=aT bi U;have⟨ci,dq,ce⟩:=er (bh wr u0 a2 G (sq cR) rfl) (aT db U) (ai d8 ab);have⟨a6,a7,a8,a9⟩:=aB (ai cb ab);have⟨D,bp⟩:=aR (g.qw p);rw[<-bp]at ci;have ch:=zH bp;clear bp;go_wp2_with (go_at_call 117;(with_reducible refine ci.o.x ?_);intro e b1 h;obtain⟨O,Z,ej,cF,a4⟩:=h;subst ej;have ah:=ai ce a4;have⟨e0,e1,z2⟩:=aD ah;have f0:=aK ah 0;have f1:=aK ah 1;have f2:=aK ah 2;have ee:=zH ah;have d0:=zH cF;have dl:=zH (aT dq a4);have e3:=zH a4.size)
   have y:=ja (v0:=.int .i64 (D.l:Nat)) (v1:=.int .i64 (D.r:Nat)) (v2:=.slice O D.b Z) ee;have⟨c6,c7,b2⟩:=aD y;have dO:=zH (e_ dl (b:=(w:Nat)+1) Qu (zI (D.l:Nat)) (zI (D.r:Nat)) (.slice O D.b Z));have fs:(w:Nat)+1<wr:=(bk.1 ce).1;have d1:=zH (show Fr (((b1.setCell ⟨(w:Nat)+1,0,none⟩ (zI (D.l:Nat))).setCell ⟨(w:Nat)+1,1,none⟩ (zI (D.r:Nat))).setCell ⟨(w:Nat)+1,2,none⟩ (.slice O D.b Z)) w (((b1.setCell ⟨(w:Nat)+1,0,none⟩ (zI (D.l:Nat))).setCell ⟨(w:Nat)+1,1,none⟩ (zI (D.r:Nat))).setCell ⟨(w:Nat)+1,2,none⟩ (.slice O D.b Z)) (fun W=>cS W O D.b) from(d0.y (w':=(((b1.setCell ⟨(w:Nat)+1,0,none⟩ (zI (D.l:Nat))).setCell ⟨(w:Nat)+1,1,none⟩ (zI (D.r:Nat))).setCell ⟨(w:Nat)+1,2,none⟩ (.slice O D.b Z))) fun q a _=>(a_ _ _ _ _ (by show q≠(w:Nat)+1;omega)).t ((a_ _ _ _ _ (by show q≠(w:Nat)+1;omega)).t (a_ _ _ _ _ (by show q≠(w:Nat)+1;omega)))).to Qu Qt);exact aI (v:=.tuple (fH (dh D.l D.r O D.b Z))) (by simp[results,results80,go_sem, *]) rfl ⟨O,Z,by rw[<-ch.o],by rw[<-ch.o];exact d1,dO⟩
end
def edS(p:Int)(n:Nat)(W:aL)(e:Ed):Bool:=((e.G p).map (iE p n)).all fun r=>decide (Bz p r W n=0)
def zkN p g W:lN p g W=g.es.all (edS p g.w W):=by unfold lN Gr.rows Gr.V edS;rw[List.map_flatMap,List.all_flatMap]
def zjK p g W A1 Y Z ab c1 c2 a2 a3 w(hp:2<=p)(JC:p<=97)(bg:jV w A1 Y Z g)(bh:aO w ab W)(hg:g.B=true)(bq:∀e∈g.es,0<=e.v/\e.v<p)(J:W.length=g.w)(G:∀x∈W,0<=x/\x<p):az 79 #[p,.agg (bj g A1 c1 Y c2 Z a2),.slice ab g.w a3] w (dt w (lN p g W)):=by
 refine OF fun G8 If Ie F0=>?_
 have⟨b2,b9,IW,JE,HV,a0,b0⟩:=ß (fun V (hV:ag w V)=>bg.ext hV) (fun V (hV:ag w V)=>bh.ext hV) If G8.2.2.2.2.1 bq J G;rw[zkN];have⟨gw,a5⟩:=aR g.w;have IV:=zH a5;rw[<-a5]at Ie ⊢;obtain⟨hB,hq⟩:Below w w (w.alloc (.cells (fw gw A1 g.es c1 Y g.i c2 Z g.o a2) 54))/\_:=⟨aw w _,aH w (.cells (fw gw A1 g.es c1 Y g.i c2 Z g.o a2) 54) rfl⟩;clear a5;go_enter func79,ntmps79
 go_upto_region 1 with(fail)
 generalize w.alloc _=cb at hq hB ⊢;refine NQ fun x0 x1 x2 x3 HB HQ=>?_
 go_wp2;go_loopw [14] (fun i wr=>∃j:Nat,j<=g.es.length/\i=.int .i64 j/\(g.es.take j).all (edS p gw W)=true/\ag cb wr) (fun i _=>g.es.length-(intOf i).toNat)
 case atStart=>exact⟨0,aW _,rfl,rfl,al _ _⟩
 case round=>
  obtain⟨j,cR,rfl,D,H⟩:=hrel;have O:=zH (aT HB H);by_cases cn:j<g.es.length
  .have⟨e,G⟩:=aq cn;have⟨cF,cI,D1,e1,D2,e2,a4,u0,u1,u2,u3,hi1,hi2⟩:=fU (b2 wr O).es G;subst a4;obtain⟨am,b7,b3⟩:=er D (by rw[du,G,rV];simp:(g.es.take (j+1)).all (edS p gw W)=((g.es.take j).all (edS p gw W)&&edS p gw W e)) (aU G);obtain⟨kk,vv,ei,JH⟩:=e;dsimp only at u0 u1 u2 u3 hi1 hi2;have⟨T,a6⟩:=bM wr (.cells (eh kk vv D1 ei e1 D2 JH e2) 155);have I0:=aU G;refine Pg fun Ib R hR=>?_
   rw[<-hR]at Ib;have a9:=zH (show edS p gw W ⟨kk,vv,ei,JH⟩=R.all fun r=>decide (Bz p r W gw=0) by unfold edS;rw[hR]);have b6:=zH (show ∀r∈R,r.length=gw/\∀x∈r,0<=x/\x<p from fun r hr=>by
    rw[hR]at hr;obtain⟨L,ch,rfl⟩:=cH.1 hr;obtain⟨br,cr⟩:=sD (p:=p) (n:=gw) (L:=L) hp (fun q hq=>by rw[IV.o];exact Gr.yh JE IW L (lh.2 ⟨_,I0,ch⟩) q hq)
    refine⟨br,fun x hx=>?_⟩;obtain⟨d,U⟩:=eH.1 hx;have:=cr d (by rw[<-br];exact(bG.1 U).1);rw[bf,U]at this;have ce:x=_:=this;rw[ce];exact⟨gV _ Qu,gW _ Qu⟩)
   have⟨b5,a8,bb,bz,an,ca⟩:=ny (Vh:R.length<=2) H (ai (ai HQ H) T) (aT H T) T (b9 wr O);clear hR;go_upto_region 4 with(fail)
   generalize wr.alloc _=c4 at T a6 bb bz an ⊢;have⟨co,cp,n2,cq⟩:=aB a6;have⟨x0,x1,x2,x3⟩:=aB bb;go_wp2_with (go_at_call 113;(with_reducible refine(Ib.o _ an.o).x ?_);intro e cu h;unfold ñ at h;obtain⟨cA,cB,cc,bn,F⟩:=h;subst cc;have b1:=zH bn;have ao:=zH (aT an F))
   have⟨l,J⟩:=aR R.length;have ba:=zH J;have cK:l<=1048576:=by have:=b5.o;omega
   rw[<-J]at ⊢;clear J;go_loopw [24] (fun i cz=>∃q:Nat,q<=l/\i=.int .i64 q/\((R.take q).all fun r=>decide (Bz p r W gw=0))=true/\ag cu cz) (fun i _=>l-(intOf i).toNat)
   case atStart=>exact⟨0,aW _,rfl,rfl,al _ _⟩
   case round=>
    obtain⟨q,hq,rfl,D,I⟩:=hrel;by_cases cW:q<l
    .obtain⟨r,hr⟩:=aq (show q<R.length by have:=ba.o;omega);obtain⟨ad,bp⟩:=b6 r (aU hr);rcases b1 wr (fun k cV ck=>I.block k ck)with h|⟨c0,c3,a4,bi⟩
     .exact V9
     subst a4;obtain⟨a7,bc,ci,bo⟩:=bi q r hr;rw[ad]at ci;obtain⟨b8,bv⟩:=bJ (by rw[du,hr,rV];simp:((R.take (q+1)).all fun r=>decide (Bz p r W gw=0))=(((R.take q).all fun r=>decide (Bz p r W gw=0))&&decide (Bz p r W gw=0))) (aT ao I);have a1:=zH (by
      have:=zg2 p a7 ab bc a3 r W wr bo (ca.ext bv) hp JC Qu (by rw[ad,a0.o,IV.o];exact ae _) (by rw[a0.o,<-IV.o];omega) bp b0;rw[ad,a0.o,<-IV.o]at this;exact this:az 115 #[p,.slice a7 gw bc,.slice ab gw a3] wr fun e w'=>e=.returned (zI (Ξ r W gw%p))/\ag wr w')
     obtain⟨av,ah,ac,b4⟩:=gG (show Bz p r W gw=Ξ r W gw%p from rfl) D I (aU hr);have⟨d,U⟩:=aR (Ξ r W gw%p);rw[<-U]at a1 av;by_cases h0:d=0
     .subst h0;go_wp2_with (go_at_call 115;refine a1.x ?_;rintro e ct ⟨rfl,F⟩;have ap:=zH (aT ac F))
      go_roundw
      case rel=>exact⟨q+1,Qu,Qx,by rw[b8.o,ah.o,av.o];rfl,ap⟩
      case measure=>simp[intOf];omega
     .have cO:(d !=0)=true:=QL;have bu:=zH h0;go_wp2_with (go_at_call 115;refine a1.x ?_;rintro e ct ⟨rfl,F⟩;have ap:=zH (aT ac F))
      go_ret
      refine⟨aN ?_,?_⟩
      .symm
       rw[uF];intro cj;have bd:=eD.1 cj _ b3.o;rw[a9.o]at bd;have be:=oM (eD.1 bd _ b4.o);rw[av.o]at be;exact bu be
      .exact O.t ((aT ao ap).x O.size)
    .obtain rfl:q=l:=Qu;have⟨ah,ac⟩:=bJ D I;go_wp2;go_roundw
     case rel=>exact⟨j+1,Qu,Qx,by
      rw[b7.o,am.o,a9.o];have h:=ah.o;rw[cZ (by rw[ba.o];exact ae _)]at h;exact h,a8.t ((aT ao ac).x a8.size)⟩
     case measure=>simp[intOf];omega
  .obtain rfl:j=g.es.length:=Qu;have am:=zH D;go_wp2;go_ret
   exact⟨aN (by have h:=am.o;rw[cZ (ae _)]at h;rw[h]),O⟩
section
variable{p:Int}
def yE(h:R.Ok p):∀r∈R.b,r.length=R.l+R.r/\(∀x∈r,0<=x/\x<p)/\ew r<R.l+R.r:=fun r D=>by
 obtain⟨k,H⟩:=eH.1 D;have I:=eV.row h.Η r D;have F:=h.red.ln k (bG.1 H).1;have e:nw R.b k=ew r:=by unfold nw;rw[bf,H];rfl
 rw[e]at F;refine⟨I,fun x J=>?_,F⟩;obtain⟨d,G⟩:=eH.1 J;have:=h.Η.vY D (d:=d) (by rw[<-I];exact(bG.1 G).1);rw[bf,G]at this;exact this
def Cj l v:nA v (bD l)=eC l v:=by unfold nA eC bD;rw[nr];exact kB fun x _=>Qt
def qk l v:(eC l v).length=l:=by unfold eC;rw[bs]
def zjW(h:xs.all (jY p)=true):∀x∈xs,0<=x/\x<p:=fun x D=>by have:=eD.1 h x D;unfold jY at this;simp at this;exact this
section
variable{P:jk}{ops:iI}{Q:gZ}{md:Region.Mode}{S:j4}
def kY(i:Nat){D:h_}{h:pv}{G:Act}(F:tH P md ops Q S n J (h.setIfInBounds i true) G w)(hi:ops.toList[i]?=some D:=by rfl)(Y:Region.wanted D (yielded ops a.tmps)=false:=by rfl)(ab:Region.noSelect ops=true:=by kernel_rfl)(U:Region.free md ops h i=true:=by kernel_rfl)(Z:(Region.ready md ops h).contains i=true:=by kernel_rfl)(T:(ÿ md ops n h&&Region.sinkB md ops n&&Region.chainB md ops n&&decide (n<ops.size)&&decide (i<n))=true:=by kernel_rfl)(I:S w:=by assumption)(H:∀c a w,Q (.panic c) (a.put D.dst undef) w->Q (.panic c) a w:=by exact fun _ _ _ F=>F)(O:a.put D.dst undef=G:=by simp only[Act.put,zA];rfl):tH P md ops Q S n (J+1) h a w:=by subst O;exact Ļ hi ab U Z T (au ⟨Y,rfl⟩) I F H
end
def Fe p g h be bq X H W bp d1 d2 d3 f1 f2 f3 cs am an Y G1 T U a0 a1 a2 bd ab ac I w(co:bV p=true)(b0:jV w G1 T U g)(c7:jV w a0 a1 a2 h)(b3:g.B=true)(b4:h.B=true)(d4:∀e∈g.es,0<=e.v/\e.v<p)(d5:∀e∈h.es,0<=e.v/\e.v<p)(c9:Ð p h=true)(cr:g.i.length=h.i/\g.o.length=h.o)(ck:aO w ab X)(cn:aO w ac H)(bi:aO w I W)(e7:X.length<=1048576)(e8:H.length<=1048576)(e6:W.length<=1048576):az 50 (kz p (bj g G1 d1 T d2 U d3) (bj h a0 f1 a1 f2 a2 f3) (iK be bd bp cs bq ab X am ac H an I W Y)) w (dt w (â p g (h.qw p) X H W)):=by
 have⟨cp,cq⟩:=cv co;have em:=Gr.iT.1 b3;have bn:=Gr.mE b3;have dr:=Gr.iT.1 b4;have a9:=(((al w w).alloc (ae _) (.cells (bj g G1 d1 T d2 U d3) 54)).alloc Qt (.cells (bj h a0 f1 a1 f2 a2 f3) 54)).alloc Rs (.cells (iK be bd bp cs bq ab X am ac H an I W Y) 39);have J:=((bO ((w.alloc (.cells (bj g G1 d1 T d2 U d3) 54)).alloc (.cells (bj h a0 f1 a1 f2 a2 f3) 54)) (.cells (iK be bd bp cs bq ab X am ac H an I W Y) 39) (k:=w.heap.size) Rs).t (bO (w.alloc (.cells (bj g G1 d1 T d2 U d3) 54)) (.cells (bj h a0 f1 a1 f2 a2 f3) 54) Qt)).t (aH w _ rfl);have O:=(bO ((w.alloc (.cells (bj g G1 d1 T d2 U d3) 54)).alloc (.cells (bj h a0 f1 a1 f2 a2 f3) 54)) (.cells (iK be bd bp cs bq ab X am ac H an I W Y) 39) (k:=(w:Nat)+1) Qt).t (aH (w.alloc (.cells (bj g G1 d1 T d2 U d3) 54)) _ (n:=(w:Nat)+1) Qt);have ap:=aH ((w.alloc (.cells (bj g G1 d1 T d2 U d3) 54)).alloc (.cells (bj h a0 f1 a1 f2 a2 f3) 54)) (.cells (iK be bd bp cs bq ab X am ac H an I W Y) 39) (n:=(w:Nat)+1+1) Qt;have⟨bu,b9,b6⟩:=er (fun V (D:ag w V)=>sV p I Y W V (bi.ext D) SL cp cq) (fun(ad:W.length=g.w) (b2:∀x∈W,0<=x/\x<p) V (D:ag w V)=>zjK p g W G1 T U I d1 d2 d3 Y V cp cq (b0.ext D) (bi.ext D) b3 d4 ad b2) (fun V (D:ag w V)=>zdE p h a0 a1 a2 f1 f2 f3 V co (c7.ext D) b4 d5 c9);have b7:=zH (fun(ad:W.length=g.w) V (D:ag w V)=>(by
  have:=qG W I Y (bD g.i) T d2 V (bi.ext D) (b0.ext D).i Qu Rn (fun i hi=>by obtain⟨x,a5,rfl⟩:=cH.1 hi;have:=bn x (ay a5);omega)
  rw[aS,Cj,ad]at this;exact this:az 82 #[.slice T g.i d2,.slice I g.w Y] V fun e w'=>∃u,e=.returned u/\aE w' V u (eC g.i W)/\ag V w'))
 have b8:=zH (fun(ad:W.length=g.w) V (D:ag w V)=>(by
  have:=qG W I Y (bD g.o) U d3 V (bi.ext D) (b0.ext D).o Qu Rn (fun i hi=>by obtain⟨x,a5,rfl⟩:=cH.1 hi;have:=bn x (au (ay a5));omega)
  rw[aS,Cj,ad]at this;exact this:az 82 #[.slice U g.o d3,.slice I g.w Y] V fun e w'=>∃u,e=.returned u/\aE w' V u (eC g.o W)/\ag V w'))
 have c0:=zH (fun(ad:X.length=g.i) V (D:ag w V) A c (bh:aO V A (eC g.i W))=>(by
  have:=qA A ab c am (eC g.i W) X V bh (ck.ext D) (by unfold maxLen;rw[qk];omega) SL;rw[qk,ad]at this;exact this:az 81 #[.slice A g.i c,.slice ab g.i am] V (dt V (decide (eC g.i W=X)))))
 have c3:=zH (fun(ad:H.length=g.o) V (D:ag w V) A c (bh:aO V A (eC g.o W))=>(by
  have:=qA A ac c an (eC g.o W) H V bh (cn.ext D) (by unfold maxLen;rw[qk];omega) SL;rw[qk,ad]at this;exact this:az 81 #[.slice A g.o c,.slice ac g.o an] V (dt V (decide (eC g.o W=H)))))
 have bc:=zH (fun(ad:X.length=g.i) (db:H.length=g.o) (d6:W.length=g.w) (b2:∀x∈W,0<=x/\x<p) (ch:eC g.i W=X) (ci:eC g.o W=H) V (D:ag w V) A ε (bh:bt V A (h.qw p).b)=>(by
  have ok:=(Gr.zfV co dr.2.2.2.2.1 (Gr.mE b4)).1;have ek:=Rl.Ok.ι ok;have b1:(h.qw p).l=h.i.length/\(h.qw p).r=h.o.length:=⟨rfl,rfl⟩;have:=zhm p (h.qw p).l (h.qw p).r (h.qw p).b X H A ab ac ε am an V cp cq bh (ck.ext D) (cn.ext D) (by rw[b1.1,b1.2]at ek;omega) Qu (fun r Z=>by have:=yE ok r Z;rw[b1.1,b1.2,<-cr.1,<-cr.2,<-ad,<-db]at this;exact this) (by rw[<-ch];exact wJ (fun x a5=>bn x (ay a5)) d6 b2) (by rw[<-ci];exact wJ (fun x a5=>bn x (au (ay a5))) d6 b2)
  rw[ad,db]at this;exact this:az 83 #[p,.agg (eO ((h.qw p).l:Nat) ((h.qw p).r:Nat) A (h.qw p).b ε),.slice ab g.i am,.slice ac g.o an] V (dt V (à p (h.qw p).b (X++H)))))
 have cK:=zH (fun(h:W.all (jY p)=true)=>zjW h);unfold â jX;have⟨cu,dl⟩:=aR X.length;have⟨cz,dq⟩:=aR H.length;have⟨ct,dc⟩:=aR W.length;have⟨G,c8⟩:=aR (h.qw p);rw[<-dl]at c0 bc a9 J O ap ⊢;rw[<-dq]at c3 bc a9 J O ap ⊢;rw[<-dc]at bu b9 b7 b8 bc a9 J O ap ⊢;rw[<-c8]at b6 bc ⊢;clear ck cn bi b0 c7 b3 b4 d4 d5 c9 cr em bn dr dl dq dc c8;go_enter func50,ntmps50
 go_upto_region 1 with(fail)
 generalize ((w.alloc _).alloc _).alloc _=V at a9 J O ap ⊢;have⟨eo,es,ev,ey⟩:=aB J;have ez:=aF ap 3 rfl;have eA:=aF ap 4 rfl;have eB:=aF ap 5 rfl;have⟨ah,cO,cR,cV⟩:=gG a9 J O ap;clear a9 J O ap;by_cases h1:cu=g.i.length
 rotate_left
 .have ch:((cu:Int)!=(g.i:Int))=true:=QW;go_wp2_with (fail)
  go_ret
  exact⟨aN QP,ah⟩
 have ch:((cu:Int)!=(g.i:Int))=false:=QW;by_cases h2:cz=g.o.length
 rotate_left
 .have ci:((cz:Int)!=(g.o:Int))=true:=QW;go_wp2_with (fail)
  go_ret
  exact⟨aN QQ,ah⟩
 have ci:((cz:Int)!=(g.o:Int))=false:=QW;by_cases ej:ct=g.w
 rotate_left
 .have cj:((ct:Int)!=(g.w:Int))=true:=QW;go_wp2_with (fail)
  go_ret
  exact⟨aN QW,ah⟩
 have cj:((ct:Int)!=(g.w:Int))=false:=QW;subst h1 h2 ej;cases ao:W.all (jY p)
 .have bb:=zH (fun V D=>Calls.cg (bu V D) ao);go_wp2_with (go_at_call 78;(with_reducible refine(bb.o _ ah.o).x ?_);rintro e b5 ⟨rfl,rfl⟩)
  go_ret
  exact⟨aN (by simp[ao]),ah⟩
 have⟨bb,ca⟩:=bJ (fun V D=>Calls.cg (bu V D) ao) (b9 Qt (cK ao));cases a7:lN p g W
 .have bv:=zH (fun V D=>Calls.bl (ca V D) a7);go_wp2_with (first|(go_at_call 78;(with_reducible refine(bb.o _ ah.o).x ?_);rintro e b5 ⟨rfl,rfl⟩)|(go_at_call 79;(with_reducible refine(bv.o _ ah.o).x ?_);rintro e b5 ⟨rfl,F⟩;have br:=zH (aT ah F);clear F))
  go_ret
  exact⟨aN (by simp[ao,a7]),br⟩
 have bv:=zH (fun V D=>Calls.bl (ca V D) a7);clear bu b9 ca;go_upto_region 4 with(first|(go_at_call 78;(with_reducible refine(bb.o _ ah.o).x ?_);rintro e b5 ⟨rfl,rfl⟩)|(go_at_call 79;(with_reducible refine(bv.o _ ah.o).x ?_);rintro e b5 ⟨rfl,F⟩;have cA:=ai cR F;have⟨cA,e0,z2,e1⟩:=aB cA;have c4:=zH F;have br:=zH (aT ah F);clear F)|(go_at_call 80;(with_reducible refine(b6.o _ br.o).x ?_);intro e a3 Z;obtain⟨A,c,cj,Z,F⟩:=Z;subst cj;have c5:=zH F;have cB:=zH (aT br F);have ee:=zH (Z a3 (fun _ _ _=>rfl));clear Z F))
 have J:=ai cO (aJ c4 c5);have O:=ai cV (aJ c4 c5);have Z:=aH a3 (.cells (dh G.l G.r A G.b c) 67) rfl;have J:=ai J (aw a3 (.cells (dh G.l G.r A G.b c) 67));have O:=ai O (aw a3 (.cells (dh G.l G.r A G.b c) 67));have⟨a4,cW⟩:=bJ (cB.t ((aw a3 (.cells (dh G.l G.r A G.b c) 67)).x cB.size)) (ee.at.ext (aw a3 (.cells (dh G.l G.r A G.b c) 67)));have⟨ba,dO⟩:=aR a3.heap.size;rw[<-dO]at Z ⊢;generalize a3.alloc _=av at J O Z a4 cW ⊢;have a6:af av w 2 (.slice T g.i d2)/\af av w 3 (.slice U g.o d3)/\af av ((w:Nat)+1+1) 3 (.slice ab g.i am)/\af av ((w:Nat)+1+1) 4 (.slice ac g.o an)/\af av ((w:Nat)+1+1) 5 (.slice I g.w Y)/\af av ba 0 (zI (G.l:Nat))/\af av ba 1 (zI (G.r:Nat))/\af av ba 2 (.slice A G.b c):=
  ⟨aF J 2 rfl,aF J 3 rfl,aF O 3 rfl,aF O 4 rfl,aF O 5 rfl,aF Z 0 rfl,aF Z 1 rfl,aF Z 2 rfl⟩
 have⟨ea,eb⟩:=bJ (b7 trivial) (b8 trivial);clear J O Z b7 b8 eo es ev ey ez eA eB cA e0 z2 e1 cO cR cV bv bb b6 dO;refine cU (S:=(fun V=>af V w 2 (.slice T g.i d2)/\af V w 3 (.slice U g.o d3)/\af V ((w:Nat)+1+1) 3 (.slice ab g.i am)/\af V ((w:Nat)+1+1) 4 (.slice ac g.o an)/\af V ((w:Nat)+1+1) 5 (.slice I g.w Y)/\af V ba 0 (zI (G.l:Nat))/\af V ba 1 (zI (G.r:Nat))/\af V ba 2 (.slice A G.b c))) 28 QT a6 (fun hHeld=>?_);refine P8 ?_;refine aM 5 ?_;refine aM 6 ?_;refine cm 4 fun K hK=>?_
 go_simp;refine(ea.o _ a4.drew).x ?_;rintro e e9 ⟨u5,rfl,bo,F⟩;obtain⟨e2,e4,rfl,dT,-⟩:=bo.p;have⟨eg,cb⟩:=bJ dT ((aC av).t F);have d7:=zH (aT a4 cb);rw[qk];clear bo F dT;go_simp;refine hK.out _ _ (fun _=>E_ cb a6) (fun hHeld=>?_);refine Mr fun hHeld=>?_;clear K hK
 refine Ny fun K hK=>?_
 refine(c0 trivial _ d7.o _ _ eg.o).x ?_;rintro e fa ⟨rfl,F⟩;have cc:=zH (aT cb F);have cF:=zH (aT a4 cc);clear F;go_simp;refine hK.out _ _ (fun _=>E_ cc a6) (fun hHeld=>?_);refine Mr fun hHeld=>?_;clear K hK
 by_cases a8:eC g.i W=X
 rotate_left
 .rw[fR a8];refine aM 8 ?_;refine kY 9 ?_;refine kY 10 ?_;refine kY 11 ?_;refine kY 12 ?_;refine kY 13 ?_;refine kY 14 ?_;refine kY 15 ?_;refine kY 16 ?_;refine ND fun K hK=>?_
  refine Qn ?_;clear K hK;refine gM QT ?_ _;go_wp2;go_ret
  exact⟨aN (by simp[ao,a7,a8]),cF⟩
 rw[fT a8];refine aM 8 ?_;refine aM 9 ?_;refine aM 10 ?_;refine aM 11 ?_;refine aM 12 ?_;refine aM 14 ?_;refine aM 15 ?_;refine cm 13 fun K hK=>?_
 go_simp;refine(eb.o _ cF.o).x ?_;rintro e fb ⟨u7,rfl,bo,F⟩;obtain⟨e3,e5,rfl,d0,-⟩:=bo.p;have⟨ei,ce⟩:=bJ d0 (aT cc F);have d8:=zH (aT a4 ce);rw[qk];clear bo F d0;go_simp;refine hK.out _ _ (fun _=>E_ ce a6) (fun hHeld=>?_);refine Mr fun hHeld=>?_;clear K hK
 refine cm 16 fun K hK=>?_
 go_simp;refine(c3 trivial _ d8.o _ _ ei.o).x ?_;rintro e fc ⟨rfl,F⟩;have bz:=zH (aT ce F);have cI:=zH (aT a4 bz);clear F;go_simp;refine hK.out _ _ (fun _=>E_ bz a6) (fun hHeld=>?_);refine Mr fun hHeld=>?_;clear K hK
 by_cases bg:eC g.o W=H
 rotate_left
 .rw[fR bg];refine ND fun K hK=>?_
  refine Qn ?_;clear K hK;refine gM QT ?_ _;go_wp2;go_ret
  exact⟨aN (by simp[ao,a7,a8,bg]),cI⟩
 rw[fT bg];refine aM 17 ?_;refine aM 18 ?_;refine aM 19 ?_;refine aM 20 ?_;refine aM 21 ?_;refine aM 22 ?_;refine aM 23 ?_;refine aM 24 ?_;refine cm 25 fun K hK=>?_
 go_simp;refine(bc trivial trivial trivial (cK ao) a8 bg _ cI.o _ _ (cW.ext bz)).x ?_;rintro e fd ⟨rfl,F⟩;have c6:=zH (aT bz F);have d9:=zH (aT a4 c6);clear F;go_simp;refine hK.out _ _ (fun _=>E_ c6 a6) (fun hHeld=>?_);refine Mr fun hHeld=>?_;clear K hK
 refine aM 26 ?_;refine aM 27 ?_;refine cm 28 fun K hK=>?_
 go_simp;refine Qn ?_;clear K hK;refine gM QT ?_ _;go_wp2;go_ret
 exact⟨aN (by simp[ao,a7,a8,bg]),d9⟩
end
def zaJ{h F:Type}{l:List h}{f:h->F}{x}(D:l[k]?=some x):(l.map f).take (k+1)=(l.map f).take k++[f x]:=by rw[du,bI,D];rfl
def zeZ{r}{l}(h:aO V A r)(D:r.length<=c):aO V (if c=l then A else A.map (fun x=>x.add l)) (r.drop l):=by
 by_cases F:c=l
 .exact ay (jR Qu)
 .rw[aj F];rcases h with h|⟨b,o,e,D⟩
  .exact ay QZ
  .subst e;have:=mR (w:=V) (b:=b) (o:=o) (xs:=r) (au ⟨b,o,rfl,D⟩) l;rw[show(some (⟨b,o,none⟩:dM)).map (fun x=>x.add l)=some ⟨b,o+l,none⟩ from oy some (dF b o l)];exact this
def ze0 a b A B(ca cb nv na nb:Nat)w(db:bt w A a.rows)(dc:cS w B b.rows)(b9:a.v=(nv:Int))(ci:b.v=(nv:Int))(b8:a.h=(na:Int))(ch:b.h=(nb:Int))(fz:nv<=1000)(fo:na<=1000)(fs:nb<=1000)(d2:∀r∈a.rows,r.length=nv+na)(d3:∀r∈b.rows,r.length=nv+nb)(e4:a.rows.length<=1000)(e5:b.rows.length<=1000):az 59 (iV (da a A ca) (da b B cb)) w (Cx (kK a b) w):=by
 have⟨M,e0⟩:=aR (na+nb);have d6:(kK a b).v=(nv:Int):=b9;have d5:(kK a b).h=(M:Int):=by show a.h+b.h=_;omega
 have⟨am,b6⟩:=aR (a.rows.map fun r=>r++List.replicate nb 0);have⟨be,b7⟩:=aR (b.rows.map fun r=>r.take nv++List.replicate na 0++r.drop nv);obtain⟨c0,c7,c6,ea,ei,b0,c5,c3,c4⟩:=Ů (by unfold kK;rw[b6,b7,ci,b8,ch];simp:(kK a b).rows=am++be) d6 d5 db dc d2 d3 b6 b7;have⟨e8,cp⟩:=aR (nv+na);have⟨n2,cq⟩:=aR (nv+nb);rw[<-cp]at b0;rw[<-cq]at c5;have⟨bz,Ka⟩:=bJ cp cq;have e7:IntKind.i64.wrap ((na:Int)+(nb:Int))=(M:Int):=Rt;have⟨S,D⟩:=aR (kK a b);rw[<-D]at c0 c7 c6 ⊢;rw[b9,b8,ci,ch];have⟨la,ck⟩:=aR a.rows.length;have⟨lb,cn⟩:=aR b.rows.length;have⟨bv,cV⟩:=bJ ck cn;rw[<-ck]at e4 ⊢;rw[<-cn]at e5 ⊢;refine MO fun OV q0 q1 q2=>?_
 clear db dc d2 d3 b6 b7 cp cq b9 ci b8 ch D d6 d5 e0 ck cn;go_enter func59,ntmps59
 go_upto_region 1 with(fail)
 generalize ((w.alloc _).alloc _).alloc _=W at OV q0 q1 q2 ⊢;have⟨cB,a3,cF⟩:=aD q0;have⟨a4,a5,cI⟩:=aD q1;obtain⟨eb,c8,b4,ey,ev⟩:=pD OV q0 q1 q2 (show(w:Nat)+1+1<W from(bk.1 q2).1);clear OV q0 q1 q2;go_upto_region 2 with(fail)
 have⟨bi,bq⟩:=bM W (.cells (CU nv M) 57);generalize W.alloc _=J at bi bq ⊢;obtain⟨bb,cK⟩:=bJ (show(W:Nat)<J from(bk.1 bq).1) bi;obtain⟨JG,bu⟩:=bJ (show CP J W J nv M none 0 0 [] from⟨bq,⟨[],rT _ _ _ _,fun k u r h=>QO,fun i j u f5 b h=>QO⟩,rfl,bb,ae _⟩) (show ∀V,ag W V->ag w V from fun V h=>aT eb h);clear cB a3 cF a4 a5 cI;have⟨cB,a3,cF⟩:=aD (ai c8 bi);clear bi bq;go_wp2;go_loopw [22] (fun i wr=>∃(k:Nat) (ad:ax) (an:Nat),k<=la/\i=.int .i64 k/\CP J W wr nv M ad k an (am.take k)/\ag W wr) (fun i _=>la-(intOf i).toNat)
 case atStart=>exact⟨0,none,0,aW _,rfl,JG,cK⟩
 case round=>
  obtain⟨k,ad,an,fy,rfl,D,F⟩:=hrel;clear JG cB a3 cF;by_cases bn:k<la
  .obtain⟨r,hr⟩:=aq (by rw[<-bv.o];exact bn:k<a.rows.length);obtain⟨bg,bh,rfl,a8⟩:=(ea.ext (bu.o _ F)).θ (k:=k) (by rw[<-bv.o];exact bn);obtain⟨Z,ap,cj,av⟩:=a8 k r hr;rw[b0.o r (aU hr)]at cj;obtain⟨T,bc⟩:=bJ (b0 r (aU hr)) (by rw[c3.o];exact zaJ hr:am.take (k+1)=am.take k++[r++List.replicate nb 0]);have a6:=zH (fun V (a7:ag wr V)=>(by
    have:=iR Z ap r V (av.ext a7) (by rw[T.o,bz.o];omega);rw[T.o]at this;exact this:az 70 (bZ Z e8 ap) V fun e w'=>∃u,e=.returned u/\aE w' V u r/\ag V w'))
   have⟨U,Y,z2⟩:=aD D.Β;obtain⟨-,a5,-⟩:=aD (ai b4 F);have G:=aQ z2 a5;have⟨JG,ab⟩:=bJ D F;clear a8 av D F U Y z2 a5 hr;go_upto_region 5 with(fail)
   refine cU (S:=(fun V=>af V W 2 (.slice ad k an)/\af V ((w:Nat)+1) 1 (zI (nb:Nat)))) 8 QT G (fun hHeld=>?_);refine aM 0 ?_;refine aM 1 ?_;refine aM 2 ?_;refine aM 4 ?_;refine aM 5 ?_;refine cm 3 fun K hK=>?_
   go_simp
   (with_reducible refine(a6.o _ (aC _)).x ?_)
   rintro e ba ⟨u,rfl,I,H⟩;obtain⟨ah,b2⟩:=bJ ((aC wr).t H) (show aE ba wr u r from I);clear H I;go_simp;refine hK.out _ _ (fun _=>j6 ah G) (fun hHeld=>?_);refine Mr fun hHeld=>?_;clear K hK
   refine cm 6 fun K hK=>?_
   refine zz rfl (.tmp 29) (.tmp 31) rfl wr wr ba u r nb b2.o ah.o (by rw[T.o,bz.o];omega) ah.o.size rfl rfl ?_;intro br b5 a2 I H ac;have⟨O,b3⟩:=bJ H I;clear H I ac;refine hK.out _ _ (fun _=>j6 O G) (fun hHeld=>?_);refine Mr fun hHeld=>?_;clear K hK
   refine Ny fun K hK=>?_
   refine hK.out _ _ (fun _=>j6 (O.alloc O.size _) G) (fun hHeld=>?_);refine Qm ?_;clear K hK;refine cm 8 fun K hK=>?_
   refine lv rfl (.tmp 27) (.tmp 33) rfl J wr a2 (.slice ad k an) (.slice br (r.length+nb) b5) _ (r++List.replicate nb 0) JG.o.μ O.o b3.o SV JG.o.le rfl rfl ?_;intro fd fc d8 cr cc ac e1;rw[JG.o.ι]at cr ⊢;have⟨a9,cz⟩:=CP.j JG cr cc;have⟨U,Y,z2⟩:=aD cz;have⟨f0,f1,f2⟩:=cd cz;have⟨b1,ee⟩:=bJ a9 cc;clear cr cc ac e1 a9 cz;refine Qn ?_;clear K hK;refine cm 9 fun K hK=>?_
   go_simp;refine Qn ?_;clear K hK;refine cm 10 fun K hK=>?_
   go_simp;refine Qn ?_;clear K hK;refine gM QT ?_ _;clear U Y z2 f0 f1 f2;go_wp2;go_roundw
   case rel=>exact⟨k+1,_,_,Qu,Qx,by rw[bc.o];exact b1,(ab.t (ee.x (show(W:Nat)<=J from ix bb))).setCell (p:=⟨W,2,none⟩) (ae _) _⟩
   case measure=>simp[intOf];omega
  .have e3:k=la:=Qu;subst e3;rw[cZ (by rw[c3.o,bs,<-bv.o];exact ae _)]at D;have⟨a4,a5,cI⟩:=aD (ai b4 F);have⟨JG,ab⟩:=bJ D F;clear D F e7 cK;go_wp2;go_loopw [40] (fun i wr=>∃(j m an:Nat) (ad:ax),j<=lb/\Hd (m=k+j)/\i=.int .i64 j/\CP J W wr nv M ad m an (am++be.take j)/\ag W wr) (fun i _=>lb-(intOf i).toNat)
   case atStart=>exact⟨0,k,an,ad,aW _,zH rfl,rfl,by simpa using JG.o,ab⟩
   case round=>
    obtain⟨j,m,a0,ao,fx,co,rfl,D,F⟩:=hrel;clear JG ab a4 a5 cI;by_cases bn:j<lb
    .obtain⟨r,hr⟩:=aq (by rw[<-cV.o];exact bn:j<b.rows.length);have dq:=ei.ext (bu.o _ F);obtain⟨bg,bh,rfl,a8⟩:∃bg bh,B=some ⟨bg,bh,none⟩/\∀k r,b.rows[k]?=some r->∃Z ε,af wr bg (bh+k) (.slice Z r.length ε)/\r.length<=ε/\aO wr Z r:=by
      rcases dq with h|h
      .exact V9
      .exact h
     obtain⟨Z,ap,cj,dr,av⟩:=a8 j r hr;have T:=zH (c5 r (aU hr));rw[T.o]at cj dr;have f3:nv<=ap:=Sv;have f4:nv<=n2:=Sv;have bc:=zH (by rw[c4.o,zaJ hr];exact(fJ ..).q:am++be.take (j+1)=(am++be.take j)++[r.take nv++List.replicate na 0++r.drop nv]);have bp:(r.take nv).length=nv:=by rw[cQ,T.o];omega
     have a6:=zH (fun V (a7:ag wr V)=>(by
      have:=iR Z ap (r.take nv) V (lL (av.ext a7) nv) (by rw[bp];omega);rw[bp]at this;exact this:az 70 (bZ Z nv ap) V fun e w'=>∃u,e=.returned u/\aE w' V u (r.take nv)/\ag V w'))
     obtain⟨cO,Gu⟩:=bJ (fun V (a7:ag wr V)=>zeZ (l:=nv) (av.ext a7) (by rw[T.o];exact dr)) bp;have⟨a1,d4⟩:=aR (r.take nv);rw[<-d4]at bc a6 Gu;clear d4 bp;have⟨U,Y,z2⟩:=aD D.Β;obtain⟨a4,-,-⟩:=aD (ai b4 F);obtain⟨-,a3,-⟩:=aD (ai c8 F);have G:=aQ a4 (aQ a3 z2);have⟨JG,ab,cW⟩:=er D F co.o;clear a8 av D F U Y z2 a4 a3 hr dq co;go_upto_region 10 with(fail)
     go_region_held3 (fun V=>af V ((w:Nat)+1) 0 (zI (nv:Nat))/\af V w 1 (zI (na:Nat))/\af V W 2 (.slice ao m a0)) (first|exact G|with_reducible exact jH ah.o G|with_reducible exact jH O.o G)
      ((first|(go_at_call 70;(with_reducible refine(a6.o _ (aC _)).x ?_);rintro e ba ⟨u,rfl,I,H⟩;have ah:=zH ((aC wr).t H);have b2:=zH (show aE ba wr u a1 from I);clear H I)|(refine zz rfl (.tmp 48) (.tmp 50) rfl wr wr ba u a1 na b2.o ah.o R5 ah.o.size rfl rfl ?_;intro br b5 a2 I H ac;have O:=zH H;have b3:=zH I;clear H I ac)))
     go_upto_region 11 with(fail)
     have dT:(a1++List.replicate na 0).length=nv+na:=by rw[bm,Gu.o,fA]
     have⟨cR,es⟩:=bJ dT (cO.o _ O.o);have ac:=O.size;have c9:=jH (O.drew) G;clear dT cO a6;refine cU (S:=(fun V=>af V ((w:Nat)+1) 0 (zI (nv:Nat))/\af V w 1 (zI (na:Nat))/\af V W 2 (.slice ao m a0))) 9 QT c9 (fun hHeld=>?_);refine Qi ?_;refine aM 6 ?_;refine cm 7 fun K hK=>?_
     refine df rfl (.tmp 54) (.tmp 58) rfl wr a2.drew (.slice br (a1.length+na) b5) _ (r.drop nv) _ (n2-nv) _ (by rw[fS,T.o]) rfl rfl (b3.ext (aC a2)) (es.ext (aC a2)) (by rw[cR.o];have:=bz.o;have:=Ka.o;omega) ac ?_;intro v6 d8 cu dl;have bd:=zH ((O.t ((aC a2).x ac)).t dl);have d7:=cu.p;have d0:(a1++List.replicate na 0++r.drop nv).length=nv+na+nb:=by rw[bm,cR.o,fS,T.o,Ka.o];omega
     rw[d0]at d7;obtain⟨d9,ez,rfl,-⟩:=d7;have eo:=zH cu;clear cu dl d0;refine hK.out _ _ (fun _=>jH bd G) (fun hHeld=>?_);refine Mr fun hHeld=>?_;clear K hK
     refine cm 8 fun K hK=>?_
     go_simp;refine hK.out _ _ (fun _=>jH (bd.alloc bd.size _) G) (fun hHeld=>?_);refine Qm ?_;clear K hK;refine cm 9 fun K hK=>?_
     refine lv rfl (.tmp 53) (.tmp 60) rfl J wr d8 (.slice ao m a0) (.slice d9 (nv+na+nb) ez) _ (a1++List.replicate na 0++r.drop nv) JG.o.μ bd.o eo.o (by rw[JG.o.ι];have:=cW.o;omega) JG.o.le rfl rfl ?_;intro eB eA f6 ct ce e6 e2;rw[JG.o.ι]at ct ⊢;have⟨a9,cA⟩:=CP.j JG ct ce;have⟨U,Y,z2⟩:=aD cA;have⟨f0,f1,f2⟩:=cd cA;have⟨b1,eg⟩:=bJ a9 ce;clear ct ce e6 e2 a9 cA;refine Qn ?_;clear K hK;refine cm 10 fun K hK=>?_
     go_simp;refine Qn ?_;clear K hK;refine cm 11 fun K hK=>?_
     go_simp;refine Qn ?_;clear K hK;refine gM QT ?_ _;clear U Y z2 f0 f1 f2 c9 G;go_wp2;go_roundw
     case rel=>exact⟨j+1,m+1,eA,some ⟨eB,0,none⟩,Qu,zH (by have:=cW.o;omega),Qx,by rw[bc.o];exact b1,(ab.t (eg.x (show(W:Nat)<=J from ix bb))).setCell (p:=⟨W,2,none⟩) (ae _) _⟩
     case measure=>simp[intOf];omega
    .obtain rfl:j=lb:=Qu;rw[cZ (by rw[c4.o,bs,<-cV.o];exact ae _),<-c0.o]at D;have bo:=ai ey F;have⟨U,Y,z2⟩:=aD D.Β;have⟨e9,fa,fb⟩:=aD bo;have⟨f0,f1,f2⟩:=cd bo;have dO:=D.μ.from.frC D.le;have d1:=D.ι;have⟨ej,ab,em,ek⟩:=gG dO F bo d1;clear D dO F bo d1 co;go_wp2;have y:=ja (v0:=.int .i64 (nv:Nat)) (v1:=.int .i64 (M:Nat)) (v2:=.slice ao m a0) em;have⟨u0,u1,u2⟩:=aD y;clear y U Y z2 e9 fa fb f0 f1 f2;have HZW:=zH (show(w:Nat)+1+1<J from Nat.lt_trans ev bb);refine aI (v:=.agg (gH nv M ao m a0)) (by simp[results,results59,go_sem, *]) rfl ?_;unfold Cx;rw[c7.o,c6.o,ek.o];exact⟨ao,a0,rfl,(ej.y fun k fl _=>((a_ _ _ _ _ Vi).t (a_ _ _ _ _ Vi)).t (a_ _ _ _ _ Vi)).x (show(w:Nat)<=J by have:=HZW.o;omega) (gp Qt),e_ (bu.o _ ab.o) Qu _ _ _⟩
section
variable{p:Int}
def msB(p:Int)(a b:Sy):Bool:=ic p a.v a.h a.rows&&(ic p b.v b.h b.rows&&(decide (a.v=b.v)&&ic p (kK a b).v (kK a b).h (kK a b).rows))
def Ė(p:Int)(a b:Sy)(w:aa)(e:Ending)(w':aa):Prop:=∃(v D:Int) (h:ax) (d n:Nat),e=.returned (.tuple (ka (eO v D h n d) (msB p a b)))/\(msB p a b=true->v=(kK a b).v/\D=(kK a b).h/\n=(kK a b).rows.length/\bt w' h (kK a b).rows)/\ag w w'
def ŕ{a b}(D:Δ p a.v a.h a.rows)(F:Δ p b.v b.h b.rows):(kK a b).rows.length<=320/\∀r∈(kK a b).rows,r.length<=1000:=by
 have H:=D.Â;have I:=D.χ;have J:=F.χ;have O:=F.Â;have T:=D.n;have U:=F.n;unfold kK;dsimp only;refine⟨by rw[bm,bs,bs];omega,fun r h=>?_⟩;rcases dP.1 h with h|h
 .obtain⟨q,G,rfl⟩:=cH.1 h;have:=D.ι q G;rw[bm,fA];omega
 .obtain⟨q,G,rfl⟩:=cH.1 h;have:=F.ι q G;rw[bm,bm,fA,cQ,fS];omega
def zde p a b A B ap av w(b0:bt w A a.rows)(b1:cS w B b.rows)(cq:a.rows.length<=1048576)(cc:∀r∈a.rows,r.length<=1048576)(cr:b.rows.length<=1048576)(ce:∀r∈b.rows,r.length<=1048576):az 34 (j9 p (da a A ap) (da b B av)) w (Ė p a b w):=by
 obtain⟨a5,a6⟩:=bJ (fun V (J:ag w V)=>yf p a.v a.h A ap a.rows V (b0.ext J) SL (fun r T=>by have:=cc r T;unfold maxLen;omega)) (fun V (J:ag w V)=>yf p b.v b.h B av b.rows V (b1.at.ext J) SL (fun r T=>by have:=ce r T;unfold maxLen;omega));have a3:=zH (fun(G:ic p a.v a.h a.rows=true) (H:ic p b.v b.h b.rows=true) (hv:a.v=b.v) V (J:ag w V)=>(by
  have a2:=mY.1 G;have bb:=mY.1 H;have cu:=a2.v0;have cz:=a2.Â;have cA:=a2.h0;have cB:=a2.χ;have cF:=bb.h0;have cI:=bb.χ;exact ze0 a b A B ap av a.v.toNat a.h.toNat b.h.toNat V (b0.ext J) (b1.ext J) Qu Qu Qu Qu Qu Qu Qu (fun r T=>by have:=a2.ι r T;omega) (fun r T=>by have:=bb.ι r T;omega) (by have:=a2.n;omega) (by have:=bb.n;omega):az 59 (iV (da a A ap) (da b B av)) V (Cx (kK a b) V)))
 have⟨S,a9⟩:=aR (kK a b);have b6:=zH (fun(G:ic p a.v a.h a.rows=true) (H:ic p b.v b.h b.rows=true) V bh c (h:bt V bh S.rows)=>(by
  have b9:=ŕ (mY.1 G) (mY.1 H);rw[<-a9]at b9;exact yf p S.v S.h bh c S.rows V h SL (fun r T=>by have:=b9.2 r T;unfold maxLen;omega):az 58 (gj p (da S bh c)) V (dt V (ic p S.v S.h S.rows))))
 unfold Ė;have am:=zH (by rw[a9];rfl:msB p a b=(ic p a.v a.h a.rows&&(ic p b.v b.h b.rows&&(decide (a.v=b.v)&&ic p S.v S.h S.rows))));rw[<-a9]at a3 ⊢;have⟨la,ca⟩:=aR a.rows.length;have⟨lb,cb⟩:=aR b.rows.length;rw[<-ca]at a5 a3 ⊢;rw[<-cb]at a6 a3 ⊢;have b2:=ζ w (.cells (CS a A la ap) 57) (.cells (CS b B lb av) 57) (.cells bx 57);have⟨ba,b3,b4⟩:=cD w (.cells (CS a A la ap) 57) (.cells (CS b B lb av) 57) (.cells bx 57);clear cr ce a9 ca cb;have⟨a1,ch⟩:=aR (msB p a b);rw[<-ch]at am ⊢;go_enter func34,ntmps34
 go_upto_region 1 with(fail)
 generalize ((w.alloc _).alloc _).alloc _=W at b2 ba b3 b4 ⊢;have⟨bd,be,bg⟩:=aD ba;have⟨Z,a8,U,ao⟩:=gG b2 ba b3 b4;cases G:ic p a.v a.h a.rows
 .obtain⟨bp,HM⟩:=bJ (Calls.bl (a5 W Z) G) (by rw[am.o,G];rfl:a1=false);go_wp2_with (go_at_call 58;(with_reducible refine bp.o.x ?_);rintro e bc ⟨rfl,D⟩;have F:=ai ao D;have⟨r0,r1,r2⟩:=aD F;have f0:=aK F 0;have f1:=aK F 1;have f2:=aK F 2;have HZ:=zH F;have I:=zH (aT Z D))
  have y:=ja (v0:=()) (v1:=()) (v2:=dE) HZ;have⟨u0,u1,u2⟩:=aD y;exact aI (v:=.tuple (dz bx)) Un rfl ⟨0,0,none,0,0,by rw[HM.o],(fun h=>by rw[HM.o]at h;cases h),e_ I Qu _ _ _⟩
 have a7:=zH (Calls.bl (a5 W Z) G);cases H:ic p b.v b.h b.rows
 .obtain⟨bp,HM⟩:=bJ (fun V J=>Calls.bl (a6 V J) H) (by rw[am.o,G,H];rfl:a1=false);go_wp2_with (first|(go_at_call 58;(with_reducible refine a7.o.x ?_);rintro e bc ⟨rfl,D⟩;have⟨ac,ad,ah⟩:=aD (ai U D);have O:=zH D;have I:=zH (aT Z D))|(go_at_call 58;(with_reducible refine(bp.o _ I.o).x ?_);rintro e b5 ⟨rfl,D⟩;have F:=ai (ai ao O) D;have⟨r0,r1,r2⟩:=aD F;have f0:=aK F 0;have f1:=aK F 1;have f2:=aK F 2;have HZ:=zH F;have FZ:=zH (aT I D)))
  exact Zj
 have bq:=zH (fun V J=>Calls.bl (a6 V J) H);by_cases hv:a.v=b.v
 rotate_left
 .have co:(a.v !=b.v)=true:=QK;have HM:=zH (by rw[am.o,G,H,fR hv];rfl:a1=false);go_wp2_with (first|(go_at_call 58;(with_reducible refine a7.o.x ?_);rintro e bc ⟨rfl,D⟩;have⟨ac,ad,ah⟩:=aD (ai U D);have O:=zH D;have I:=zH (aT Z D))|(go_at_call 58;(with_reducible refine(bq.o _ I.o).x ?_);rintro e b5 ⟨rfl,D⟩;have⟨bd,be,bg⟩:=aD (ai (ai a8 O) D);have⟨ac,ad,ah⟩:=aD (ai (ai U O) D);have F:=ai (ai ao O) D;have⟨r0,r1,r2⟩:=aD F;have f0:=aK F 0;have f1:=aK F 1;have f2:=aK F 2;have HZ:=zH F;have FZ:=zH (aT I D)))
  exact Zj
 have⟨br,b7⟩:=bJ (a3 G H hv) (b6 G H);have co:(a.v !=b.v)=false:=QK;have b8:=zH (by rw[am.o,G,H,fT hv];rfl:a1=ic p S.v S.h S.rows);clear hv;cases a0:ic p S.v S.h S.rows
 .obtain⟨HM,bu⟩:=bJ (by rw[b8.o,a0]:a1=false) a0;clear a0;go_wp2_with (first|(go_at_call 58;(with_reducible refine(Calls.bl (b7.o _ _ _ bo.o.at) bu.o).x ?_);rintro e ci ⟨rfl,D⟩;have an:=zH (aT bv D);have a4:=zH (aT bn D);have F:=ai ao an;have⟨r0,r1,r2⟩:=aD F;have f0:=aK F 0;have f1:=aK F 1;have f2:=aK F 2;have HZ:=zH F;clear F)|(go_at_call 59;(with_reducible refine(br.o _ FZ.o).x ?_);intro e ct h;unfold Cx at h;obtain⟨cj,d4,bz,Y,D⟩:=h;subst bz;have bo:=zH Y.D;have bv:=zH (aT ab D);have bn:=zH (aT FZ D))|(go_at_call 58;(with_reducible refine(bq.o _ I.o).x ?_);rintro e b5 ⟨rfl,D⟩;have ab:=zH (aT O D);have⟨bd,be,bg⟩:=aD (ai a8 ab);have⟨ac,ad,ah⟩:=aD (ai U ab);have FZ:=zH (aT I D))|(go_at_call 58;(with_reducible refine a7.o.x ?_);rintro e bc ⟨rfl,D⟩;have⟨ac,ad,ah⟩:=aD (ai U D);have O:=zH D;have I:=zH (aT Z D)))
  have y:=ja (v0:=()) (v1:=()) (v2:=dE) HZ;have⟨u0,u1,u2⟩:=aD y;exact aI (v:=.tuple (dz bx)) Un rfl ⟨0,0,none,0,0,by rw[HM.o],(fun h=>by rw[HM.o]at h;cases h),e_ a4 Qu _ _ _⟩
 obtain⟨HM,bu⟩:=bJ (by rw[b8.o,a0]:a1=true) a0;go_upto_region 3 with(first|(go_at_call 58;(with_reducible refine(Calls.bl (b7.o _ _ _ bo.o.at) bu.o).x ?_);rintro e ci ⟨rfl,D⟩;have an:=zH (aT bv D);have a4:=zH (aT bn D);have⟨bd,be,bg⟩:=aD (ai a8 an);have⟨ac,ad,ah⟩:=aD (ai U an))|(go_at_call 59;(with_reducible refine(br.o _ FZ.o).x ?_);intro e ct h;unfold Cx at h;obtain⟨cj,d4,bz,Y,D⟩:=h;subst bz;have bo:=zH Y.D;have bv:=zH (aT ab D);have bn:=zH (aT FZ D))|(go_at_call 58;(with_reducible refine(bq.o _ I.o).x ?_);rintro e b5 ⟨rfl,D⟩;have ab:=zH (aT O D);have⟨bd,be,bg⟩:=aD (ai a8 ab);have⟨ac,ad,ah⟩:=aD (ai U ab);have FZ:=zH (aT I D))|(go_at_call 58;(with_reducible refine a7.o.x ?_);rintro e bc ⟨rfl,D⟩;have⟨ac,ad,ah⟩:=aD (ai U D);have O:=zH D;have I:=zH (aT Z D)))
 go_wp2_with (go_at_call 59;(with_reducible refine(br.o _ a4.o).x ?_);intro e cK h;unfold Cx at h;obtain⟨bi,d6,cp,Y,D⟩:=h;subst cp;have F:=ai (ai ao an) D;have⟨r0,r1,r2⟩:=aD F;have f0:=aK F 0;have f1:=aK F 1;have f2:=aK F 2;have HZ:=zH F;have cn:=zH Y;have ck:=zH (aT a4 D);have GX:=zH (show(w:Nat)+1+1<ci from(bk.1 (ai ao an)).1))
 have y:=ja (v0:=.int .i64 S.v) (v1:=.int .i64 S.h) (v2:=.slice bi S.rows d6) HZ;have⟨u0,u1,u2⟩:=aD y;exact aI (v:=.tuple (fH (da S bi d6))) Un rfl ⟨S.v,S.h,bi,d6,S.rows,by rw[HM.o],fun _=>⟨rfl,rfl,rfl,(cn.o _ fun k G _=>((a_ _ _ _ _ Vj).t (a_ _ _ _ _ Vj)).t (a_ _ _ _ _ Vj)).at⟩,e_ ck Qu _ _ _⟩
end
end Go.Proofs.YtpieilkmmiopfaaGreatDoor
