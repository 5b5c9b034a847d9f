/- Parts of the walks and laws (Ln3, Rm3, Rm5). Conditions: as stated with each. -/
import Derived.Test.YtpieilkmmiopfaaGreatDoorPk42
import Derived.Test.YtpieilkmmiopfaaGreatDoorPk43
namespace Go.Proofs.YtpieilkmmiopfaaGreatDoor
open Go.RowKit Tryz
set_option linter.all false
set_option maxHeartbeats 8000000
set_option maxRecDepth 100000
variable{A Y:aq}{H b c d k lo n:Nat}{J w w':aa}{Q7:DataW Unit}{R T v v0 v1 v2 z2:ax}{Rk:du}{p:Int}{xs:aH}
structure qO where
 e:Bool
 xs:List ft
 sd:Int
 x3:List Int
 x4:List Int
 x5:List Int
structure Va where
 A:Option Addr
 c:Nat
 A3:Option Addr
 c3:Nat
 A4:Option Addr
 c4:Nat
 A5:Option Addr
 c5:Nat
structure nR(w:aa)(a:Va)(x:qO):Prop where
 s:fL w a.A x.xs
 i3:aJ w a.A3 x.x3
 i4:aJ w a.A4 x.x4
 i5:aJ w a.A5 x.x5
structure nY(n:Nat)(x:qO):Prop where
 s:x.xs.length<=n
 ss:∀r∈x.xs,r.row.length<=n
 i3:x.x3.length<=n
 i4:x.x4.length<=n
 i5:x.x5.length<=n
def cx(D:qO)(h:Va):M (#[.bool D.e,.slice h.A D.xs.length h.c,.int .i64 D.sd,.slice h.A3 D.x3.length h.c3,.slice h.A4 D.x4.length h.c4,.slice h.A5 D.x5.length h.c5]:Array Value):=⟨⟩
def jw(h:Va)(D)(F:qO)(G H I):M (#[.bool true,.slice h.A D h.c,.int .i64 F.sd,.slice h.A3 G h.c3,.slice h.A4 H h.c4,.slice h.A5 I h.c5]:Array Value):=⟨⟩
theorem nR.ext{w w':aa}{a:Va}{x:qO}(h:nR w a x)(D:ag w w'):nR w' a x:=⟨h.s.ext D,h.i3.ext D,h.i4.ext D,h.i5.ext D⟩
def zfE(left r:Int)(x:qO):Prop:=r<0∨(0<=r/\r<=left/\(x.xs.length:Int)<=left/\(∀y∈x.xs,(y.row.length:Int)<=left)/\(x.x3.length:Int)<=left/\(x.x4.length:Int)<=left/\(x.x5.length:Int)<=left)
theorem zfE.le2{l r:Int}{x:qO}(h:zfE l r x)(D:l<=1048576):r<=1048576:=by rcases h with h|h <;>omega
theorem tk(x:qO)(a:Va)(left:Int)(w:aa)(V:nR w a x)(ab:nY maxLen x)(a0:0<=left)(Z:left<=1048576):aw 7 (gD (oH x.e a.A x.xs.length a.c x.sd a.A3 x.x3.length a.c3 a.A4 x.x4.length a.c4 a.A5 x.x5.length a.c5) left) w fun e w'=>∃r,e=.returned (.int .i64 r)/\zfE left r x/\ag w w':=by
 obtain⟨G,h⟩:=bA w (.cells (oH x.e a.A x.xs.length a.c x.sd a.A3 x.x3.length a.c3 a.A4 x.x4.length a.c4 a.A5 x.x5.length a.c5) 28);obtain⟨U,D⟩:=bD (V.ext G) ab;clear V ab;go_enter func7,ntmps7
 go_upto_region 1 with(fail)
 generalize w.alloc _=W at G h U ⊢;obtain⟨ad,H⟩:=bD G h;have a5:=aI h 1 rfl;clear G h;go_upto_region 2 with(go_at_call 22;(with_reducible refine(zaa a.A a.c x.xs left _ U.o.s D.o.s D.o.ss a0 Z).mono ?_);rintro e bo ⟨ac,rfl,h,Y⟩;have F:=zH Y;have O:=zH h;clear Y h)
 clear a5;have GI:=zH (ai ad.o F.o);by_cases bc:ac<0
 .exact Wz
 have a1:=nh.le2 O.o Z;have bu:=aI (ah H.o F.o) 3 rfl;have bv:=aI (ah H.o F.o) 4 rfl;have bz:=aI (ah H.o F.o) 5 rfl;go_upto_region 5 with(go_at_call 23;(with_reducible refine(pX a.A3 x.x3.length a.c3 ac _ D.o.i3 Rr a1).mono ?_);rintro e bp ⟨J,rfl,h,rfl⟩;have R:=zH h;clear h)
 by_cases bd:J<0
 .exact Wz
 have a2:J<=1048576:=by rcases R.o with I|I <;>omega
 go_upto_region 8 with(go_at_call 23;(with_reducible refine(pX a.A4 x.x4.length a.c4 J _ D.o.i4 Rr a2).mono ?_);rintro e bq ⟨N,rfl,h,rfl⟩;have T:=zH h;clear h)
 by_cases bg:N<0
 .exact Wz
 have a3:N<=1048576:=by rcases T.o with I|I <;>omega
 go_upto_region 11 with(go_at_call 23;(with_reducible refine(pX a.A5 x.x5.length a.c5 N _ D.o.i5 Rr a3).mono ?_);rintro e br ⟨a4,rfl,h,rfl⟩;have am:=zH h;clear h)
 by_cases bi:a4<0
 .exact Wz
 go_wp2;go_ret
 refine⟨_,rfl,an ?_,GI.o⟩;rcases O.o with g|⟨a6,a7,ao,ap⟩
 .omega
 rcases R.o with g|⟨a8,a9,ba⟩
 .omega
 rcases T.o with g|⟨c1,c2,bb⟩
 .omega
 rcases am.o with g|⟨d1,d2,d3⟩
 .omega
 exact⟨d1,Rr,ao,ap,Rr,Rr,Rr⟩
def xJ(w:aa)(lo hi:Nat)(v:ax)(xs:aH):Prop:=xs=[]∨rP w lo hi v xs
theorem xJ.ext{w w':aa}{lo hi:Nat}(h:xJ w lo hi v xs)(D:ag w w'):xJ w' lo hi v xs:=h.imp id fun h=>h.ext D
theorem xJ.within{w w':aa}{lo hi lo' hi':Nat}(h:xJ w lo hi v xs)(F:bn lo' hi' w w')(D:hi<=lo'∨hi'<=lo):xJ w' lo hi v xs:=h.imp id fun h=>h.within F D
theorem xJ.at{w:aa}{lo hi:Nat}(h:xJ w lo hi (.slice A n c) xs):aJ w A xs:=by
 rcases h with rfl|h
 .exact au rfl
 .obtain⟨F,G,e,D,_⟩:=h.own.view;cases e;exact D
def kD(w:aa)(lo hi:Nat)(a:Va)(x:qO):Prop:=∃h D F,lo<=h/\h<=D/\D<=F/\F<=hi/\pL w lo h (.slice a.A x.xs.length a.c) x.xs/\xJ w h D (.slice a.A3 x.x3.length a.c3) x.x3/\xJ w D F (.slice a.A4 x.x4.length a.c4) x.x4/\xJ w F hi (.slice a.A5 x.x5.length a.c5) x.x5
section
variable{w w':aa}{lo hi lo' hi':Nat}{a:Va}{x:qO}
theorem kD.ext(D:kD w lo hi a x)(h:ag w w'):kD w' lo hi a x:=by obtain⟨T,U,V,F,G,H,I,J,N,O,R⟩:=D;exact⟨T,U,V,F,G,H,I,J.ext h,N.ext h,O.ext h,R.ext h⟩
theorem kD.within(D:kD w lo hi a x)(h:bn lo' hi' w w')(Y:hi<=lo'∨hi'<=lo):kD w' lo hi a x:=by obtain⟨T,U,V,F,G,H,I,J,N,O,R⟩:=D;exact⟨T,U,V,F,G,H,I,J.within h Rr,N.within h Rr,O.within h Rr,R.within h Rr⟩
theorem kD.at(h:kD w lo hi a x):nR w a x:=by obtain⟨R,T,U,I,J,N,O,D,F,G,H⟩:=h;exact⟨zeS D.own,F.at,G.at,H.at⟩
end
theorem AW(A:aq)(cap:Nat)(xs:aH)(w:aa)(F:aJ w A xs)(H:xs.length<=1048576):aw 28 (aO A xs cap) w fun e w'=>∃h c2,e=.returned (.slice h xs.length c2)/\rP w' w.heap.size w'.heap.size (.slice h xs.length c2) xs/\ag w w':=by refine(zK A cap xs w F Rr).mono ?_;rintro e w' ⟨u,rfl,D,G⟩;obtain⟨h,c2,rfl,-⟩:=D.view;exact⟨h,c2,rfl,rP.of D,G⟩
theorem zdR{A B:Rl}(I:cN p=true)(F:A.Ok p)(G:B.Ok p)(U:A.r=B.l):fI p (A.b.length+B.b.length) A.r (gv p A B)/\(∀c∈uo p A.r (gv p A B),c.length=A.b.length+B.b.length/\0<c.length/\∀x∈c,0<=x/\x<p)/\fI p (uo p A.r (gv p A B)).length (A.l+B.r) (pn p A B)/\(uo p A.r (gv p A B)).length<=A.b.length+B.b.length:=by
 have D:=(di I).1;have J:=zJ D F.shp G.shp U;obtain⟨V,Z,O,-⟩:=BX I D J;obtain⟨r,l,ab,h,N,-⟩:=se I D O;have e:uo p A.r (gv p A B)=sI p (A.b.length+B.b.length) (zcZ p A.r (gv p A B)):=by unfold uo;rw[J.1]
 rw[<-e]at h N;refine⟨J,fun c H=>?_,?_,?_⟩
 .obtain⟨k,T⟩:=fk.1 H;have R:=fI.row h c H;have Y:=N.ln k (by have:=(bG.1 T).1;have:=h.1;omega);exact⟨R,Rr,fI.el h c H⟩
 .unfold pn;exact fI.yo (uD h) fun c _=>⟨(tx D F.shp G.shp).1,(tx D F.shp G.shp).2⟩
 .have:=h.1;omega
abbrev vw(w:aa)(b:Nat)(v0 v1 v2:ax):World:=((w.setCell ⟨b,0,none⟩ v0).setCell ⟨b,1,none⟩ v1).setCell ⟨b,2,none⟩ v2
theorem zdS(h:k≠b):(vw w b v0 v1 v2).heap[k]?=w.heap[k]?:=(aZ _ _ _ _ R9).trans ((aZ _ _ _ _ R9).trans (aZ _ _ _ _ R9))
theorem tZ{Q:Rl}(I:aW J b #[R,T,z2] Rk)(H:Fr J lo J.heap.size (fun h=>dm h Y Q.b))(G:ag w J)(D:w.heap.size<=b)(U:b<lo):Fr (vw J b (.int .i64 (Q.l:Nat)) (.int .i64 (Q.r:Nat)) (.slice Y Q.b.length d)) w.heap.size (vw J b (.int .i64 (Q.l:Nat)) (.int .i64 (Q.r:Nat)) (.slice Y Q.b.length d)).heap.size (fun h=>dm h Y Q.b)/\Below w.heap.size w (vw J b (.int .i64 (Q.l:Nat)) (.int .i64 (Q.r:Nat)) (.slice Y Q.b.length d))/\(vw J b (.int .i64 (Q.l:Nat)) (.int .i64 (Q.r:Nat)) (.slice Y Q.b.length d)).cell? ⟨b,0,none⟩=some (.int .i64 (Q.l:Nat))/\(vw J b (.int .i64 (Q.l:Nat)) (.int .i64 (Q.r:Nat)) (.slice Y Q.b.length d)).cell? ⟨b,1,none⟩=some (.int .i64 (Q.r:Nat))/\(vw J b (.int .i64 (Q.l:Nat)) (.int .i64 (Q.r:Nat)) (.slice Y Q.b.length d)).cell? ⟨b,2,none⟩=some (.slice Y Q.b.length d):=by have N:=bm J b 0 _ _ (.int .i64 (Q.l:Nat)) I;have O:=bm _ b 1 _ _ (.int .i64 (Q.r:Nat)) N;have F:=bm _ b 2 _ _ (.slice Y Q.b.length d) O;simp only[zA]at F;obtain⟨u0,u1,u2⟩:=aG F;exact⟨(H.same fun k a _=>zdS Rr).to Rr Rq,((G.setCell (p:=⟨b,0,none⟩) D _).setCell (p:=⟨b,1,none⟩) D _).setCell (p:=⟨b,2,none⟩) D _,u0,u1,u2⟩
def EMx(D h:aa)(r:aH)(c:bU):Prop:=xf D r c∨xf h r c
theorem zfk{rows:aN}(h:bF 1 (EMx w) J A rows)(D:ag w J):dm J A rows:=jR (bF.imp (fun _ _ h=>h.elim (xf.ext D) id) h)
theorem Ds(p:Int)(D S:Rl)(A1 ao:aq)(F R c1 c2:Nat)(w:aa)(br:cN p=true)(ev:dm w A1 D.b)(ey:dm w ao S.b)(a9:D.Ok p)(ba:S.Ok p)(sR:RSm D)(fo:RSm S)(cF:D.r=S.l)(bu:D.b.length=F)(n2:S.b.length=R):aw 128 (iK p (dF D.l D.r A1 F c1) (dF S.l S.r ao R c2)) w (kB (Cd p D S) w):=by
 obtain⟨p2,k6⟩:=di br;obtain⟨fb,c0,fd,fl⟩:=zdR br a9 ba cF;have i0:=a9.len;have i1:=ba.len;have gi:=sR.l;have id:=sR.r;have gn:=fo.l;have gs:=fo.r;have f1:=C8 a9.shp;have f2:=C9 a9.shp;have f3:=C8 ba.shp;have f4:=C9 ba.shp;rw[bu,n2]at fb c0 fl;rw[bu]at f1 f2;rw[n2]at f3 f4;obtain⟨K,hK⟩:=aM (uo p D.r (gv p D S));rw[<-hK]at c0 fd fl;have k2:∀(gC:Fn) (first cap:eU) (w:aa),(Instr.makeFunc gC first cap).run prog w=.ok (.func gC first cap) w:=fun _ _ _ _=>rfl
 obtain⟨hD,hE,hF,hG,hP⟩:=mD (fun h (G:ag w h)=>yi D A1 F c1 w h G bu Rr ev a9.row Rr) (fun h (G:ag w h)=>AP S ao R c2 w h G n2 Rr ey (fun r T=>(ba.row r T).1) Rr) (fun h (G:ag w h)=>AP D A1 F c1 w h G bu Rr ev (fun r T=>(a9.row r T).1) Rr) (fun h (G:ag w h)=>yi S ao R c2 w h G n2 Rr ey ba.row Rr) (show ∀h A cap,bk h A (gv p D S)->aw 177 #[p,.slice A (F+R) cap,(D.r:Nat)] h (zfd K h) from fun h A cap G=>by rw[hK];exact zbH p (gv p D S) A cap (F+R) D.r h br G fb Rr Rr);obtain⟨Q,e0⟩:=aM (Cd p D S);rw[<-e0];obtain⟨hX,hC,hQ,fz,b3,f5,b4,b5⟩:=zH8 (show ∀h A cap,bk h A (K.map (iz p D S))->aw 179 #[p,(D.l:Nat),(S.r:Nat),.slice A K.length cap] h (kB Q h) from fun h A cap G=>by rw[e0];exact kF p D.l S.r K.length (pn p D S) A cap h br (by unfold pn;rw[<-hK];exact G) fd Rr Rr) (show ∀c,iz p D S c=jg p (c.take F) (pk D) D.l F++jg p (c.drop F) (rh S) S.r R from fun c=>by unfold iz;rw[bu,n2]) c0 (show gv p D S=rh D++(pk S).map (pJ p) from rfl) f1 f2 f3 f4;have ks:D.l<=1024:=gi;have kw:S.l<=1024:=gn;have k0:S.r<=1024:=gs;have kc:F<=2048:=Rr;have ke:R<=2048:=Rr;have j3:K.length<=4096:=Rr;have f7:=zH br;have e1:=below_alloc3 w (.cells (dF D.l D.r A1 F c1) 67) (.cells (dF S.l S.r ao R c2) 67) (.cells bj 67);obtain⟨c4,fn,c5⟩:=cm w (.cells (dF D.l D.r A1 F c1) 67) (.cells (dF S.l S.r ao R c2) 67) (.cells bj 67);clear ev ey a9 ba sR fo cF bu n2 fb c0 fd fl i0 i1 gi id gn gs f1 f2 f3 f4 hK br e0;go_enter func128,ntmps128
 go_upto_region 1 with(fail)
 generalize ((w.alloc _).alloc _).alloc _=W at e1 c4 fn c5 ⊢;obtain⟨i3,i4,i5⟩:=aG c4;obtain⟨b0,h8,gg,h9,GK⟩:=mD e1 c4 fn c5 (show w.heap.size+1+1<W.heap.size from(aT.1 c5).1);clear e1 c4 fn c5;go_upto_region 2 with(go_at_call 173;refine(hD.o _ b0.o).mono ?_;rintro e c8 ⟨ap,d1,rfl,ch,e2⟩;obtain⟨i6,i7,i8⟩:=aG (ah gg.o e2);have d9:=zH ch;have dr:=zH e2;clear ch e2)
 clear i3 i4 i5;go_wp2_with ((go_at_call 173;refine(hE.o _ (b0.o.trans (dr.o.mono b0.o.size))).mono ?_;rintro e db ⟨hs,d2,rfl,ch,cu⟩;have gf:=zH (ch.fr (fun _ _ _ _ _ J=>J) cu.size);have ga:=zH ((d9.o.ext cu).toE (E':=EMx w) fun _ _ _ J=>au J);have hy:=zH cu;clear ch cu))
 have gc:=zH (show ∀g,(Value.slice ap F d1).ownBlock=some g->g<c8.heap.size from fun g e=>by obtain⟨cs,J⟩:=d9.o;exact(bL J.outer g e).2)
 clear i6 i7 i8;go_loopw [7,27] (fun u i wr=>∃k:Nat,k<=R/\i=.int .i64 k/\aV 26 1 (EMx w) wr W.heap.size u (rh D++((pk S).take k).map (pJ p))/\(∀g,u.ownBlock=some g->g<c8.heap.size∨db.heap.size<=g)/\Fr wr c8.heap.size db.heap.size (fun h=>bF 1 (fun _=>xf w) h hs (pk S))/\ag W wr/\db.heap.size<=wr.heap.size) (fun _ i _=>R-(intOf i).toNat)
 case atStart=>exact⟨0,aX _,rfl,by simpa using ga.o,fun g e=>au (gc.o g e),gf.o,dr.o.trans (hy.o.mono dr.o.size),af _⟩
 case round=>
  obtain⟨k,kl,rfl,N,ab,cB,H,a8⟩:=hrel;clear d9 ga gf gc;have bp:=b0.o.trans (H.mono b0.o.size);by_cases he:k<R
  .have it:(pk S).length=R:=b4.o.1;have hk:(rh D).length=F:=f5.o.1;obtain⟨y,Y⟩:=aB (Rr:k < (pk S).length);have ci:=b4.o.row y (aY Y);have ho:=b4.o.el y (aY Y);rcases AO cB.now bp with e8|⟨b,o,rfl,cb⟩
   .rw[e8]at Y;simp at Y
   obtain⟨bz,d,cz,e6,ad⟩:=cb k y Y;rw[ci]at cz;obtain⟨hx,hT,d8,ej⟩:=fU (fun(ac:aq) (Z:Nat) (h:aa) (G:ag wr h) (iv:aD h wr.heap.size (.slice ac S.l Z) (List.replicate S.l 0))=>vo p (-1) wr.heap.size S.l Z d ac bz (List.replicate S.l 0) y h Rr Rr Rr Rr iv (ad.ext G) (fun a e j2=>zcy ad Rr a e) Rq ci Rr (fun x O=>by obtain⟨-,rfl⟩:=List.mem_replicate.1 O;omega) (fun x O=>by have:=ho x O;omega) G.size) (by unfold pJ;rw[ci]:dD p (-1) (List.replicate S.l 0) y=pJ p y) (by rw[Ex,ci]:(pJ p y).length=S.l) (by rw[dH,Y,kY,fj];rfl:rh D++((pk S).take (k+1)).map (pJ p)=(rh D++((pk S).take k).map (pJ p))++[pJ p y]);obtain⟨m,cF⟩:=aM (F+k);have EW:=zH (by rw[bx,bh,cG,hk];omega:(rh D++((pk S).take k).map (pJ p)).length=m);have k1:m<=8192:=Rr;obtain⟨u0,a5,rfl,-⟩:=N.view;rw[EW.o]at N ab ⊢;obtain⟨eg,b6,hJ,bb,FD⟩:=mD N ab cB H a8;have eb:=zH (show ∀g,(Value.slice u0 m a5).ownBlock=some g->g<wr.heap.size from fun g e=>by obtain⟨cs,J⟩:=N;have:=J.outer;rw[EW.o]at this;exact(bL this g e).2)
   clear N ab cB H a8 bp cb Y ci ho ad e6 cF it hk;go_wp2_with (first|(go_at_call 98;refine(kx S.l _ Rr).mono ?_;rintro e i2 ⟨u4,rfl,cI,bo⟩;obtain⟨ac,Z,rfl,-⟩:=cI.view;rw[iF]at cI ⊢;have hY:=zH cI;have fx:=zH bo;clear cI bo)|(go_at_call 176;refine(hx.o ac Z _ fx.o hY.o).mono ?_;rintro e I ⟨rfl,cO,am⟩;rw[hT.o]at cO;have b1:=zH (fx.o.trans am);have hZ:=zH (cO.fr b1.o.size);have h3:=zH (show S.l<=Z by(obtain⟨_,_,gB,-,g3,-⟩:=cO.view;rw[d8.o]at gB g3;cases gB;exact g3));clear cO am)|(at_builtin;refine cL uG rfl (.tmp 38) (.tmp 40) rfl W.heap.size (I.alloc (.cells #[.slice ac S.l Z] 26)) (.slice u0 m a5) (rh D++((pk S).take k).map (pJ p)) (pJ p y) [.slice ac S.l Z] I.heap.size ((eg.o.ext b1.o).ext (ak _ _)) rfl TK ⟨wr.heap.size,I.heap.size,bb.o.size,(ak _ _).size,fun g e=>au (eb.o g e),(hZ.o.ext (ak _ _) (af _)).imp fun h G=>an ⟨ac,Z,by rw[d8.o],by rw[d8.o];exact h3.o,G⟩⟩ SQ (aR bb.o.size (aR b1.o.size (ak _ _).size)) rfl rfl (aC I _ rfl) ?_;intro a6 ii dq a7 ce b9 U;rw[EW.o]at a7 ⊢;have ea:=zH a7;have LS:=zH (b1.o.alloc b1.o.size (.cells #[.slice ac S.l Z] 26));have dT:=zH ((bb.o.trans (LS.o.mono bb.o.size)).trans U);have d0:=zH ((hJ.o.ext LS.o FD.o).grown ce (aR FD.o LS.o.size) fun g e=>b6.o g e);have d3:=zH (show a6<c8.heap.size∨db.heap.size<=a6 from b9.elim (fun e=>b6.o a6 e) fun e=>U_);have ei:=zH (aR (aR FD.o LS.o.size) U.size);clear a7 ce b9 U))
   go_roundw
   case rel=>exact⟨k+1,Rr,Rt,by rw[ej.o];exact ea.o,fun g e=>by cases e;exact d3.o,d0.o,dT.o,ei.o⟩
   case measure=>simp[intOf];omega
  .obtain rfl:k=R:=Rr;rw[cY (by rw[b4.o.1];exact af _),<-fz.o]at N;have g8:(gv p D S).length=F+k:=by rw[fz.o,bx,bh,f5.o.1,b4.o.1]
   obtain⟨ht,d5,rfl,g1,-⟩:=N.view;have e9:=(zfk g1 bp).at;rw[g8];obtain⟨dc,hl⟩:=aM wr;rw[<-hl]at e9 bp H ⊢;obtain⟨hV,bc,bb⟩:=dO e9 bp H;have O:=aG ((H.block _ Tr).trans h8.o);have Y:=aG ((H.block _ Tr).trans gg.o);have bi:=aF O.1 (aF O.2.1 (aF O.2.2 Y));clear N ab cB H a8 bp g8 g1 e9 hl O Y;go_upto_region 9 with(fail)
   go_cut [11,12] from 43 (fun jp j0 h=>∃a0 d6 a1 d7,jp=.slice a0 F d6/\j0=.slice a1 k d7/\dm h a0 (pk D)/\dm h a1 (rh S)/\ag dc h)
   case first=>
    go_region_held3 (fun h=>ae h w.heap.size 0 (.int .i64 (D.l:Nat))/\ae h w.heap.size 1 (.int .i64 (D.r:Nat))/\ae h w.heap.size 2 (.slice A1 F c1)/\ae h (w.heap.size+1) 0 (.int .i64 (S.l:Nat))/\ae h (w.heap.size+1) 1 (.int .i64 (S.r:Nat))/\ae h (w.heap.size+1) 2 (.slice ao k c2))
     (first|with_reducible exact bi|with_reducible exact mx (az _) bi|with_reducible exact mx cn.o bi|with_reducible exact mx a2.o bi)
     ((first|(go_at_call 173;(with_reducible refine(hF.o _ (bc.o.trans ((az dc).mono bc.o.size))).mono ?_);rintro e i2 ⟨a0,d6,rfl,hf,bo⟩;have cn:=zH ((az dc).trans (bo.mono (az dc).size));have h0:=zH ((hf.fr (fun _ _ _ _ _ J=>J) bo.size).now);have ek:=zH (bc.o.trans (cn.o.mono bc.o.size));clear hf bo)|(go_at_call 173;(with_reducible refine(hG.o _ ek.o).mono ?_);rintro e I ⟨a1,d7,rfl,hg,am⟩;have a2:=zH (cn.o.trans (am.mono cn.o.size));have h1:=zH ((hg.fr (fun _ _ _ _ _ J=>J) am.size).now);have h2:=zH (bF.ext (E:=fun _=>xf w) (w':=I) (fun _ _ J=>J) h0.o am);have b7:=zH (ek.o.trans (am.mono ek.o.size));clear hg am)))
    all_goals
     go_wp2_with fail
     go_meet
     exact⟨a0,d6,a1,d7,rfl,rfl,AO h2.o b7.o,AO h1.o b7.o,a2.o⟩
   obtain⟨a0,d6,a1,d7,rfl,rfl,hb,hc,e3⟩:=hcut;obtain⟨I,rfl⟩:∃I,I=wc:=⟨wc,rfl⟩;obtain⟨hL,hM,a2,b7⟩:=fU hb hc e3 (bc.o.trans (e3.mono bc.o.size));clear hb hc e3;have es:=mx a2.o bi;clear bi;have b8:=mx (ak I (.cells #[] 26)) es;obtain⟨ck,f9,f8,hU,ib⟩:=mD (ak I (.cells #[] 26)) (aV.lit 26 1 xf I I.heap.size (af _)) (Rq:I.heap.size < (I.alloc (.cells #[] 26)).heap.size) (ah ((bb.o.block _ GK.o).trans h9.o) a2.o) es;clear es;go_upto_region 11 with(fail)
   generalize I.alloc _=fs at b8 ck f9 f8 ⊢;have i9:=b8.2.1
   replace b8:=zH b8
   go_wp2_with ((go_at_call 177;refine(hP.o _ ht d5 (hV.o.ext (a2.o.trans (ck.o.mono a2.o.size)))).mono ?_;rintro e dl ⟨hr,j1,rfl,hh,ca⟩;have f6:=zH (hh.frC ca.size);have hz:=zH ca;have gb:=zH (f9.o.ext ca);have ia:=zH (mx ca b8.o);clear hh ca))
   clear i9;go_loopw [13,58] (fun u i wr=>∃k:Nat,k<=K.length/\i=.int .i64 k/\aV 26 1 xf wr I.heap.size u ((K.take k).map (iz p D S))/\(∀g,u.ownBlock=some g->g<fs.heap.size∨dl.heap.size<=g)/\Fr wr fs.heap.size dl.heap.size (fun h=>dm h hr K)/\ag I wr/\dl.heap.size<=wr.heap.size) (fun _ i _=>K.length-(intOf i).toNat)
   case atStart=>exact⟨0,aX _,rfl,gb.o,fun g e=>by cases e;exact au f8.o,f6.o,ck.o.trans (hz.o.mono ck.o.size),af _⟩
   case round=>
    obtain⟨j,kk,rfl,N,ab,cA,H,a8⟩:=hrel;clear gb f6 ia;obtain⟨c6,-,-,-,hp,-⟩:=mx H ib.o;by_cases he:j<K.length
    .obtain⟨c,bq⟩:=aB he;obtain⟨cp,g4⟩:=aM (F+k);obtain⟨e4,g7,e5⟩:=hQ.o c (aY bq);rw[<-g4]at e4;rcases cA.now with e8|⟨b,o,rfl,cb⟩
     .rw[e8]at bq;simp at bq
     obtain⟨bz,d,cz,e6,ad⟩:=cb j c bq;rw[e4]at cz e6;obtain⟨gw,gA,rfl,-⟩:=ad.here g7;obtain⟨a3,cr⟩:=aM (jg p (c.take F) (pk D) D.l F);obtain⟨a4,ct⟩:=aM (jg p (c.drop F) (rh S) S.r k);have hA:=zH (show ∀h,ag wr h->aw 178 #[p,.slice (some ⟨gw,gA,none⟩) F d,.slice a0 F d6,(D.l:Nat)] h fun e w'=>∃ap k,e=.returned (.slice ap D.l k)/\D.l<=k/\Fr w' h.heap.size w'.heap.size (fun W=>aJ W ap a3)/\ag h w' from fun h G=>by rw[cr];exact yb p (c.take F) (pk D) F D.l F _ a0 d d6 h f7.o ((kJ ad F).ext G) ((hL.o.ext (H.trans (G.mono H.size))).at) Sr (af _) (fun x O=>by have:=e5 x (wG O);omega) (fun r T=>⟨b3.o.row r T,fun x O=>by have:=b3.o.el r T x O;omega⟩) b3.o.1 Rr Rr)
     have hB:=zH (show ∀h bv fa,ag wr h->(bv=some ⟨gw,gA+F,none⟩∨d=F)->aw 178 #[p,.slice bv (cp-F) fa,.slice a1 k d7,(S.r:Nat)] h fun e w'=>∃ap k,e=.returned (.slice ap S.r k)/\S.r<=k/\Fr w' h.heap.size w'.heap.size (fun W=>aJ W ap a4)/\ag h w' from fun h bv fa G is=>by
      rw[ct];have e7:aJ wr bv (c.drop F):=by
       rcases is with rfl|e
       .exact mJ ad F
       .exact au (iN Rr)
      exact yb p (c.drop F) (rh S) (cp-F) S.r k bv a1 fa d7 h f7.o (e7.ext G) ((hM.o.ext (H.trans (G.mono H.size))).at) Sk Rr (fun x O=>by have:=e5 x (ko O);omega) (fun r T=>⟨b5.o.row r T,fun x O=>by have:=b5.o.el r T x O;omega⟩) b5.o.1 Rr Rr)
     have h7:=zH (by rw[hC.o,cr,ct]:iz p D S c=a3++a4);have hm:D.l=a3.length:=by rw[cr];exact(lq (fun i hi=>by obtain⟨r,T⟩:=aB (by rw[b3.o.1];exact hi:i < (pk D).length);rw[getD_some T];exact b3.o.row r (aY T)) F (af _)).symm
     have hn:S.r=a4.length:=by rw[ct];exact(lq (fun i hi=>by obtain⟨r,T⟩:=aB (by rw[b5.o.1];exact hi:i < (rh S).length);rw[getD_some T];exact b5.o.row r (aY T)) k (af _)).symm
     obtain⟨cq,g5⟩:=aM ((a3++a4).length);obtain⟨hN,hO,d4,ej,EW⟩:=mD hm hn g5 (by rw[dH,bq,kY,<-h7.o];rfl:(K.take (j+1)).map (iz p D S)=(K.take j).map (iz p D S)++[a3++a4]) (by rw[bh,cG];omega:((K.take j).map (iz p D S)).length=j);obtain⟨u0,a5,rfl,-⟩:=N.view;rw[EW.o]at N ab ⊢;obtain⟨eg,b6,hI,b2,FD⟩:=mD N ab cA H a8;have eb:=zH (show ∀g,(Value.slice u0 j a5).ownBlock=some g->g<wr.heap.size from fun g e=>by obtain⟨cs,J⟩:=N;have:=J.outer;rw[EW.o]at this;exact(bL this g e).2)
     have k3:F<=cp:=Rr;have k4:cp<=8192:=Rr;have k5:F<=d:=Rr;clear N ab cA H a8 cb bq e4 g7 e5 ad cr ct hm hn g5 g4;go_upto_region 14 with(fail)
     clear cz;go_region_held3 (fun h=>ae h w.heap.size 0 (.int .i64 (D.l:Nat)))
      (first|with_reducible exact c6|with_reducible exact al (az _) c6|with_reducible exact al bg.o c6)
      ((go_at_call 178;(with_reducible refine(hA.o _ (az wr)).mono ?_);rintro e dq ⟨hu,io,rfl,-,ha,U⟩;have bg:=zH ((az wr).trans (U.mono (az wr).size));have h5:=zH ha.now;clear ha U))
     have c7:=al bg.o hp;clear c6 hp;by_cases e7:d=F
     all_goals
      go_upto_region 15 with(fail)
      go_region_held3 (fun h=>ae h (w.heap.size+1) 1 (.int .i64 (S.r:Nat)))
       (first|with_reducible exact c7|with_reducible exact al (az _) c7|with_reducible exact al em.o c7)
       ((go_at_call 178;(with_reducible refine(hB.o _ _ _ (bg.o.trans ((az dq).mono bg.o.size)) (by first|exact au rfl|exact an e7)).mono ?_);rintro e hq ⟨hv,ip,rfl,-,cc,V⟩;have em:=zH ((az dq).trans (V.mono (az dq).size));have eo:=zH (bg.o.trans (em.o.mono bg.o.size));have h6:=zH cc.now;have h4:=zH (h5.o.ext em.o);clear cc V))
      clear c7;go_wp2_with (first|(go_at_call 65;refine(uH a3 a4 hu hv io ip D.l S.r cq hq h4.o h6.o hN.o hO.o d4.o Rr).mono ?_;rintro e c9 ⟨cj,c3,rfl,hd,g9,g6⟩;have co:=zH (eo.o.trans (g6.mono eo.o.size));have hR:=zH hd;have hH:=zH (g9.to (lo':=wr.heap.size) eo.o.size (af _));clear hd g9 g6)|(at_builtin;refine cL uG rfl (.tmp 80) (.tmp 85) rfl I.heap.size (c9.alloc (.cells (cg cj cq c3) 26)) (.slice u0 j a5) ((K.take j).map (iz p D S)) (a3++a4) [.slice cj cq c3] c9.heap.size ((eg.o.ext co.o).ext (ak _ _)) rfl TK ⟨wr.heap.size,c9.heap.size,b2.o.size,(ak _ _).size,fun g e=>au (eb.o g e),(hH.o.ext (ak _ _) (af _)).imp fun h G=>⟨cj,c3,by rw[<-d4.o],by rw[<-d4.o];exact hR.o,G⟩⟩ SQ (aR b2.o.size (aR co.o.size (ak _ _).size)) rfl rfl (aC c9 _ rfl) ?_;intro a6 ii lc a7 ce b9 U;rw[EW.o]at a7 ⊢;have ea:=zH a7;have LS:=zH (co.o.alloc co.o.size (.cells (cg cj cq c3) 26));have dT:=zH ((b2.o.trans (LS.o.mono b2.o.size)).trans U);have d0:=zH ((hI.o.ext LS.o FD.o).grown ce (aR FD.o LS.o.size) fun g e=>b6.o g e);have d3:=zH (show a6<fs.heap.size∨dl.heap.size<=a6 from b9.elim (fun e=>b6.o a6 e) fun e=>U_);have ei:=zH (aR (aR FD.o LS.o.size) U.size);clear a7 ce b9 U))
      go_roundw
      case rel=>exact⟨j+1,Rr,Rt,by rw[ej.o];exact ea.o,fun g e=>by cases e;exact d3.o,d0.o,dT.o,ei.o⟩
      case measure=>simp[intOf];omega
    .obtain rfl:j=K.length:=Rr;rw[cY (af _)]at N;obtain⟨u0,a5,rfl,g2,-⟩:=N.view;have hj:=(jR g2).at;rw[bh];obtain⟨hW,b2,gd,bd⟩:=fU hj H (b7.o.trans (H.mono b7.o.size)) (ah hU.o H);have hS:=zH (show w.heap.size+1+1<wr.heap.size from(aT.1 bd.o).1);clear N ab cA H a8 g2 hj;go_wp2_with ((go_at_call 179;refine(hX.o _ u0 a5 hW.o).mono ?_;intro e hq J;unfold kB at J;obtain⟨bz,d,rfl,cc,V⟩:=J;obtain⟨k8,la,lb⟩:=aG (ah bd.o V);have f0:=aK (ah bd.o V) 0;have f1:=aK (ah bd.o V) 1;have f2:=aK (ah bd.o V) 2;obtain⟨gL,g0,v0,v1,v2⟩:=tZ (d:=d) (ah bd.o V) cc (gd.o.trans (V.mono gd.o.size)) (b:=w.heap.size+1+1) Rr hS.o;have G1:=zH gL;have hw:=zH g0;clear cc V gL g0;unfold vw at v0 v1 v2))
     exact aE (v:=.agg (dF Q.l Q.r bz Q.b.length d)) (by simp[results,results128,go_sem, *]) rfl ⟨bz,d,rfl,G1.o,hw.o⟩
theorem zeU{A B:Rl}(F:2<=p)(hA:A.fI p)(hB:B.fI p):fI p (A.b.length+B.b.length) (A.l+B.l+(A.r+B.r)) (A.b.map (vF A B)++B.b.map (vG A B)):=by
 have h:fI p A.b.length (A.l+B.l+(A.r+B.r)) (A.b.map (vF A B)):=fI.yo hA fun r hr=>YU
 have D:fI p B.b.length (A.l+B.l+(A.r+B.r)) (B.b.map (vG A B)):=fI.yo hB fun r hr=>YT
 exact h.app D
theorem zbv(p:Int)(h S:Rl)(A1 H:aq)(F G c1 c2:Nat)(w:aa)(bd:cN p=true)(b3:dm w A1 h.b)(b4:dm w H S.b)(ad:h.Ok p)(am:S.Ok p)(sR:RSm h)(bp:RSm S)(ac:h.b.length=F)(n2:S.b.length=G):aw 129 (iK p (dF h.l h.r A1 F c1) (dF S.l S.r H G c2)) w (kB (CS p h S) w):=by
 have bi:=zeU (di bd).1 ad.shp am.shp;rw[ac,n2]at bi;have c5:=ad.len;have c6:=am.len;have cI:=sR.l;have cO:=sR.r;have c0:=bp.l;have c3:=bp.r;have dc:∀(b0:Fn) (first cap:eU) (w:aa),(Instr.makeFunc b0 first cap).run prog w=.ok (.func b0 first cap) w:=fun _ _ _ _=>rfl
 obtain⟨L,a6⟩:=aM (h.l+S.l);obtain⟨M,a7⟩:=aM (h.r+S.r);obtain⟨V,a8⟩:=aM (F+G);have dq:IntKind.i64.wrap ((h.l:Int)+(S.l:Int))=(L:Int):=Sq;have dr:IntKind.i64.wrap ((h.r:Int)+(S.r:Int))=(M:Int):=Sq;obtain⟨Q,a9⟩:=aM (CS p h S);have cB:=zH (show ∀D A cap,bk D A (h.b.map (vF h S)++S.b.map (vG h S))->aw 179 (vQ p L M A V cap) D (kB Q D) from fun D A cap R=>by
  have:=kF p L M V (h.b.map (vF h S)++S.b.map (vG h S)) A cap D bd R (by rw[a6,a7,a8];exact bi) Rr Rr;have e:wZ p L M (h.b.map (vF h S)++S.b.map (vG h S))=Q:=by rw[a6,a7,a9];rfl
  rw[e]at this;exact this)
 have cr:=zH (fun D (R:ag w D) (bq:aW D w.heap.size (dF h.l h.r A1 F c1) 67) (z2:aW D (w.heap.size+1) (dF S.l S.r H G c2) 67)=>zc5 (vF h S) h.b F c1 A1 (.int .i64 (h.l:Nat)) (.int .i64 (h.r:Nat)) (.pointer (some ⟨w.heap.size,0,none⟩)) (.pointer (some ⟨w.heap.size+1,0,none⟩)) D ac Rr (b3.ext R) (fun xs I d a2 bg T a5 bc=>by obtain⟨a3,a4⟩:=ad.row xs bg;exact Ek xs h.l h.r F c1 d w.heap.size (w.heap.size+1) S.l S.r G c2 A1 H I a2 (ah bq T) (ah z2 T) a5 a3 a4 bc Rr Rr))
 have ct:=zH (fun D (R:ag w D) (bq:aW D w.heap.size (dF h.l h.r A1 F c1) 67) (z2:aW D (w.heap.size+1) (dF S.l S.r H G c2) 67)=>zc6 (vG h S) S.b G c2 H (.int .i64 (S.l:Nat)) (.int .i64 (S.r:Nat)) (.pointer (some ⟨w.heap.size,0,none⟩)) (.pointer (some ⟨w.heap.size+1,0,none⟩)) D n2 Rr (b4.ext R) (fun xs I d a2 bg T a5 bc=>by obtain⟨a3,a4⟩:=am.row xs bg;exact El xs S.l S.r G c2 d (w.heap.size+1) w.heap.size h.l h.r F c1 H A1 I a2 (ah z2 T) (ah bq T) a5 a3 a4 bc Rr Rr))
 have br:=zH (by rw[bx,bh,bh,ac,n2,a8]:(h.b.map (vF h S)++S.b.map (vG h S)).length=V);have dl:V<=8192:=Rr;rw[<-a9];have ba:=below_alloc3 w (.cells (dF h.l h.r A1 F c1) 67) (.cells (dF S.l S.r H G c2) 67) (.cells bj 67);obtain⟨ao,bo,ap⟩:=cm w (.cells (dF h.l h.r A1 F c1) 67) (.cells (dF S.l S.r H G c2) 67) (.cells bj 67);clear b3 b4 ad am sR bp ac n2 bi c5 c6 cI cO c0 c3 a6 a7 a8 a9 bd;go_enter func129,ntmps129
 go_upto_region 1 with(fail)
 generalize ((w.alloc _).alloc _).alloc _=W at ba ao bo ap ⊢;obtain⟨cc,ce,ch⟩:=aG ao;obtain⟨O,a1,Y,cF,GK⟩:=mD ba ao bo ap (show w.heap.size+1+1<W.heap.size from(aT.1 ap).1);clear ba ao bo ap;go_upto_region 2 with(go_at_call 173;refine(cr.o _ O.o a1.o Y.o).mono ?_;rintro e c7 ⟨cn,d1,rfl,b9,bb⟩;obtain⟨ci,cj,ck⟩:=aG (ah Y.o bb);have bu:=zH b9;have J:=zH bb;clear b9 bb)
 clear cc ce ch;go_upto_region 3 with(first|(go_at_call 173;refine(ct.o _ (O.o.trans (J.o.mono O.o.size)) (ah a1.o J.o) (ah Y.o J.o)).mono ?_;rintro e c8 ⟨co,d2,rfl,ca,b6⟩;have cz:=zH ca;have a0:=zH b6;clear ca b6)|(at_builtin;refine rY uG rfl (.tmp 11) (.tmp 14) rfl W.heap.size c7.heap.size c8 (.slice cn F d1) (.slice co G d2) (h.b.map (vF h S)) (S.b.map (vG h S)) (bu.o.ext a0.o) cz.o (fun g e=>by(obtain⟨cs,Z⟩:=bu.o;exact(bL Z.outer g e).2)) J.o.size a0.o.size (by rw[<-bx,br.o];omega) rfl rfl ?_;intro d5 c9 cb b7;obtain⟨cp,d3,rfl,b5,-⟩:=cb.view;rw[br.o];have cA:=zH (jR b5).at;have U:=zH ((J.o.trans (a0.o.mono J.o.size)).trans b7);clear b5 cb b7))
 clear ci cj ck;obtain⟨cc,ce,ch⟩:=aG ((U.o.block _ Tr).trans a1.o);obtain⟨ci,cj,ck⟩:=aG ((U.o.block _ Tr).trans Y.o);obtain⟨bv,bz⟩:=bD ((U.o.block _ GK.o).trans cF.o) (O.o.trans (U.o.mono O.o.size));have cu:=zH (show w.heap.size+1+1<c9.heap.size from(aT.1 bv.o).1);go_wp2_with ((go_at_call 179;refine(cB.o _ cp d3 cA.o).mono ?_;intro e d6 Z;unfold kB at Z;obtain⟨I,d,c4,b8,ab⟩:=Z;subst c4;have N:=ah bv.o ab;obtain⟨dT,d0,d4⟩:=aG N;have f0:=aK N 0;have f1:=aK N 1;have f2:=aK N 2;obtain⟨b1,b2,v0,v1,v2⟩:=tZ (d:=d) N b8 (bz.o.trans (ab.mono bz.o.size)) (b:=w.heap.size+1+1) Rr cu.o;have G1:=zH b1;have cq:=zH b2;have db:=zH ab;clear b8 ab b1 b2 N;unfold vw at v0 v1 v2))
 exact aE (v:=.agg (dF Q.l Q.r I Q.b.length d)) (by simp[results,results129,go_sem, *]) rfl ⟨I,d,rfl,G1.o,cq.o⟩
section
open Go.Maps
def DJ(w:aa)(A:aq)(D:List (List (Nat×Int))):Prop:=D=[]∨∃g,A=some ⟨g,0,none⟩/\∀(k:Nat) (L:gX),D[k]?=some L->∃b h,ae w g k (.map (some b))/\w.ownsMap prog 3 (plainElem prog 3) b 3 h/\mz h L
theorem Be(F:w.ownsMap prog 3 (plainElem prog 3) b n Q7)(I:ag w w'):w'.ownsMap prog 3 (plainElem prog 3) b n Q7:=by obtain⟨D,h,G,H⟩:=F;exact⟨D,h,ah G I,H⟩
theorem DJ.ext{D:List (List (Nat×Int))}(h:DJ w A D)(F:ag w w'):DJ w' A D:=by
 rcases h with h|⟨g,e,h⟩
 .exact au h
 .refine an ⟨g,e,fun k L N=>?_⟩;obtain⟨b,G,H,I,J⟩:=h k L N;exact⟨b,G,al F H,Be I F,J⟩
def zgu(h:List (List (Nat×Int)))(w:aa)(e:Ending)(w':aa):Prop:=∃A c,e=.returned (.slice A h.length c)/\Fr w' w.heap.size w'.heap.size (fun D=>DJ D A h)/\ag w w'
theorem Bf(F:w.ownsMap prog 3 (plainElem prog 3) b n Q7)(e:J.heap[b]?=w.heap[b]?):J.ownsMap prog 3 (plainElem prog 3) b n Q7:=by obtain⟨D,h,G,H⟩:=F;exact⟨D,h,e.trans G,H⟩
theorem zcg{w8:aa}{L:gX}(hb:ag w w8)(D:w8.ownsMap prog 3 (plainElem prog 3) b 3 Q7)(G:w.heap.size<=b)(H:mz Q7 L):zgu [L] w (.returned (.slice (some ⟨w8.heap.size,0,none⟩) 1 1)) (w8.alloc (.cells #[.map (some b)] 167)):=by
 have F:=D.lt;refine⟨_,1,rfl,fun J hV=>an ⟨_,rfl,fun k I h=>?_⟩,hb.alloc hb.size _⟩
 match k,h with
 |0,h=>cases h;exact⟨b,Q7,VP,Bf D ((hV b G RS).trans (bJ w8 _ F)),H⟩
 |k+1,h=>simp at h
theorem zhI{w8:aa}{D:DataW Unit}{L F:gX}(hb:ag w w8)(G:w8.ownsMap prog 3 (plainElem prog 3) b 3 Q7)(O:w.heap.size<=b)(T:mz Q7 L)(I:w8.ownsMap prog 3 (plainElem prog 3) H 3 D)(R:w.heap.size<=H)(U:mz D F):zgu [L,F] w (.returned (.slice (some ⟨w8.heap.size,0,none⟩) 2 2)) (w8.alloc (.cells #[.map (some b),.map (some H)] 167)):=by
 have J:=G.lt;have N:=I.lt;refine⟨_,2,rfl,fun Y hV=>an ⟨_,rfl,fun k V h=>?_⟩,hb.alloc hb.size _⟩
 match k,h with
 |0,h=>cases h;exact⟨b,Q7,VP,Bf G ((hV b O RS).trans (bJ w8 _ J)),T⟩
 |1,h=>cases h;exact⟨H,D,by rw[a_ ((hV _ hb.size Rq).trans (aC w8 _ rfl)) 1];rfl,Bf I ((hV H R RS).trans (bJ w8 _ N)),U⟩
 |k+2,h=>simp at h
theorem DK(e:Ed)(A1 Y:aq)(c1 c2:Nat)(w:aa)(a4:aJ w A1 (bt e.i))(a5:aJ w Y (bt e.o))(hf:e.jt=true)(hi:∀x∈e.i,x<=4096)(ho:∀x∈e.o,x<=4096)(dl:0<=e.v)(dc:e.v<=97):aw 126 (cy (uQ e A1 c1 Y c2)) w (zgu e.Dx w):=by
 obtain⟨k,v,ac,lo⟩:=e;dsimp only at *;obtain⟨br,V⟩:=bA w (.cells (eD k v A1 ac c1 Y lo c2) 155);obtain⟨bg,bo⟩:=bD (fun D (G:ag w D)=>a4.ext G) (fun D (G:ag w D)=>a5.ext G);have cB:3<=k/\k<=14/\ac.length=xD k/\lo.length=xE k:=Y7;obtain⟨h3,c9,Jx,Jz⟩:=cB;obtain⟨H,JA⟩:=aM (if 9<=k then k-6 else k);obtain⟨O,Jy⟩:=aM (if 9<=k then lo else ac);obtain⟨no,JB⟩:=aM (if 9<=k then ac else lo);have ci:=zH (show(Ed.mk k v ac lo).Dx=Dw H v O no by unfold Ed.Dx;rw[JA,Jy,JB];split <;>rfl)
 have Lp:O.length=yD H/\no.length=mv H:=Zb;have bi:=zH (fun D=>rD k D);have bc:min k (miK k)=H:=by
  rw[JA];unfold miK
  (repeat' split) <;>omega
 obtain⟨mk,b9⟩:=aM (miK k);rw[<-b9]at bi bc;have b8:(if mk<k then mk else k)=H:=by rw[<-bc];split <;>omega
 rw[ci.o];clear hf a4 a5 Jx Jz b9;obtain⟨a8,a7,a0,c5,b2,b3,b1,cn⟩:=zH8 Lp (show ∀x∈O,x<=4096 by rw[Jy];split<;>assumption) (show ∀x∈no,x<=4096 by rw[JB];split<;>assumption) JA Jy JB bc b8;clear hi ho Lp JA Jy JB bc b8;go_enter func126,ntmps126
 go_upto_region 1 with(fail)
 generalize w.alloc _=W at br V ⊢;obtain⟨R,ap,cb,cc⟩:=aA V;obtain⟨Z,bp⟩:=bD br V;have b5:=aF R (aF ap (aF cb cc));clear br V;go_region_held3 (fun D=>ae D w.heap.size 0 (.int .i64 k)/\ae D w.heap.size 1 (.int .i64 v)/\ae D w.heap.size 2 (.slice A1 ac.length c1)/\ae D w.heap.size 3 (.slice Y lo.length c2))
  (exact b5)
  ((fail))
 go_upto_if 13 with(fail)
 go_cut [3,4] from 7 (fun cO c0 D=>∃bv bb bz cu,cO=.slice bv O.length bb/\c0=.slice bz no.length cu/\aJ D bv (bt O)/\aJ D bz (bt no)/\aW D w.heap.size (eD k v A1 ac c1 Y lo c2) 155/\ag w D)
 case first=>
  by_cases h9:9<=k
  .go_wp2_with fail
   go_meet
   have Jy:=b2.o;have JB:=b3.o;rw[ay h9]at Jy JB;subst Jy JB;exact⟨Y,c2,A1,c1,rfl,rfl,bo.o _ Z.o.drew,bg.o _ Z.o.drew,bp.o,Z.o.drew⟩
  .go_wp2_with fail
   go_meet
   have cA:¬9<=k:=Rr;have Jy:=b2.o;have JB:=b3.o;rw[av cA]at Jy JB;subst Jy JB;exact⟨A1,c1,Y,c2,rfl,rfl,bg.o _ Z.o.drew,bo.o _ Z.o.drew,bp.o,Z.o.drew⟩
 case rest=>
  obtain⟨c6,U,c7,co,rfl,rfl,a4,a5,V,b6⟩:=hcut;obtain⟨cr,bd,b0,b4⟩:=fU V b6 (fun D (G:ag wc D)=>a4.ext G) (fun D (G:ag wc D)=>a5.ext G);clear b5 R ap cb cc a4 a5 b6 bp Z bg bo;obtain⟨F,y1,cF,cI⟩:=aA V;have bq:=aF F y1;clear F y1 cF cI V;obtain⟨bu,rfl⟩:∃bu,bu=wc:=⟨wc,rfl⟩;go_upto_region 5 with(fail)
  go_cut [6] from 7 (fun c3 D=>c3=.int .i64 H/\ag bu D)
  case first=>
   go_region_held3 (fun D=>ae D w.heap.size 0 (.int .i64 k)/\ae D w.heap.size 1 (.int .i64 v))
    (exact bq)
    ((go_at_call 172;(with_reducible refine(bi.o _).mono ?_);rintro e w' ⟨rfl,rfl⟩))
   all_goals go_wp2_with fail
   all_goals
    go_meet
    exact⟨mX (Value.int .i64) (by have:=b1.o;omega),az _⟩
  case rest=>
   obtain⟨rfl,a6⟩:=hcut;obtain⟨Gy,ab,a9⟩:=dO (bd.o.trans (a6.mono bd.o.size)) (b0.o _ a6) (b4.o _ a6);have y1:=al a6 bq.2;clear a6 b0 b4 bq bi b1 cn bd cr;by_cases a1:H=3
   .have Lp:=a8.o;rw[a1]at Lp;obtain⟨x,rfl⟩:∃x,O=[x]:=lN.1 Lp.1;obtain⟨F,ad,rfl⟩:∃F y1,no=[F,y1]:=by
     match no,Lp.2 with
     |[a,b],_=>exact⟨a,b,rfl⟩
    subst a1;obtain⟨J,N,rfl,-⟩:=ab.o.here (k:=0) RK;obtain⟨am,ao,rfl,Lm⟩:=a9.o.here (k:=0) RK;have I:=Lm 0 (F:Int) rfl;have bb:=Lm 1 (ad:Int) rfl;rw[iM]at I;have T:=aF I bb;obtain⟨GI,ch⟩:=bD (fun D (G:ag wc D)=>(show aw 171 #[(F:Nat),.slice (some ⟨J,N,none⟩) 1 U,.int .i64 (-1)] D (zC (D_ F [x] (-1)) D) from lW F [x] (-1) (some ⟨J,N,none⟩) U D (ab.o.ext G) (a0.o F Rq) Rq a7.o Rs Rs)) (fun D (G:ag wc D)=>(show aw 171 #[(ad:Nat),.slice (some ⟨J,N,none⟩) 1 U,.int .i64 (-1)] D (zC (D_ ad [x] (-1)) D) from lW ad [x] (-1) (some ⟨J,N,none⟩) U D (ab.o.ext G) (a0.o ad Rq) Rq a7.o Rs Rs));rw[show([x]:bO).length=1 from rfl,show([F,ad]:bO).length=2 from rfl];clear Lm I bb Lp y1;go_wp2_with fail
    go_region_held3 (fun D=>ae D am ao (.int .i64 (F:Nat))/\ae D am (ao+1) (.int .i64 (ad:Nat)))
     (first|with_reducible exact ju ba.o T|with_reducible exact ju Fh.o T|exact T|(with_reducible exact ju (ba.o.alloc ba.o.size _) T))
     ((first|(go_at_call 171;(with_reducible refine(GI.o _ (az _)).mono ?_);intro e w7 h;unfold zC at h;obtain⟨b7,D7,e7,Jz,ho,hm,hb⟩:=h;subst e7;have Ln:=zH (aR Gy.o.size Jz);clear Jz;have Fh:=zH ((az wc).trans hb);have Ll:=zH ho;have Lo:=zH hm;clear hb ho hm)|(go_at_call 171;(with_reducible refine(ch.o _ Fh.o).mono ?_);intro e d1 h;unfold zC at h;obtain⟨c8,c4,cz,Jz,ho,hm,hb⟩:=h;subst cz;have cj:=zH (aR (aR Gy.o.size Fh.o.size) Jz);clear Jz;have ba:=zH (Fh.o.trans (hb.mono Fh.o.size));have cp:=zH ho;have ck:=zH hm;have cq:=zH (Be Ll.o hb);clear hb ho hm)))
    all_goals
     go_wp2_with fail
     go_ret
     exact zhI (Gy.o.trans (ba.o.mono Gy.o.size)) cq.o Ln.o Lo.o cp.o cj.o ck.o
   by_cases a2:H=5
   .have Lp:=a8.o;rw[a2]at Lp;obtain⟨F,rfl⟩:∃x,no=[x]:=lN.1 Lp.2;obtain⟨R,ap,rfl⟩:∃F y1,O=[F,y1]:=by
     match O,Lp.1 with
     |[a,b],_=>exact⟨a,b,rfl⟩
    subst a2;obtain⟨J,N,rfl,-⟩:=ab.o.here (k:=0) RK;obtain⟨am,ao,rfl,Lm⟩:=a9.o.here (k:=0) RK;have I:=Lm 0 (F:Int) rfl;rw[iM]at I;have GI:=zH (fun D (G:ag wc D)=>(show aw 171 #[(F:Nat),.slice (some ⟨J,N,none⟩) 2 U,.int .i64 (-1)] D (zC (D_ F [R,ap] (-1)) D) from lW F [R,ap] (-1) (some ⟨J,N,none⟩) U D (ab.o.ext G) (a0.o F Rq) Rq a7.o Rs Rs));rw[show([R,ap]:bO).length=2 from rfl,show([F]:bO).length=1 from rfl];exact Zo
   by_cases a3:H=6
   .have Lp:=a8.o;rw[a3]at Lp;obtain⟨F,rfl⟩:∃x,no=[x]:=lN.1 Lp.2;subst a3;obtain⟨am,ao,rfl,Lm⟩:=a9.o.here (k:=0) RK;have I:=Lm 0 (F:Int) rfl;rw[iM]at I;have GI:=zH (fun D (G:ag wc D)=>(show aw 171 #[(F:Nat),bW,()] D (zC (D_ F [] 0) D) from lW F [] 0 none 0 D (au rfl) (a0.o F Rq) Rq Rq Rs Rs));rw[show([F]:bO).length=1 from rfl];exact Zo
   by_cases e7:H=7
   .have Lp:=a8.o;rw[e7]at Lp;obtain⟨F,rfl⟩:∃x,no=[x]:=lN.1 Lp.2;obtain⟨R,rfl⟩:∃x,O=[x]:=lN.1 Lp.1;subst e7;obtain⟨J,N,rfl,-⟩:=ab.o.here (k:=0) RK;obtain⟨am,ao,rfl,Lm⟩:=a9.o.here (k:=0) RK;have I:=Lm 0 (F:Int) rfl;rw[iM]at I;have T:=aF I y1;obtain⟨u,ca⟩:=aM (-v);have db:IntKind.i64.wrap (-v)=u:=Sq;obtain⟨ct,GI⟩:=bD ca (fun D (G:ag wc D)=>(show aw 171 #[(F:Nat),.slice (some ⟨J,N,none⟩) 1 U,u] D (zC (D_ F [R] u) D) from lW F [R] u (some ⟨J,N,none⟩) U D (ab.o.ext G) (a0.o F Rq) Rq a7.o Rr Rr));rw[show([R]:bO).length=1 from rfl,show([F]:bO).length=1 from rfl];clear Lm I Lp y1 ca;go_wp2_with fail
    go_region_held3 (fun D=>ae D am ao (.int .i64 (F:Nat))/\ae D w.heap.size 1 (.int .i64 v))
     (first|with_reducible exact ju Fh.o T|exact T|(with_reducible exact ju (Fh.o.alloc Fh.o.size _) T))
     ((go_at_call 171;(with_reducible refine(GI.o _ (az _)).mono ?_);intro e w7 h;unfold zC at h;obtain⟨b7,D7,e7,Jz,ho,hm,hb⟩:=h;subst e7;have Ln:=zH (aR Gy.o.size Jz);clear Jz;have Fh:=zH ((az wc).trans hb);have Ll:=zH ho;have Lo:=zH hm;clear hb ho hm))
    all_goals
     go_wp2_with fail
     go_ret
     have h:=zcg (Gy.o.trans (Fh.o.mono Gy.o.size)) Ll.o Ln.o Lo.o;rw[ct.o]at h;exact h
   have dq:(H==3)=false:=by simpa using a1
   have dr:(H==5)=false:=by simpa using a2
   have dT:(H==6)=false:=by simpa using a3
   have d0:(H==7)=false:=by simpa using e7
   have ce:=zH (by unfold Dw;rw[av a1,av a2,av a3,av e7]:Dw H v O no=[]);clear a1 a2 a3 e7 y1;go_wp2;go_ret
   rw[ce.o];exact⟨none,0,rfl,Fr.all fun _=>au rfl,Gy.o⟩
end
end Go.Proofs.YtpieilkmmiopfaaGreatDoor
