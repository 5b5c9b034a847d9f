/- Parts of the walks. Conditions: as stated with each. -/
import Derived.Test.YtpieilkmmiopfaaGreatDoorPk13
import Derived.Test.YtpieilkmmiopfaaGreatDoorPk16
namespace Go.Proofs.YtpieilkmmiopfaaGreatDoor
open Go.RowKit Tryz
set_option linter.all false
set_option maxHeartbeats 4000000
set_option maxRecDepth 100000
variable{A:ax}{Jq:aP}{N c hi lo lo' n:Nat}{V w:aa}{cs:gg}{p:Int}{v:aG}{xs:aL}
structure zS where
 e:Bool
 xs:List j8
 sd:Int
 x3:List Int
 x4:List Int
 x5:List Int
structure Va where
 A:Option Addr
 c:Nat
 A3:Option Addr
 c3:Nat
 A4:Option Addr
 c4:Nat
 A5:Option Addr
 c5:Nat
structure pO(w:aa)(a:Va)(x:zS):Prop where
 s:iS w a.A x.xs
 i3:aO w a.A3 x.x3
 i4:aO w a.A4 x.x4
 i5:aO w a.A5 x.x5
structure vR(n:Nat)(x:zS):Prop where
 s:x.xs.length<=n
 ss:∀r∈x.xs,r.row.length<=n
 i3:x.x3.length<=n
 i4:x.x4.length<=n
 i5:x.x5.length<=n
def dy(D:zS)(h:Va):M (#[.bool D.e,.slice h.A D.xs h.c,.int .i64 D.sd,.slice h.A3 D.x3 h.c3,.slice h.A4 D.x4 h.c4,.slice h.A5 D.x5 h.c5]:Array Value):=⟨⟩
def pO.ext{w w'}{a}{x}(h:pO w a x)(D:ag w w'):pO w' a x:=⟨h.s.ext D,h.i3.ext D,h.i4.ext D,h.i5.ext D⟩
def zmJ(left r:Int)(x:zS):Prop:=r<0∨(0<=r/\r<=left/\(x.xs:Int)<=left/\(∀y∈x.xs,(y.row.length:Int)<=left)/\(x.x3:Int)<=left/\(x.x4:Int)<=left/\(x.x5:Int)<=left)
def xR x a left w(ab:pO w a x)(ah:vR maxLen x)(a0:0<=left)(ad:left<=1048576):az 7 (jy (iK x.e a.A x.xs a.c x.sd a.A3 x.x3 a.c3 a.A4 x.x4 a.c4 a.A5 x.x5 a.c5) left) w fun e w'=>∃r,e=.returned (zI r)/\zmJ left r x/\ag w w':=by
 have⟨G,h⟩:=bM w (.cells (iK x.e a.A x.xs a.c x.sd a.A3 x.x3 a.c3 a.A4 x.x4 a.c4 a.A5 x.x5 a.c5) 28);have⟨Z,D⟩:=bJ (ab.ext G) ah;clear ab ah;go_enter func7,ntmps7
 go_upto_region 1 with(fail)
 generalize w.alloc _=W at G h Z ⊢;have⟨an,H⟩:=bJ G h;have a5:=aF h 1 rfl;clear G h;go_upto_region 2 with(go_at_call 22;(with_reducible refine(zc2 a.A a.c x.xs left _ Z.o.s D.o.s D.o.ss a0 ad).x ?_);rintro e bh ⟨am,rfl,h,ac⟩;have F:=zH ac;have T:=zH h;clear ac h)
 clear a5;have JR:=zH (aJ an F);by_cases bc:am<0
 .exact Wr
 have a1:=wh.le2 T.o ad;have bp:=aF (ai H F) 3 rfl;have bq:=aF (ai H F) 4 rfl;have br:=aF (ai H F) 5 rfl;go_upto_region 5 with(go_at_call 23;(with_reducible refine(tQ a.A3 x.x3 a.c3 am _ D.o.i3 Qu a1).x ?_);rintro e bi ⟨J,rfl,h,rfl⟩;have U:=zH h;clear h)
 by_cases bd:J<0
 .exact Wr
 have a2:J<=1048576:=by rcases U.o with I|I<;>omega
 go_upto_region 8 with(go_at_call 23;(with_reducible refine(tQ a.A4 x.x4 a.c4 J _ D.o.i4 Qu a2).x ?_);rintro e bn ⟨O,rfl,h,rfl⟩;have Y:=zH h;clear h)
 by_cases be:O<0
 .exact Wr
 have a3:O<=1048576:=by rcases Y.o with I|I<;>omega
 go_upto_region 11 with(go_at_call 23;(with_reducible refine(tQ a.A5 x.x5 a.c5 O _ D.o.i5 Qu a3).x ?_);rintro e bo ⟨a4,rfl,h,rfl⟩;have ao:=zH h;clear h)
 by_cases bg:a4<0
 .exact Wr
 go_wp2;go_ret
 refine⟨_,rfl,au ?_,JR⟩;rcases T.o with g|⟨a6,a7,ap,av⟩
 .omega
 rcases U.o with g|⟨a8,a9,ba⟩
 .omega
 rcases Y.o with g|⟨c1,c2,bb⟩
 .omega
 rcases ao.o with g|⟨d1,d2,d3⟩
 .omega
 exact⟨d1,Qu,ap,av,Qu,Qu,Qu⟩
def E0(w:aa)(lo hi:Nat)(v:aG)(xs:aL):Prop:=xs=[]∨vK w lo hi v xs
def E0.ext{w w'}{lo hi}(h:E0 w lo hi v xs)(D:ag w w'):E0 w' lo hi v xs:=h.E id fun h=>h.ext D
def E0.u{w w'}{lo hi lo' hi'}(h:E0 w lo hi v xs)(F:b_ lo' hi' w w')(D:hi<=lo'∨hi'<=lo):E0 w' lo hi v xs:=h.E id fun h=>h.u F D
def E0.at{w}{lo hi}(h:E0 w lo hi (.slice A n c) xs):aO w A xs:=by
 rcases h with rfl|h
 .exact ay rfl
 .obtain⟨F,G,e,D,_⟩:=h.μ.p;cases e;exact D
def yC(w:aa)(lo hi:Nat)(a:Va)(x:zS):Prop:=∃h D F,lo<=h/\h<=D/\D<=F/\F<=hi/\xq w lo h (.slice a.A x.xs a.c) x.xs/\E0 w h D (.slice a.A3 x.x3 a.c3) x.x3/\E0 w D F (.slice a.A4 x.x4 a.c4) x.x4/\E0 w F hi (.slice a.A5 x.x5 a.c5) x.x5
section
variable{w w':aa}{lo hi lo' hi':Nat}{a:Va}{x:zS}
def yC.ext(D:yC w lo hi a x)(h:ag w w'):yC w' lo hi a x:=by obtain⟨Y,Z,ab,F,G,H,I,J,O,T,U⟩:=D;exact⟨Y,Z,ab,F,G,H,I,J.ext h,O.ext h,T.ext h,U.ext h⟩
def yC.u(D:yC w lo hi a x)(h:b_ lo' hi' w w')(ac:hi<=lo'∨hi'<=lo):yC w' lo hi a x:=by obtain⟨Y,Z,ab,F,G,H,I,J,O,T,U⟩:=D;exact⟨Y,Z,ab,F,G,H,I,J.u h Qu,O.u h Qu,T.u h Qu,U.u h Qu⟩
def yC.at(h:yC w lo hi a x):pO w a x:=by obtain⟨U,Y,Z,I,J,O,T,D,F,G,H⟩:=h;exact⟨ziP D.μ,F.at,G.at,H.at⟩
end
def E4 A ε xs w(F:aO w A xs)(H:xs.length<=1048576):az 28 (aV A xs ε) w fun e w'=>∃h c2,e=.returned (.slice h xs c2)/\vK w' w w' (.slice h xs c2) xs/\ag w w':=by refine(DH A ε xs w F Qu).x ?_;rintro e w' ⟨u,rfl,D,G⟩;obtain⟨h,c2,rfl,-⟩:=D.p;exact⟨h,c2,rfl,vK.of D,G⟩
def znb(x:zS)(w:aa)(e:Ending)(w':aa):Prop:=∃a:Va,e=.returned (.agg (dy x a))/\yC w' w w' a x/\ag w w'
def xq.À{xs}(h:xq w lo hi v xs)(H:lo'<=lo):xq w lo' hi v xs:=by obtain⟨us,h⟩:=h;exact⟨us,⟨h.μ.ι,⟨h.μ.η.1,h.μ.η.2.E id fun⟨g,ε,G,D,O,F⟩=>⟨g,ε,G,D,Qu,F⟩⟩,fun k u r J I=>(h.μ.ν k u r J I).x H,h.μ.apart⟩,h.up,h.Í⟩
structure TvW(w:aa)(a0 cs:gg)(V:aa):Prop where
 q0:bA V w a0 28
 q1:bA V ((w:Nat)+1) tW 39
 q2:bA V ((w:Nat)+1+1) cs 39
 b:ag w V
def TvW.ext{F}{G}(h:TvW w G cs V)(D:ag V F):TvW w G cs F:=⟨ai h.q0 D,ai h.q1 D,ai h.q2 D,aJ h.b D⟩
def TvW.set{D F}(h:TvW w D cs V)i v(G:cs.setIfInBounds i v=F):TvW w D F (V.setCell ⟨(w:Nat)+1+1,i,none⟩ v):=⟨(a_ _ _ _ _ Rs).t h.q0,(a_ _ _ _ _ Rs).t h.q1,by rw[<-G];exact bE V _ i _ _ v h.q2,h.b.setCell Rs v⟩
def TvW.lt{h}(D:TvW w h cs V):(w:Nat)+1+1<V:=(bk.1 D.q2).1
def xQ x a w(b6:pO w a x)(b7:vR 1048576 x):az 10 (cY (dy x a)) w (znb x w):=by
 have br:=ζ w (.cells (dy x a) 28) (.cells tW 39) (.cells tW 39);have⟨bu,bv,bz⟩:=cD w (.cells (dy x a) 28) (.cells tW 39) (.cells tW 39);have⟨ba,a6⟩:=bJ (fun V (cB:ag w V)=>b6.ext cB) b7;go_enter func10,ntmps10
 go_upto_region 2 with(fail)
 generalize ((w.alloc _).alloc _).alloc _=W at br bu bv bz ⊢;have bb:=zH (show TvW w #[.bool x.e,.slice a.A x.xs a.c,.int .i64 x.sd,.slice a.A3 x.x3 a.c3,.slice a.A4 x.x4 a.c4,.slice a.A5 x.x5 a.c5] #[.bool false,.slice none 0 0,.int .i64 0,.slice none 0 0,.slice none 0 0,.slice none 0 0] W from⟨bu,bv,bz,br⟩)
 -- Equal
 obtain⟨⟨cr,bq,ct,cu,cz,cA⟩,-⟩:=gE bb.q0;have⟨⟨Z,ab,ac,ad,ah,am⟩,f0,f1,f2,f3,f4,f5⟩:=gE bb.q2;go_upto_region 3 with(fail)
 have t1:=bb.set 0 (.bool x.e) rfl;generalize W.setCell ⟨(w:Nat)+1+1,0,none⟩ _=cn at t1 ⊢;have bc:=zH t1;have bq:=aF bc.o.q0 1 rfl;go_upto_region 5 with(go_at_call 27;(with_reducible refine(zdq a.A a.c x.xs _ (ba.o _ bc.o.b).s a6.o.s a6.o.ss).x ?_);rintro e a3 ⟨u,rfl,I,D⟩;obtain⟨A1,c1,rfl,-⟩:=I.p;have ce:=zH (xq.of I);have b8:=zH D;have h:=bc.ext D;have b1:=zH h;have⟨⟨Z,ab,ac,ad,ah,am⟩,f0,f1,f2,f3,f4,f5⟩:=gE h.q2;obtain⟨⟨an,ao,ap,av,a0,a1⟩,-⟩:=gE h.q0)
 have G:=((b1.set 1 (.slice A1 x.xs c1) rfl).set 2 (zI x.sd) rfl);have H:=(((b_.refl ((w:Nat)+1+1) ((w:Nat)+1+1+1) a3).xv (p:=⟨(w:Nat)+1+1,1,none⟩) (v:=.slice A1 x.xs c1) (ae _) (iX _)).xv (p:=⟨(w:Nat)+1+1,2,none⟩) (v:=.int .i64 x.sd) (ae _) (iX _));have F:((a3.setCell ⟨(w:Nat)+1+1,1,none⟩ (.slice A1 x.xs c1)).setCell ⟨(w:Nat)+1+1,2,none⟩ (zI x.sd):Nat)=a3:=Qt;generalize ((a3.setCell ⟨(w:Nat)+1+1,1,none⟩ _).setCell ⟨(w:Nat)+1+1,2,none⟩ _)=co at G H F ⊢;have⟨bi,ck,b9⟩:=er G H F;have a7:=aF bi.o.q0 3 rfl;go_upto_region 6 with(go_at_call 28;(with_reducible refine(E4 a.A3 a.c3 x.x3 _ (ba.o _ bi.o.b).i3 a6.o.i3).x ?_);rintro e a4 ⟨J,c2,rfl,I,D⟩;have ch:=zH I;have b0:=zH D;have h:=bi.ext D;have b2:=zH h;have⟨⟨Z,ab,ac,ad,ah,am⟩,f0,f1,f2,f3,f4,f5⟩:=gE h.q2;obtain⟨⟨an,ao,ap,av,a0,a1⟩,-⟩:=gE h.q0)
 have G:=(b2.set 3 (.slice J x.x3 c2) rfl);have H:=((b_.refl ((w:Nat)+1+1) ((w:Nat)+1+1+1) a4).xv (p:=⟨(w:Nat)+1+1,3,none⟩) (v:=.slice J x.x3 c2) (ae _) (iX _));have F:(a4.setCell ⟨(w:Nat)+1+1,3,none⟩ (.slice J x.x3 c2):Nat)=a4:=Qt;generalize (a4.setCell ⟨(w:Nat)+1+1,3,none⟩ _)=cp at G H F ⊢;have⟨bn,b5,ca⟩:=er G H F;have a7:=aF bn.o.q0 4 rfl;go_upto_region 7 with(go_at_call 28;(with_reducible refine(E4 a.A4 a.c4 x.x4 _ (ba.o _ bn.o.b).i4 a6.o.i4).x ?_);rintro e a5 ⟨O,U,rfl,I,D⟩;have ci:=zH I;have bh:=zH D;have h:=bn.ext D;have b3:=zH h;have⟨⟨Z,ab,ac,ad,ah,am⟩,f0,f1,f2,f3,f4,f5⟩:=gE h.q2;obtain⟨⟨an,ao,ap,av,a0,a1⟩,-⟩:=gE h.q0)
 have G:=(b3.set 4 (.slice O x.x4 U) rfl);have H:=((b_.refl ((w:Nat)+1+1) ((w:Nat)+1+1+1) a5).xv (p:=⟨(w:Nat)+1+1,4,none⟩) (v:=.slice O x.x4 U) (ae _) (iX _));have F:(a5.setCell ⟨(w:Nat)+1+1,4,none⟩ (.slice O x.x4 U):Nat)=a5:=Qt;generalize (a5.setCell ⟨(w:Nat)+1+1,4,none⟩ _)=cq at G H F ⊢;have⟨bo,bp,cb⟩:=er G H F;have a7:=aF bo.o.q0 5 rfl;go_upto_region 8 with(go_at_call 28;(with_reducible refine(E4 a.A5 a.c5 x.x5 _ (ba.o _ bo.o.b).i5 a6.o.i5).x ?_);rintro e a8 ⟨T,Y,rfl,I,D⟩;have cj:=zH I;have a9:=zH D;have h:=bo.ext D;have b4:=zH h;have⟨⟨Z,ab,ac,ad,ah,am⟩,f0,f1,f2,f3,f4,f5⟩:=gE h.q2;obtain⟨⟨an,ao,ap,av,a0,a1⟩,-⟩:=gE h.q0)
 have G:=(b4.set 5 (.slice T x.x5 Y) rfl);have H:=((b_.refl ((w:Nat)+1+1) ((w:Nat)+1+1+1) a8).xv (p:=⟨(w:Nat)+1+1,5,none⟩) (v:=.slice T x.x5 Y) (ae _) (iX _));have F:(a8.setCell ⟨(w:Nat)+1+1,5,none⟩ (.slice T x.x5 Y):Nat)=a8:=Qt;generalize (a8.setCell ⟨(w:Nat)+1+1,5,none⟩ _)=a2 at G H F ⊢;have⟨bd,be,cc⟩:=er G H F;have⟨⟨dq,dr,dO,dT,d0,d1⟩,c5,c6,c7,c8,c9,db⟩:=gE bd.q1;obtain⟨⟨an,ao,ap,av,a0,a1⟩,-⟩:=gE bd.q2;have y:=zeU (v0:=.bool x.e) (v1:=.slice A1 x.xs c1) (v2:=.int .i64 x.sd) (v3:=.slice J x.x3 c2) (v4:=.slice O x.x4 U) (v5:=.slice T x.x5 Y) bd.q1;obtain⟨⟨d2,d3,d4,d5,d6,d7⟩,-⟩:=gE y;go_wp2;refine aI (v:=.agg (iK x.e A1 x.xs c1 x.sd J x.x3 c2 O x.x4 U T x.x5 Y)) (by simp[results,results10,go_sem, *]) rfl ?_;have bg:b_ ((w:Nat)+1) ((w:Nat)+1+1) a2 (zhb a2 ((w:Nat)+1) (.bool x.e) (.slice A1 x.xs c1) (zI x.sd) (.slice J x.x3 c2) (.slice O x.x4 U) (.slice T x.x5 Y)):=
  (((((((b_.refl ((w:Nat)+1) ((w:Nat)+1+1) a2).xv (p:=⟨(w:Nat)+1,0,none⟩) (v:=.bool x.e) (ae _) (iX _)).xv (p:=⟨(w:Nat)+1,1,none⟩) (v:=.slice A1 x.xs c1) (ae _) (iX _)).xv (p:=⟨(w:Nat)+1,2,none⟩) (v:=.int .i64 x.sd) (ae _) (iX _)).xv (p:=⟨(w:Nat)+1,3,none⟩) (v:=.slice J x.x3 c2) (ae _) (iX _)).xv (p:=⟨(w:Nat)+1,4,none⟩) (v:=.slice O x.x4 U) (ae _) (iX _)).xv (p:=⟨(w:Nat)+1,5,none⟩) (v:=.slice T x.x5 Y) (ae _) (iX _))
 have dc:=bc.lt;have cF:=b9.o;have n2:=ca.o;have cI:=cb.o;have dl:=cc.o;have cW:=b8.size;have c0:=b0.size;have c3:=bh.size;have c4:=a9.size;have cK:xq a2 cn a3 (.slice A1 x.xs c1) x.xs:=((((((ce.u ck Qu).ext b0).u b5 Qu).ext bh).u bp Qu).ext a9).u be Qu;have cO:vK a2 co a4 (.slice J x.x3 c2) x.x3:=((((ch.u b5 Qu).ext bh).u bp Qu).ext a9).u be Qu;have cR:vK a2 cp a5 (.slice O x.x4 U) x.x4:=((ci.u bp Qu).ext a9).u be Qu;have cV:vK a2 cq a8 (.slice T x.x5 Y) x.x5:=cj.u be Qu;refine⟨⟨A1,c1,J,c2,O,U,T,Y⟩,rfl,⟨a3,a4,a5,Qu,Qu,Qu,?_,(cK.u bg Qu).À Qu,au ?_,au ?_,au ?_⟩,?_⟩
 .simp[zhb];omega
 .have:=cO.u bg Qu;rw[cF]at this;exact this
 .have:=cR.u bg Qu;rw[n2]at this;exact this
 .have:=cV.u bg Qu;rw[cI]at this;exact this.x (ae _) (by simp[zhb];omega)
 .exact zeV bd.b (b:=(w:Nat)+1) Qu ..
def ziY(D:bV p=true)(s:eV p N n Jq):eV p (N-(gY p n Jq (zK N)).1) N ((gY p n Jq (zK N)).2.2.drop (gY p n Jq (zK N)).1)/\(gY p n Jq (zK N)).1<=N:=by have h:=(cv D).1;have⟨c,l,e,F,_,_⟩:=nN (n2:=N) D h s (yG h);exact⟨e.s2.drop F,F⟩
def DT p Jq A ε N n w(av:bV p=true)(b1:bt w A Jq)(s:eV p N n Jq)(D:N<=1048576)(hn:n<=1048576):az 177 #[p,.slice A N ε,n] w (Ct (qN p n Jq) w):=by
 have⟨a2,b7⟩:=ziY av s;have a0:qN p n Jq=j5 p N ((gY p n Jq (zK N)).2.2.drop (gY p n Jq (zK N)).1):=by unfold qN zbh;rw[s.1]
 have⟨h,an⟩:=aR (gY p n Jq (zK N));rw[<-an]at a2 b7 a0;have⟨bu,J,ac,bo⟩:=gG an a0 a2 (show ∀r∈Jq,r.length<=1048576 from fun r hr=>TB);have b0:=s.1;subst b0;have⟨bp,I⟩:=bJ s av;clear an a0 a2 s av;have p2:=(cv I).1;go_enter func177,ntmps177
 go_wp2_with fail
 refine(yg _ _ Jq _ b1 D bo).x ?_;rintro e bd ⟨u,rfl,a1,ao⟩;obtain⟨A1,c1,rfl,_,ca,cb⟩:=a1.p;have⟨bq,bi⟩:=bJ a1 ao;have bb:=ao.size;clear a1 ao;go_wp2_with fail
 refine(BD Jq _ D).x ?_;rintro e be ⟨u2,rfl,T,ap⟩;obtain⟨bg,c2,rfl,_,b2,cc⟩:=T.p;rw[zbK]at T b2 ⊢;have⟨br,a3⟩:=bJ T ap;have b6:=ap.size;clear T ap;go_wp2_with fail
 refine(xI p w bd bd be Jq n Jq c1 c2 A1 bg Jq (zK Jq) be I ((Κ.of bq).ext a3) (Κ.of br) bp (yG p2) (ae _) bb b6 (ae _) D hn D).x ?_;rintro e F ⟨rfl,_,ah,bc⟩;rw[<-bu.o]at ah ⊢;have⟨HW,a4⟩:=bJ (show ag w F from(bi.t (a3.x bb)).t (bc.L (ae _) Qu)) ah.μ;have b3:=Bv a4;have a8:(h.2.2.drop h.1).length=Jq-h.1:=ac.1;have b5:((Jq:Int)-(h.1:Int))=((Jq.length-h.1:Nat):Int):=Qu;clear ah bc;rcases b3 with⟨rfl,bz,rfl,a9⟩|⟨g,rfl,b4,_,_⟩
 .have⟨bv,Z⟩:=bJ (Qu:h.1=0) (show bt F none (h.2.2.drop h.1) from ay (by rw[a9];simp));rw[bv.o];clear a8 b5 a9;have O:=vI p (h.2.2.drop h.1) none 0 (Jq.length-h.1) Jq F I Z ac Qu D;have⟨R,am⟩:=aR (j5 p Jq (h.2.2.drop h.1));have a5:=zH am;rw[<-am]at O;rw[show Jq.length-h.1=0 by omega,bz]at O;have bn:=zH (show az 214 #[p,dE,()] F (Ct R F) from O);clear O am;go_wp2_with fail
  refine bn.x ?_;rintro e b8 ⟨U,ad,rfl,H,G⟩;have⟨ab,Y⟩:=bJ H G;clear H G;go_wp2;go_ret
  exact⟨U,ad,by rw[J.o,<-a5.o];rfl,by rw[J.o,<-a5.o];exact ab.x HW.size,HW.t (Y.x To)⟩
 .obtain⟨_,_,a6,ba,_⟩:=a4.p;simp only[ep]at a6;obtain⟨rfl,-,rfl⟩:=a6;have⟨U,b9,a7⟩:=zhw ba (Qu:h.2.2.length<=c2) h.1;have Z:=zH a7;clear ba a7 b4 a8;go_wp2_with fail
  with_reducible refine(vI p (h.2.2.drop h.1) (some U) (c2-h.1) (Jq.length-h.1) Jq F I.o Z.o ac.o Qu D).x ?_
  rintro e b8 ⟨bh,ad,rfl,H,G⟩;have⟨ab,Y⟩:=bJ H G;clear H G;go_wp2;go_ret
  exact⟨bh,ad,by rw[J.o];rfl,by rw[J.o];exact ab.x HW.size,HW.t (Y.x To)⟩
def DU p Jq A ε N n w(H:bV p=true)(a1:bt w A Jq)(s:eV p N n Jq)(F:N<=1048576)(I:n<=1048576):az 190 #[p,.slice A N ε,n] w (Ct (ql p Jq n) w):=by
 have J:ql p Jq n=qN p N (Λ Jq n):=by unfold ql;rw[s.1]
 have D:=zH J;have Y:=zbf s;have ap:=zH Y;have a0:=s.1;subst a0;have⟨ao,ah⟩:=bJ (show ∀r∈Jq,n<=r.length from fun r a2=>by rw[s.row r a2];exact ae _) H;go_enter func190,ntmps190
 go_wp2_with fail
 refine(Dr Jq _ _ n _ a1 F I ao).x ?_;rintro e a3 ⟨u,rfl,Z,h⟩;obtain⟨A1,c1,rfl,O,_⟩:=Z.p;rw[CE]at ⊢;have⟨am,ac⟩:=bJ O h;have U:=h.size;go_wp2_with fail
 with_reducible refine(DT p (Λ Jq n) A1 c1 n Jq a3 ah.o am.o ap.o I F).x ?_
 rintro e a4 ⟨ab,av,rfl,T,G⟩;have⟨an,ad⟩:=bJ T G;go_wp2;go_ret
 exact⟨ab,av,by rw[D.o];rfl,by rw[D.o];exact an.x U,ac.t (ad.x U)⟩
end Go.Proofs.YtpieilkmmiopfaaGreatDoor
