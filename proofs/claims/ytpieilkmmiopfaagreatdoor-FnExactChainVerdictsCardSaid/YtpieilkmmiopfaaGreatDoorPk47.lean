/- Parts of the walks and laws (Ln4, Ln5, Bag). Conditions: as stated with each. -/
import Derived.Test.YtpieilkmmiopfaaGreatDoorPk44
import Derived.Test.YtpieilkmmiopfaaGreatDoorPk46
namespace Go.Proofs.YtpieilkmmiopfaaGreatDoor
open Go.RowKit Tryz
set_option linter.all false
set_option maxHeartbeats 4000000
set_option maxRecDepth 100000
variable{B b hi k lo lo' n s:Nat}{J Rg w w':aa}{QK QL:List er}{QT QX QZ R Rc Rh Rj Ro T v v0 v1 v2 v3 v4 v5 v6 v7 v8 v9 z2:ax}{Rf cs:eU}{p:Int}{t:du}
def ziz(x:qO)(w:aa)(e:Ending)(w':aa):Prop:=∃a:Va,e=.returned (.agg (cx x a))/\kD w' w.heap.size w'.heap.size a x/\ag w w'
theorem pL.low{xs:List ft}(h:pL w lo hi v xs)(H:lo'<=lo):pL w lo' hi v xs:=by obtain⟨us,h⟩:=h;exact⟨us,⟨h.own.len,⟨h.own.outer.1,h.own.outer.2.imp id fun⟨g,cap,G,D,N,F⟩=>⟨g,cap,G,D,Rr,F⟩⟩,fun k u r J I=>(h.own.each k u r J I).mono H,h.own.apart⟩,h.up,h.ups⟩
structure TvW(w:aa)(a0 cs:eU)(V:aa):Prop where
 q0:aW V w.heap.size a0 28
 q1:aW V (w.heap.size+1) dy 39
 q2:aW V (w.heap.size+1+1) cs 39
 b:ag w V
theorem TvW.ext(h:TvW w Rf cs J)(D:ag J Rg):TvW w Rf cs Rg:=⟨ah h.q0 D,ah h.q1 D,ah h.q2 D,ai h.b D⟩
theorem TvW.set{D:eU}(h:TvW w Rf cs J)(i:Nat)(v:ax)(F:cs.setIfInBounds i v=D):TvW w Rf D (J.setCell ⟨w.heap.size+1+1,i,none⟩ v):=⟨(aZ _ _ _ _ Sp).trans h.q0,(aZ _ _ _ _ Sp).trans h.q1,by rw[<-F];exact bm J _ i _ _ v h.q2,h.b.setCell Sp v⟩
theorem TvW.lt(h:TvW w Rf cs J):w.heap.size+1+1<J.heap.size:=(aT.1 h.q2).1
theorem tj(x:qO)(a:Va)(w:aa)(b9:nR w a x)(ca:nY 1048576 x):aw 10 (cy (cx x a)) w (ziz x w):=by
 have bz:=below_alloc3 w (.cells (cx x a) 28) (.cells dy 39) (.cells dy 39);obtain⟨b0,b1,b2⟩:=cm w (.cells (cx x a) 28) (.cells dy 39) (.cells dy 39);obtain⟨ba,a6⟩:=bD (fun cq (c0:ag w cq)=>b9.ext c0) ca;clear b9 ca;go_enter func10,ntmps10
 go_upto_region 2 with(fail)
 generalize ((w.alloc _).alloc _).alloc _=W at bz b0 b1 b2 ⊢;have bb:=zH (show TvW w #[.bool x.e,.slice a.A x.xs.length a.c,.int .i64 x.sd,.slice a.A3 x.x3.length a.c3,.slice a.A4 x.x4.length a.c4,.slice a.A5 x.x5.length a.c5] #[.bool false,.slice none 0 0,.int .i64 0,.slice none 0 0,.slice none 0 0,.slice none 0 0] W from⟨b0,b1,b2,bz⟩);clear bz b0 b1 b2
 -- Equal
 obtain⟨⟨cA,bv,cB,cF,cI,cO⟩,-⟩:=bB bb.o.q0;obtain⟨⟨U,V,Y,Z,ab,ac⟩,f0,f1,f2,f3,f4,f5⟩:=bB bb.o.q2;go_upto_region 3 with(fail)
 have t1:=bb.o.set 0 (.bool x.e) rfl;clear cA bv cB cF cI cO U V Y Z ab ac f0 f1 f2 f3 f4 f5 bb;generalize W.setCell ⟨w.heap.size+1+1,0,none⟩ _=cr at t1 ⊢;have bc:=zH t1;clear t1;have bv:=aI bc.o.q0 1 rfl;go_upto_region 5 with(go_at_call 27;(with_reducible refine(zav a.A a.c x.xs _ (ba.o _ bc.o.b).s a6.o.s a6.o.ss).mono ?_);rintro e a3 ⟨u,rfl,I,D⟩;obtain⟨A1,c1,rfl,-⟩:=I.view;have cj:=zH (pL.of I);have cb:=zH D;have h:=bc.o.ext D;have b4:=zH h;obtain⟨⟨U,V,Y,Z,ab,ac⟩,f0,f1,f2,f3,f4,f5⟩:=bB h.q2;obtain⟨⟨ad,am,ao,ap,a0,a1⟩,-⟩:=bB h.q0;clear I D h)
 have G:=((b4.o.set 1 (.slice A1 x.xs.length c1) rfl).set 2 (.int .i64 x.sd) rfl);have H:=(((bn.refl (w.heap.size+1+1) (w.heap.size+1+1+1) a3).nC (p:=⟨w.heap.size+1+1,1,none⟩) (v:=.slice A1 x.xs.length c1) (af _) (gq _)).nC (p:=⟨w.heap.size+1+1,2,none⟩) (v:=.int .i64 x.sd) (af _) (gq _));have F:((a3.setCell ⟨w.heap.size+1+1,1,none⟩ (.slice A1 x.xs.length c1)).setCell ⟨w.heap.size+1+1,2,none⟩ (.int .i64 x.sd)).heap.size=a3.heap.size:=Rq;clear U V Y Z ab ac f0 f1 f2 f3 f4 f5 ad am ao ap a0 a1 bv b4;generalize ((a3.setCell ⟨w.heap.size+1+1,1,none⟩ _).setCell ⟨w.heap.size+1+1,2,none⟩ _)=ct at G H F ⊢;obtain⟨bp,cp,cc⟩:=dO G H F;clear G H F;have a7:=aI bp.o.q0 3 rfl;go_upto_region 6 with(go_at_call 28;(with_reducible refine(AW a.A3 a.c3 x.x3 _ (ba.o _ bp.o.b).i3 a6.o.i3).mono ?_);rintro e a4 ⟨J,c2,rfl,I,D⟩;have ck:=zH I;have b3:=zH D;have h:=bp.o.ext D;have b5:=zH h;obtain⟨⟨U,V,Y,Z,ab,ac⟩,f0,f1,f2,f3,f4,f5⟩:=bB h.q2;obtain⟨⟨ad,am,ao,ap,a0,a1⟩,-⟩:=bB h.q0;clear I D h)
 have G:=(b5.o.set 3 (.slice J x.x3.length c2) rfl);have H:=((bn.refl (w.heap.size+1+1) (w.heap.size+1+1+1) a4).nC (p:=⟨w.heap.size+1+1,3,none⟩) (v:=.slice J x.x3.length c2) (af _) (gq _));have F:(a4.setCell ⟨w.heap.size+1+1,3,none⟩ (.slice J x.x3.length c2)).heap.size=a4.heap.size:=Rq;clear U V Y Z ab ac f0 f1 f2 f3 f4 f5 ad am ao ap a0 a1 a7 b5;generalize (a4.setCell ⟨w.heap.size+1+1,3,none⟩ _)=cu at G H F ⊢;obtain⟨bq,b8,ce⟩:=dO G H F;clear G H F;have a7:=aI bq.o.q0 4 rfl;go_upto_region 7 with(go_at_call 28;(with_reducible refine(AW a.A4 a.c4 x.x4 _ (ba.o _ bq.o.b).i4 a6.o.i4).mono ?_);rintro e a5 ⟨N,R,rfl,I,D⟩;have cn:=zH I;have bo:=zH D;have h:=bq.o.ext D;have b6:=zH h;obtain⟨⟨U,V,Y,Z,ab,ac⟩,f0,f1,f2,f3,f4,f5⟩:=bB h.q2;obtain⟨⟨ad,am,ao,ap,a0,a1⟩,-⟩:=bB h.q0;clear I D h)
 have G:=(b6.o.set 4 (.slice N x.x4.length R) rfl);have H:=((bn.refl (w.heap.size+1+1) (w.heap.size+1+1+1) a5).nC (p:=⟨w.heap.size+1+1,4,none⟩) (v:=.slice N x.x4.length R) (af _) (gq _));have F:(a5.setCell ⟨w.heap.size+1+1,4,none⟩ (.slice N x.x4.length R)).heap.size=a5.heap.size:=Rq;clear U V Y Z ab ac f0 f1 f2 f3 f4 f5 ad am ao ap a0 a1 a7 b6;generalize (a5.setCell ⟨w.heap.size+1+1,4,none⟩ _)=cz at G H F ⊢;obtain⟨br,bu,ch⟩:=dO G H F;clear G H F;have a7:=aI br.o.q0 5 rfl;go_upto_region 8 with(go_at_call 28;(with_reducible refine(AW a.A5 a.c5 x.x5 _ (ba.o _ br.o.b).i5 a6.o.i5).mono ?_);rintro e a8 ⟨O,T,rfl,I,D⟩;have co:=zH I;have a9:=zH D;have h:=br.o.ext D;have b7:=zH h;obtain⟨⟨U,V,Y,Z,ab,ac⟩,f0,f1,f2,f3,f4,f5⟩:=bB h.q2;obtain⟨⟨ad,am,ao,ap,a0,a1⟩,-⟩:=bB h.q0;clear I D h)
 have G:=(b7.o.set 5 (.slice O x.x5.length T) rfl);have H:=((bn.refl (w.heap.size+1+1) (w.heap.size+1+1+1) a8).nC (p:=⟨w.heap.size+1+1,5,none⟩) (v:=.slice O x.x5.length T) (af _) (gq _));have F:(a8.setCell ⟨w.heap.size+1+1,5,none⟩ (.slice O x.x5.length T)).heap.size=a8.heap.size:=Rq;clear U V Y Z ab ac f0 f1 f2 f3 f4 f5 ad am ao ap a0 a1 a7 b7;generalize (a8.setCell ⟨w.heap.size+1+1,5,none⟩ _)=a2 at G H F ⊢;obtain⟨bd,bg,ci⟩:=dO G H F;clear G H F;obtain⟨⟨d5,d6,d7,d8,d9,ea⟩,dq,dr,dT,d0,d1,d2⟩:=bB bd.o.q1;obtain⟨⟨ad,am,ao,ap,a0,a1⟩,-⟩:=bB bd.o.q2;have y:=dR (v0:=.bool x.e) (v1:=.slice A1 x.xs.length c1) (v2:=.int .i64 x.sd) (v3:=.slice J x.x3.length c2) (v4:=.slice N x.x4.length R) (v5:=.slice O x.x5.length T) bd.o.q1;obtain⟨⟨eb,eg,ei,ej,ek,em⟩,-⟩:=bB y;clear y;go_wp2;refine aE (v:=.agg (oH x.e A1 x.xs.length c1 x.sd J x.x3.length c2 N x.x4.length R O x.x5.length T)) (by simp[results,results10,go_sem, *]) rfl ?_;have bi:bn (w.heap.size+1) (w.heap.size+1+1) a2 (Dc a2 (w.heap.size+1) (.bool x.e) (.slice A1 x.xs.length c1) (.int .i64 x.sd) (.slice J x.x3.length c2) (.slice N x.x4.length R) (.slice O x.x5.length T)):=
  (((((((bn.refl (w.heap.size+1) (w.heap.size+1+1) a2).nC (p:=⟨w.heap.size+1,0,none⟩) (v:=.bool x.e) (af _) (gq _)).nC (p:=⟨w.heap.size+1,1,none⟩) (v:=.slice A1 x.xs.length c1) (af _) (gq _)).nC (p:=⟨w.heap.size+1,2,none⟩) (v:=.int .i64 x.sd) (af _) (gq _)).nC (p:=⟨w.heap.size+1,3,none⟩) (v:=.slice J x.x3.length c2) (af _) (gq _)).nC (p:=⟨w.heap.size+1,4,none⟩) (v:=.slice N x.x4.length R) (af _) (gq _)).nC (p:=⟨w.heap.size+1,5,none⟩) (v:=.slice O x.x5.length T) (af _) (gq _))
 have d3:=bc.o.lt;have c3:=cc.o;have n2:=ce.o;have c4:=ch.o;have d4:=ci.o;have c9:=cb.o.size;have db:=b3.o.size;have dc:=bo.o.size;have dl:=a9.o.size;have c5:pL a2 cr.heap.size a3.heap.size (.slice A1 x.xs.length c1) x.xs:=((((((cj.o.within cp.o Rr).ext b3.o).within b8.o Rr).ext bo.o).within bu.o Rr).ext a9.o).within bg.o Rr;have c6:rP a2 ct.heap.size a4.heap.size (.slice J x.x3.length c2) x.x3:=((((ck.o.within b8.o Rr).ext bo.o).within bu.o Rr).ext a9.o).within bg.o Rr;have c7:rP a2 cu.heap.size a5.heap.size (.slice N x.x4.length R) x.x4:=((cn.o.within bu.o Rr).ext a9.o).within bg.o Rr;have c8:rP a2 cz.heap.size a8.heap.size (.slice O x.x5.length T) x.x5:=co.o.within bg.o Rr;refine⟨⟨A1,c1,J,c2,N,R,O,T⟩,rfl,⟨a3.heap.size,a4.heap.size,a5.heap.size,Rr,Rr,Rr,?_,(c5.within bi Rr).low Rr,an ?_,an ?_,an ?_⟩,?_⟩
 .simp[Dc];omega
 .have:=c6.within bi Rr;rw[c3]at this;exact this
 .have:=c7.within bi Rr;rw[n2]at this;exact this
 .have:=c8.within bi Rr;rw[c4]at this;exact this.mono (af _) (by simp[Dc];omega)
 .exact dp bd.o.b (b:=w.heap.size+1) Rr ..
theorem jL(x:qO)(a b:Va)(w:aa)(ba:nR w a x)(bb:nR w b x)(bc:nY 1048576 x):aw 13 (iD (cx x a) (cx x b)) w (dM w true):=by
 have a2:=((aj w.heap.size w).alloc Rq (.cells (cx x a) 39)).alloc Rq (.cells (cx x b) 39);have ac:=(bJ (w.alloc (.cells (cx x a) 39)) (.cells (cx x b) 39) (k:=w.heap.size) Rq).trans (aC w _ rfl);have ad:=aC (w.alloc (.cells (cx x a) 39)) (.cells (cx x b) 39) (n:=w.heap.size+1) Rq;obtain⟨Z,ab,D⟩:=dO (fun a1 (a3:ag w a1)=>ba.ext a3) (fun a1 (a3:ag w a1)=>bb.ext a3) bc;clear ba bb bc;go_enter func13,ntmps13
 go_upto_region 1 with(fail)
 generalize (w.alloc _).alloc _=W at a2 ac ad ⊢;obtain⟨am,bg,bo⟩:=dO a2 ac ad;obtain⟨⟨F,G,H,I,J,N⟩,-⟩:=bB ac;obtain⟨⟨O,R,T,U,V,Y⟩,-⟩:=bB ad;clear a2 ac ad;go_upto_region 5 with(go_at_call 32;refine(Dk a.A b.A a.c b.c x.xs _ (Z.o _ am.o).s (ab.o _ am.o).s D.o.s D.o.ss).mono ?_;rintro e bq ⟨rfl,h⟩;have ao:=zH (ai am.o h);have a4:=zH (ah bg.o h);have a7:=zH (ah bo.o h);clear h F G H I J N O R T U V Y;obtain⟨⟨F,G,H,I,J,N⟩,-⟩:=bB a4.o;obtain⟨⟨O,R,T,U,V,Y⟩,-⟩:=bB a7.o)
 go_upto_region 9 with(go_at_call 33;refine(Calls.be (pY a.A3 b.A3 a.c3 b.c3 x.x3 x.x3 _ (Z.o _ ao.o).i3 (ab.o _ ao.o).i3 (lE D.o.i3) (lE D.o.i3)) (gH rfl)).mono ?_;rintro e br ⟨rfl,h⟩;have ap:=zH (ai ao.o h);have a5:=zH (ah a4.o h);have a8:=zH (ah a7.o h);clear h F G H I J N O R T U V Y;obtain⟨⟨F,G,H,I,J,N⟩,-⟩:=bB a5.o;obtain⟨⟨O,R,T,U,V,Y⟩,-⟩:=bB a8.o)
 go_upto_region 11 with(go_at_call 33;refine(Calls.be (pY a.A4 b.A4 a.c4 b.c4 x.x4 x.x4 _ (Z.o _ ap.o).i4 (ab.o _ ap.o).i4 (lE D.o.i4) (lE D.o.i4)) (gH rfl)).mono ?_;rintro e bu ⟨rfl,h⟩;have a0:=zH (ai ap.o h);have a6:=zH (ah a5.o h);have a9:=zH (ah a8.o h);clear h F G H I J N O R T U V Y;obtain⟨⟨F,G,H,I,J,N⟩,-⟩:=bB a6.o;obtain⟨⟨O,R,T,U,V,Y⟩,-⟩:=bB a9.o)
 go_upto_region 13 with(go_at_call 33;refine(Calls.be (pY a.A5 b.A5 a.c5 b.c5 x.x5 x.x5 _ (Z.o _ a0.o).i5 (ab.o _ a0.o).i5 (lE D.o.i5) (lE D.o.i5)) (gH rfl)).mono ?_;rintro e bv ⟨rfl,h⟩;have bd:=zH (ai a0.o h);have bi:=zH (ah a6.o h);have bp:=zH (ah a9.o h);clear h F G H I J N O R T U V Y;obtain⟨⟨F,G,H,I,J,N⟩,-⟩:=bB bi.o;obtain⟨⟨O,R,T,U,V,Y⟩,-⟩:=bB bp.o)
 go_wp2;go_ret
 exact⟨rfl,bd.o⟩
def EC(x:qO):Int:=jh x.xs+(x.x3.length:Int)+(x.x4.length:Int)+(x.x5.length:Int)
def zdk(k:Int)(x:qO):qO:=⟨x.e,qS k x.xs,x.sd,pQ (k+jh x.xs) x.x3.length,pQ (k+jh x.xs+x.x3.length) x.x4.length,pQ (k+jh x.xs+x.x3.length+x.x4.length) x.x5.length⟩
theorem tD(k:Int)(lo hi:Nat)(A:aq)(cap:Nat)(xs:aH)(w:aa)(h:xJ w lo hi (.slice A xs.length cap) xs)(J:xs.length<=1048576)(H:0<=k)(I:k<=1152921504606846976):aw 44 (oI A xs cap k) w fun e w'=>e=.returned (.int .i64 (k+xs.length))/\xJ w' lo hi (.slice A (pQ k xs.length).length cap) (pQ k xs.length)/\bn lo hi w w':=by
 rcases h with rfl|h
 .go_enter func44,ntmps44
  go_wp2;go_loopw [1,5] (fun q i wr=>i=.int .i64 0/\q=.int .i64 k/\wr=w) (fun _ _ _=>0)
  case atStart=>exact⟨rfl,rfl,rfl⟩
  case round=>
   obtain⟨rfl,rfl,rfl⟩:=hrel;go_wp2;go_ret
   exact⟨iB Rq,au rfl,bn.refl _ _ _⟩
 .refine(uZ k lo A cap xs w h.own J H I).mono ?_;rintro e w' ⟨rfl,F,G⟩;refine⟨rfl,an ?_,bn.As G fun b D=>⟨(h.own.lt b D).1,h.up b D⟩⟩;rw[nJ];exact⟨F,h.up⟩
theorem mm(k:Int)(lo hi:Nat)(x:qO)(a:Va)(w:aa)(ci:kD w lo hi a x)(bd:hi<=w.heap.size)(hm:nY 1048576 x)(cj:0<=k)(c0:k<=562949953421312):aw 19 (gD (cx x a) k) w fun e w'=>e=.returned (.int .i64 (k+EC x))/\kD w' lo hi a (zdk k x)/\bn lo hi w w':=by
 obtain⟨O,R,T,a5,a6,a7,a8,a9,ba,bb,bc⟩:=ci;obtain⟨G,Y⟩:=bA w (.cells (cx x a) 39);have ac:=a9.ext G;have ad:=ba.ext G;have am:=bb.ext G;have ao:=bc.ext G;have a2:bn lo hi w (w.alloc (.cells (cx x a) 39)):=bn.eu G;have ck:=lX x.xs;have cn:jh x.xs<=1099515822080:=WH;have F:=zH hm;clear a9 ba bb bc G hm;obtain⟨ab,ap⟩:=aM (jh x.xs);rw[<-ap]at ck cn;have H:=zH ap;go_enter func19,ntmps19
 go_upto_region 1 with(fail)
 generalize w.alloc _=W at Y ac ad am ao a2 ⊢;obtain⟨cc,bo,bp,br,bz,bi⟩:=kE Y ac ad am ao a2;have co:=F.o.i3;have cp:=F.o.i4;have c3:=F.o.i5;obtain⟨bg,a0⟩:=aM x.x3.length;obtain⟨cq,a1⟩:=aM x.x4.length;rw[<-a0]at co;rw[<-a1]at cp;obtain⟨U,Z⟩:=bD a0 a1;have cA:=aI Y 1 rfl;clear Y ac ad am ao a2 ap a0 a1;obtain⟨G1,GG⟩:=bD (show hi<=w.heap.size from bd) (show lo<=O/\O<=R/\R<=T/\T<=hi from⟨a5,a6,a7,a8⟩);clear a5 a6 a7 a8 bd;go_upto_region 2 with(go_at_call 43;(with_reducible refine(Bm k lo O a.A a.c x.xs W bo.o F.o.s F.o.ss cj Rr).mono ?_);rintro e cr ⟨rfl,h,D⟩;rw[<-H.o];have b3:=zH h;have I:=zH D;clear h D cA)
 have a3:=zH (iY cc.o I.o UJ);have cB:=aI a3.o 3 rfl;obtain⟨bq,bu,b0⟩:=dO (bp.o.within I.o Tg) (br.o.within I.o Tg) (bz.o.within I.o Tg);go_upto_region 3 with(go_at_call 44;(with_reducible refine(tD (k+ab) O R a.A3 a.c3 x.x3 cr bq.o F.o.i3 Rr Rr).mono ?_);rintro e ct ⟨rfl,h,D⟩;rw[<-U.o];have b7:=zH h;have J:=zH D;clear h D cB)
 have a4:=zH (iY a3.o J.o UJ);have cF:=aI a4.o 4 rfl;obtain⟨bv,b1,b4⟩:=dO (bu.o.within J.o Tg) (b0.o.within J.o Tg) (b3.o.within J.o Tg);go_upto_region 4 with(go_at_call 44;(with_reducible refine(tD (k+ab+bg) R T a.A4 a.c4 x.x4 ct bv.o F.o.i4 Rr Rr).mono ?_);rintro e cu ⟨rfl,h,D⟩;rw[<-Z.o];have ca:=zH h;have N:=zH D;clear h D cF)
 have ce:=zH (iY a4.o N.o UJ);have cI:=aI ce.o 5 rfl;obtain⟨b2,b5,b8⟩:=dO (b1.o.within N.o Tg) (b4.o.within N.o Tg) (b7.o.within N.o Tg);go_upto_region 5 with(go_at_call 44;(with_reducible refine(tD (k+ab+bg+cq) T hi a.A5 a.c5 x.x5 cu b2.o F.o.i5 Rr Rr).mono ?_);rintro e cz ⟨rfl,h,D⟩;have O4:=zH h;have V:=zH D;clear h D cI)
 obtain⟨b6,b9,cb⟩:=dO (b5.o.within V.o Tg) (b8.o.within V.o Tg) (ca.o.within V.o Tg);have ch:=zH (show bn lo hi w cz by have cO:=GG.o;exact(((bi.o.trans (I.o.mono Rr Rr)).trans (J.o.mono Rr Rr)).trans (N.o.mono Rr Rr)).trans (V.o.mono Rr Rr))
 go_wp2;go_ret
 refine⟨iB (by unfold EC;rw[<-H.o,<-U.o,<-Z.o];omega),⟨O,R,T,GG.o.1,GG.o.2.1,GG.o.2.2.1,GG.o.2.2.2,?_,?_,?_,?_⟩,ch.o⟩
 .have:=b6.o;unfold zdk;dsimp only;rw[po];exact this
 .have:=b9.o;rw[H.o]at this;exact this
 .have:=cb.o;rw[H.o,U.o]at this;exact this
 .have:=O4.o;rw[H.o,U.o,Z.o]at this;exact this
theorem qF(k:Int)(x:qO)(a:Va)(w:aa)(ac:nR w a (zdk k x))(hm:nY 1048576 x)(a4:0<=k)(a8:k<=562949953421312):aw 20 (gD (cx x a) k) w fun e w'=>e=.returned (.int .i64 (k+EC x))/\ag w w':=by
 obtain⟨R,T⟩:=bA w (.cells (cx x a) 39);have D:=ac.ext R;have a5:=lX x.xs;have a6:jh x.xs<=1099515822080:=WH;have H:=zH hm;clear ac hm;obtain⟨V,F⟩:=aM (jh x.xs);rw[<-F]at a5 a6;have ab:=zH F;go_enter func20,ntmps20
 go_upto_region 1 with(fail)
 generalize w.alloc _=W at T D R ⊢;have a0:=zH R;have ad:=H.o.i3;have am:=H.o.i4;have ao:=H.o.i5;obtain⟨Y,h⟩:=aM x.x3.length;obtain⟨ap,G⟩:=aM x.x4.length;obtain⟨a7,I⟩:=aM x.x5.length;obtain⟨U,J,N,O⟩:=fU D.s D.i3 D.i4 D.i5;unfold zdk at U J N O;dsimp only at U J N O;rw[<-F,<-h]at J;rw[<-F,<-h,<-G]at N;rw[<-F,<-h,<-G,<-I]at O;rw[<-h,<-G,<-I]at T;rw[<-h]at ad;rw[<-G]at am;rw[<-I]at ao;obtain⟨a1,a2,a3⟩:=dO h G I;obtain⟨⟨a9,ba,bb,bc,bd,bg⟩,-⟩:=bB T;clear T D F h G I R;go_upto_region 2 with(go_at_call 45;(with_reducible refine(Bn k a.A a.c x.xs W U.o H.o.s H.o.ss a4 Rr).mono ?_);rintro e Z ⟨rfl,rfl⟩;rw[<-ab.o])
 go_upto_region 5 with(go_at_call 46;(with_reducible refine(mN (k+V) a.A3 a.c3 Y _ J.o ad Rr Rr).mono ?_);rintro e Z ⟨rfl,rfl⟩)
 go_upto_region 8 with(go_at_call 46;(with_reducible refine(mN (k+V+Y) a.A4 a.c4 ap _ N.o am Rr Rr).mono ?_);rintro e Z ⟨rfl,rfl⟩)
 go_upto_region 11 with(go_at_call 46;(with_reducible refine(mN (k+V+Y+ap) a.A5 a.c5 a7 _ O.o ao Rr Rr).mono ?_);rintro e Z ⟨rfl,rfl⟩)
 go_wp2;go_ret
 exact⟨iB (by unfold EC;rw[<-ab.o,<-a1.o,<-a2.o,<-a3.o];omega),a0.o⟩
def ze2(w:aa)(h:List Obj):World:=h.foldl World.alloc w
theorem pN:∀(h:List Obj) (w:aa),Below w.heap.size w (ze2 w h)
 |[],_=>aj _ _
 |o::h,w=>ai (ak w o) (pN h (w.alloc o))
theorem nl:∀(D:List Obj) (w:aa) (k:Nat) {o:Obj},D[k]?=some o->(ze2 w D).heap[w.heap.size+k]?=some o
 |[],_,_,_,h=>RM
 |o::D,w,0,F,h=>by simp only[cZ,dZ]at h;subst h;exact ah (aC w o rfl) (pN D (w.alloc o))
 |o::D,w,k+1,F,h=>by have:=nl D (w.alloc o) k (o:=F) R9;rw[dt]at this;rw[show w.heap.size+(k+1)=w.heap.size+1+k by omega];exact this
structure It where
 s:Nat
 e:Nat
 lo:Nat
 hi:Nat
 b:Nat
 cs:Array Value
 T:TypeId
 P:World->Prop
structure It.Ok(B:Nat)(i:It)(W:aa):Prop where
 box:aW W i.b i.cs i.T
 here:i.P W
 ext:∀{V V':aa},i.P V->ag V V'->i.P V'
 far:∀{V V':aa} {lo hi:Nat},i.P V->bn lo hi V V'->(i.hi<=lo∨hi<=i.lo)->i.P V'
 ord:B<=i.s/\i.s<=i.lo/\i.lo<=i.hi/\i.hi<=i.e/\i.s<=i.b/\i.b<i.e/\(i.b<i.lo∨i.hi<=i.b)
structure qT(Z:aa)(its:List It)(W:aa):Prop where
 base:ag Z W
 ok:∀i∈its,It.Ok Z.heap.size i W
 top:∀i∈its,i.e<=W.heap.size
 pw:its.Pairwise fun i j=>i.e<=j.s
section
variable{Z W W' V:aa}{its l r:List It}{i:It}{lo hi c k:Nat}{A:aq}{L:List er}{a:Va}{x:qO}
theorem qT.nil(h:ag Z W):qT Z [] W:=⟨h,(fun i hi=>by cases hi),(fun i hi=>by cases hi),List.Pairwise.nil⟩
theorem qT.ext(h:qT Z its W)(D:ag W W'):qT Z its W':=⟨ai h.base D,fun i hi=>have o:=h.ok i hi;⟨ah o.box D,o.ext o.here D,o.ext,o.far,o.ord⟩,fun i hi=>aR (h.top i hi) D.size,h.pw⟩
theorem qT.get(h:qT Z its W){k:Nat}(e:its[k]?=some i):It.Ok Z.heap.size i W:=h.ok i (aY e)
theorem qT.snoc(D:qT Z its V)(I:ag V W)(hi:It.Ok Z.heap.size i W)(N:V.heap.size<=i.s)(J:i.e<=W.heap.size):qT Z (its++[i]) W:=by
 have F:=D.ext I;refine⟨F.base,fun j h=>?_,fun j h=>?_,DZ.2 ⟨D.pw,List.pairwise_singleton _ _,fun a H b G=>?_⟩⟩
 .rcases eh.1 h with h|h
  .exact F.ok j h
  .rw[kp]at h;subst h;exact hi
 .rcases eh.1 h with h|h
  .exact F.top j h
  .rw[kp]at h;subst h;exact J
 .rw[kp]at G;subst G;exact aR (D.top a H) N
theorem qT.mark(T:qT Z (l++i::r) W)(P:iT)(h:bn i.lo i.hi W W')(ab:P W')(U:∀{V D:aa},P V->ag V D->P D)(Y:∀{V D:aa} {lo hi:Nat},P V->bn lo hi V D->(i.hi<=lo∨hi<=i.lo)->P D):qT Z (l++{i with P:=P}::r) W':=by
 obtain⟨O,G,H,ac⟩:=T;obtain⟨ad,p2,I⟩:=DZ.1 ac;obtain⟨R,am⟩:=List.pairwise_cons.1 p2;have o:=(G i Rq).ord;have J:∀j:It,It.Ok Z.heap.size j W->(j.e<=i.s∨i.e<=j.s)->It.Ok Z.heap.size j W':=fun j hj ao=>by have ap:=hj.ord;exact⟨iY hj.box h Rr,hj.far hj.here h Rr,hj.ext,hj.far,hj.ord⟩
 refine⟨O.trans (h.below Rr O.size),fun j hj=>?_,fun j hj=>?_,?_⟩
 .rcases eh.1 hj with hj|hj
  .exact J j (G j RJ) (au (I j hj i Rq))
  .rcases dQ.1 hj with hj|hj
   .subst hj;exact⟨iY (G i Rq).box h (by show i.b<i.lo∨i.hi<=i.b;omega),ab,U,Y,o⟩
   .exact J j (G j RJ) (an (R j hj))
 .rcases eh.1 hj with hj|hj
  .exact aR (H j RJ) h.size
  .rcases dQ.1 hj with hj|hj
   .subst hj;exact aR (H i Rq) h.size
   .exact aR (H j RJ) h.size
 .refine DZ.2 ⟨ad,List.pairwise_cons.2 ⟨R,am⟩,fun a N b F=>?_⟩;rcases dQ.1 F with F|F
  .subst F;exact I a N i Rq
  .exact I a N b (by simp[F])
theorem qT.off(h:qT Z (l++i::r) W)(D:bn i.lo i.hi W W'):qT Z (l++{i with P:=fun _=>True}::r) W':=h.mark _ D trivial (fun _ _=>trivial) (fun _ _ _=>trivial)
def It.tm(lo hi:Nat)(A:aq)(c:Nat)(L:List er):It:=⟨lo,hi+1,lo,hi,hi,#[.slice A L.length c],35,fun W=>sJ W lo hi (.slice A L.length c) L⟩
def It.vd(s e lo hi b:Nat)(a:Va)(x:qO):It:=⟨s,e,lo,hi,b,#[.bool x.e,.slice a.A x.xs.length a.c,.int .i64 x.sd,.slice a.A3 x.x3.length a.c3,.slice a.A4 x.x4.length a.c4,.slice a.A5 x.x5.length a.c5],39,fun W=>kD W lo hi a x⟩
theorem qT.zhb(h:qT Z its V)(H:dz W V.heap.size (.slice A L.length c) L)(D:ag V W):qT Z (its++[It.tm V.heap.size W.heap.size A c L]) (W.alloc (.cells (aO A L c) 35)):=by have F:=D.size;have J:=h.base.size;refine h.snoc (ai D (ak _ _)) ⟨aC _ _ rfl,(sJ.of H).ext (ak _ _),fun h D=>sJ.ext h D,fun h I G=>sJ.within h I G,?_⟩ (af _) (by simp[It.tm]);exact⟨J,af _,F,wN _,F,gq _,an (af _)⟩
theorem qT.zhc(h:qT Z its V)(H:kD W V.heap.size W.heap.size a x)(D:ag V W):qT Z (its++[It.vd V.heap.size (W.heap.size+1) V.heap.size W.heap.size W.heap.size a x]) (W.alloc (.cells (cx x a) 39)):=by have F:=D.size;have J:=h.base.size;refine h.snoc (ai D (ak _ _)) ⟨aC _ _ rfl,kD.ext H (ak _ _),fun h D=>kD.ext h D,fun h I G=>kD.within h I G,?_⟩ (af _) (by simp[It.vd]);exact⟨J,af _,F,wN _,F,gq _,an (af _)⟩
theorem qT.Df{k:Nat}(h:qT Z its W)(e:its[k]?=some (It.tm lo hi A c L)):aW W hi (aO A L c) 35:=(h.get e).box
theorem qT.eI{k:Nat}(h:qT Z its W)(e:its[k]?=some (It.tm lo hi A c L)):bF 3 iR W A L:=by obtain⟨D,c2,e2,h2,-⟩:=(show sJ W lo hi (.slice A L.length c) L from(h.get e).here).own.view (aR (h.get e).ord.2.2.1 (aR (h.get e).ord.2.2.2.1 (h.top _ (aY e))));exact WE
theorem qT.zhd{k:Nat}(h:qT Z its W)(e:its[k]?=some (It.tm lo hi A c L)):sJ W lo hi (.slice A L.length c) L:=(h.get e).here
theorem qT.nD{k e:Nat}(h:qT Z its W)(q:its[k]?=some (It.vd s e lo hi b a x)):aW W b (cx x a) 39:=(h.get q).box
theorem qT.xh{k e:Nat}(h:qT Z its W)(q:its[k]?=some (It.vd s e lo hi b a x)):kD W lo hi a x:=(h.get q).here
theorem qT.zhe{k e:Nat}(h:qT Z its W)(q:its[k]?=some (It.vd s e lo hi b a x)):hi<=W.heap.size:=aR (h.get q).ord.2.2.2.1 (h.top _ (aY q))
end
def ze3(t:qO)(ok:Bool)(w:aa)(e:Ending)(w':aa):Prop:=∃a:Va,e=.returned (.tuple (jy (cx t a) ok))/\kD w' w.heap.size w'.heap.size a t/\ag w w'
def Bu(Z:aa)(t:qO)(ok:Bool)(h z2:ax)(W:aa):Prop:=∃(s e lo hi b:Nat) (a:Va),h=.pointer (some ⟨b,0,none⟩)/\z2=.bool ok/\qT Z [It.vd s e lo hi b a t] W
theorem Bu.late{Z W:aa}{lo:Nat}{a:Va}{t:qO}{ok:Bool}(D:ag Z W)(I:kD W lo W.heap.size a t)(F:Z.heap.size<=lo)(G:lo<=W.heap.size):Bu Z t ok (.pointer (some ⟨W.heap.size,0,none⟩)) (.bool ok) (W.alloc (.cells (cx t a) 39)):=by refine⟨lo,W.heap.size+1,lo,W.heap.size,W.heap.size,a,rfl,rfl,?_⟩;refine(qT.nil (aj _ _)).snoc (i:=It.vd lo (W.heap.size+1) lo W.heap.size W.heap.size a t) (ai D (ak _ _)) ⟨aC _ _ rfl,kD.ext I (ak _ _),fun h D=>kD.ext h D,fun h J H=>kD.within h J H,?_⟩ F (by simp[It.vd]);exact⟨F,af _,G,wN _,G,gq _,an (af _)⟩
theorem Bu.early{Z W:aa}{lo:Nat}{a:Va}{t:qO}{ok:Bool}(H:ag Z W)(U:kD W lo W.heap.size a t)(N:aW W b #[R,T,z2,Ro,Rj,Rh] 39)(G:Z.heap.size<=b)(h:b<lo)(I:lo<=W.heap.size):Bu Z t ok (.pointer (some ⟨b,0,none⟩)) (.bool ok) (Dc W b (.bool t.e) (.slice a.A t.xs.length a.c) (.int .i64 t.sd) (.slice a.A3 t.x3.length a.c3) (.slice a.A4 t.x4.length a.c4) (.slice a.A5 t.x5.length a.c5)):=by
 refine⟨Z.heap.size,W.heap.size,lo,W.heap.size,b,a,rfl,rfl,?_⟩;have D:bn b lo W (Dc W b (.bool t.e) (.slice a.A t.xs.length a.c) (.int .i64 t.sd) (.slice a.A3 t.x3.length a.c3) (.slice a.A4 t.x4.length a.c4) (.slice a.A5 t.x5.length a.c5)):=
  ((((((bn.eu (aj _ W)).nC (p:=⟨b,0,none⟩) (af b) h).nC (p:=⟨b,1,none⟩) (af b) h).nC (p:=⟨b,2,none⟩) (af b) h).nC (p:=⟨b,3,none⟩) (af b) h).nC (p:=⟨b,4,none⟩) (af b) h).nC (p:=⟨b,5,none⟩) (af b) h
 have O:=D.size;refine(qT.nil (aj _ _)).snoc (i:=It.vd Z.heap.size W.heap.size lo W.heap.size b a t) (dp H G ..) ⟨dR N,U.within D (an (af _)),fun F H=>kD.ext F H,fun F D J=>kD.within F D J,?_⟩ (af _) O;exact⟨af _,aR G (fV h),I,af _,G,dI h I,au h⟩
theorem qG(w:aa)(o:Obj):w.heap.size < (w.alloc o).heap.size:=Rq
theorem at_drew(w:aa)(o:Obj):(w.alloc o).drew.heap[w.heap.size]?=some o:=aC w o rfl
theorem g_{c:Nat}{A:aq}{L:List er}(h:dz w B (.slice A n c) L)(D:B<=w.heap.size):bF 3 iR w A L:=by obtain⟨F,c2,e2,h2,-⟩:=h.view D;exact WE
theorem Dg{x:qO}(h:nY 1048576 x):0<=EC x/\EC x<=1099518967808:=by have D:=lX x.xs;have F:=zco x.xs h.ss;obtain⟨a,-,b,c,d⟩:=h;unfold EC;omega
abbrev vJ(w:aa)(b:Nat)(v0 v1 v2 v3 v4 v5 v6 v7 v8 v9 v10 v11 v12 v13:ax):World:=(((((((((((((w.setCell ⟨b,0,none⟩ v0).setCell ⟨b,1,none⟩ v1).setCell ⟨b,2,none⟩ v2).setCell ⟨b,3,none⟩ v3).setCell ⟨b,4,none⟩ v4).setCell ⟨b,5,none⟩ v5).setCell ⟨b,6,none⟩ v6).setCell ⟨b,7,none⟩ v7).setCell ⟨b,8,none⟩ v8).setCell ⟨b,9,none⟩ v9).setCell ⟨b,10,none⟩ v10).setCell ⟨b,11,none⟩ v11).setCell ⟨b,12,none⟩ v12).setCell ⟨b,13,none⟩ v13
theorem mi{ad am ao ap v10 v11 v12 v13:ax}(ac:aW w b #[R,T,z2,Ro,Rj,Rh,Rc,QZ,QX,QT,ad,am,ao,ap] t):(vJ w b v0 v1 v2 v3 v4 v5 v6 v7 v8 v9 v10 v11 v12 v13).heap[b]?=some (.cells #[v0,v1,v2,v3,v4,v5,v6,v7,v8,v9,v10,v11,v12,v13] t (0,0)):=by have h:=bm _ b 0 _ _ v0 ac;have D:=bm _ b 1 _ _ v1 h;have J:=bm _ b 2 _ _ v2 D;have N:=bm _ b 3 _ _ v3 J;have O:=bm _ b 4 _ _ v4 N;have U:=bm _ b 5 _ _ v5 O;have V:=bm _ b 6 _ _ v6 U;have Y:=bm _ b 7 _ _ v7 V;have Z:=bm _ b 8 _ _ v8 Y;have ab:=bm _ b 9 _ _ v9 Z;have F:=bm _ b 10 _ _ v10 ab;have G:=bm _ b 11 _ _ v11 F;have H:=bm _ b 12 _ _ v12 G;have I:=bm _ b 13 _ _ v13 H;simpa[vJ]using I
theorem mj(D:Below B w w')(h:B<=b)(v0 v1 v2 v3 v4 v5 v6 v7 v8 v9 v10 v11 v12 v13:ax):Below B w (vJ w' b v0 v1 v2 v3 v4 v5 v6 v7 v8 v9 v10 v11 v12 v13):=((((((((((((((D.setCell h _).setCell h _).setCell h _).setCell h _).setCell h _).setCell h _).setCell h _).setCell h _).setCell h _).setCell h _).setCell h _).setCell h _).setCell h _).setCell h _)
theorem A_{v10 v11 v12 v13:ax}(h:k≠b):(vJ w b v0 v1 v2 v3 v4 v5 v6 v7 v8 v9 v10 v11 v12 v13).heap[k]?=w.heap[k]?:=(aZ _ _ _ _ h).trans ((aZ _ _ _ _ h).trans ((aZ _ _ _ _ h).trans ((aZ _ _ _ _ h).trans ((aZ _ _ _ _ h).trans ((aZ _ _ _ _ h).trans ((aZ _ _ _ _ h).trans ((aZ _ _ _ _ h).trans ((aZ _ _ _ _ h).trans ((aZ _ _ _ _ h).trans ((aZ _ _ _ _ h).trans ((aZ _ _ _ _ h).trans ((aZ _ _ _ _ h).trans (aZ _ _ _ _ h)))))))))))))
theorem jP{D F G H:ax}(h:aW w b #[R,T,z2,Ro,Rj,Rh,Rc,QZ,QX,QT,D,F,G,H] t):(ae w b 0 R/\ae w b 1 T/\ae w b 2 z2/\ae w b 3 Ro/\ae w b 4 Rj/\ae w b 5 Rh/\ae w b 6 Rc/\ae w b 7 QZ/\ae w b 8 QX/\ae w b 9 QT/\ae w b 10 D/\ae w b 11 F/\ae w b 12 G/\ae w b 13 H)/\w.frozen? ⟨b,0,none⟩=false/\w.frozen? ⟨b,1,none⟩=false/\w.frozen? ⟨b,2,none⟩=false/\w.frozen? ⟨b,3,none⟩=false/\w.frozen? ⟨b,4,none⟩=false/\w.frozen? ⟨b,5,none⟩=false/\w.frozen? ⟨b,6,none⟩=false/\w.frozen? ⟨b,7,none⟩=false/\w.frozen? ⟨b,8,none⟩=false/\w.frozen? ⟨b,9,none⟩=false/\w.frozen? ⟨b,10,none⟩=false/\w.frozen? ⟨b,11,none⟩=false/\w.frozen? ⟨b,12,none⟩=false/\w.frozen? ⟨b,13,none⟩=false:=⟨⟨aI h 0 rfl,aI h 1 rfl,aI h 2 rfl,aI h 3 rfl,aI h 4 rfl,aI h 5 rfl,aI h 6 rfl,aI h 7 rfl,aI h 8 rfl,aI h 9 rfl,aI h 10 rfl,aI h 11 rfl,aI h 12 rfl,aI h 13 rfl⟩,aK h 0,aK h 1,aK h 2,aK h 3,aK h 4,aK h 5,aK h 6,aK h 7,aK h 8,aK h 9,aK h 10,aK h 11,aK h 12,aK h 13⟩
def zfG(p:Int)(h D:List er)(w:aa)(e:Ending)(w':aa):Prop:=∃v:ax,e=.returned (.tuple #[v,.bool (qD p h D)])/\ag w w'/\
 (qD p h D=true->∃(T ab ac ad d1 d2 d3 U V Y Z f1 f2 f3 O R:Nat) (G1 G H I J N F E:aq),v=.agg (DN T G1 ab d1 G ac d2 H ad d3 U I V f1 J Y f2 N Z f3 (jm p h).v (jm p h).h F (jm p h).rows.length O (jm p D).v (jm p D).h E (jm p D).rows.length R)/\bk w' F (jm p h).rows/\bk w' E (jm p D).rows)/\(qD p h D=false->v=.agg p_)
theorem CV(p:Int)(D F:List er)(A B:aq)(bd bg:Nat)(w:aa)(cj:bF 3 iR w A D)(a7:bF 3 iR w B F)(cq:D.length<=1048576)(cr:F.length<=1048576)(ck:D.length<=bd)(cn:F.length<=bg):aw 24 (iK p (aO A D bd) (aO B F bg)) w (zfG p D F w):=by
 obtain⟨cb,cc⟩:=bD (fun bc (b5:ag w bc)=>zQ p D A bd bc (bw cj b5) cq ck) (fun bc (b5:ag w bc)=>zQ p F B bg bc (bw a7 b5) cr cn);obtain⟨cu,co⟩:=aM D.length;obtain⟨cz,cp⟩:=aM F.length;rw[<-co]at cb ⊢;rw[<-cp]at cc ⊢;clear cj a7 cq cr ck cn co cp;have a7:=below_alloc3 w (.cells (cg A cu bd) 35) (.cells (cg B cz bg) 35) (.cells p_ 59);obtain⟨b6,b7,bu⟩:=cm w (.cells (cg A cu bd) 35) (.cells (cg B cz bg) 35) (.cells p_ 59);go_enter func24,ntmps24
 go_upto_region 1 with(fail)
 generalize (((w.alloc _).alloc _).alloc _)=W at a7 b6 b7 bu ⊢;have d7:=aI b6 0 rfl;obtain⟨bv,cA,cB,ca⟩:=fU a7 b7 bu (show w.heap.size+1+1<W.heap.size from(aT.1 bu).1);clear a7 b6 b7 bu;go_upto_region 2 with(go_at_call 49;(with_reducible refine(cb.o W bv.o).mono ?_);intro e a4 h;unfold zg6 at h;obtain⟨ab,ap,G,H,G1,O,R,d1,d2,d3,S,N,Y,b4,bp,bi,hb⟩:=h;subst b4;have ce:=zH bp;have cI:=zH bi;have b8:=zH hb;clear hb bi bp)
 clear d7;have J:=(ak a4 (.cells (qm ab G1 ap d1 O G d2 R H d3) 54)).alloc Rq (.cells (cU S N Y) 57);have ad:=(bJ (a4.alloc (.cells (qm ab G1 ap d1 O G d2 R H d3) 54)) (.cells (cU S N Y) 57) (k:=a4.heap.size) Rq).trans (aC a4 _ rfl);have am:=aC (a4.alloc (.cells (qm ab G1 ap d1 O G d2 R H d3) 54)) (.cells (cU S N Y) 57) (n:=a4.heap.size+1) Rq;generalize (a4.alloc _).alloc _=ci at J ad am ⊢;obtain⟨cF,bq⟩:=bD J (b8.o.trans (J.mono b8.o.size));obtain⟨bz,cO,c6,c9⟩:=fU (bv.o.trans (bq.o.mono bv.o.size)) (cI.o.ext J (af _)) ad am;have d8:=aI (ah cA.o bq.o) 0 rfl;clear J ad am;go_upto_region 3 with(go_at_call 49;(with_reducible refine(cc.o ci bz.o).mono ?_);intro e a5 h;unfold zg6 at h;obtain⟨ac,ao,a8,a9,T,U,V,f1,f2,f3,I,E,Z,b4,bp,bi,hb⟩:=h;subst b4;have ch:=zH bp;have c3:=zH bi;have b9:=zH hb;clear hb bi bp)
 clear d8;have J:=(ak a5 (.cells (qm ac T ao f1 U a8 f2 V a9 f3) 54)).alloc Rq (.cells (cU I E Z) 57);have ad:=(bJ (a5.alloc (.cells (qm ac T ao f1 U a8 f2 V a9 f3) 54)) (.cells (cU I E Z) 57) (k:=a5.heap.size) Rq).trans (aC a5 _ rfl);have am:=aC (a5.alloc (.cells (qm ac T ao f1 U a8 f2 V a9 f3) 54)) (.cells (cU I E Z) 57) (n:=a5.heap.size+1) Rq;generalize (a5.alloc _).alloc _=d9 at J ad am ⊢;have bb:=zH (b9.o.trans (J.mono b9.o.size));obtain⟨GC,c5,c4,KV⟩:=fU (bz.o.trans (bb.o.mono bz.o.size)) (c3.o.ext J (af _)) (cO.o.ext bb.o (by have:=cF.o.size;omega)) (ah (ah cB.o bq.o) bb.o);obtain⟨a0,a1,a2,a3⟩:=aA (ah c6.o bb.o);obtain⟨c0,c1,c2⟩:=aG (ah c9.o bb.o);obtain⟨b0,b1,b2,b3⟩:=aA ad;obtain⟨e0,e1,e2⟩:=aG am;obtain⟨⟨r0,r1,r2,r3,r4,r5,r6,r7,r8,r9,KW,r11,r12,KX⟩,ea,eb,em,eo,es,ev,ey,e3,e4,e5,eg,ei,ej,ek⟩:=jP KV.o;have ba:=zH (show qD p D F=(nV p D&&(nV p F&&(decide (G=a8)&&decide (H=a9)))) from by
  unfold qD;cases ha:nV p D
  .rfl
  cases hb:nV p F
  .rfl
  obtain⟨t,bo,dr,dT,-⟩:=ce.o ha;obtain⟨e7,d6,d0,d4,-⟩:=ch.o hb;unfold tyB;rw[bo,d6,dr,dT,d0,d4])
 obtain⟨db,dc,dl⟩:=dO (fun(h:nV p D=true)=>(show S=jm p D from by obtain⟨t,bo,-,-,g⟩:=ce.o h;rw[g,uB bo])) (fun(h:nV p F=true)=>(show I=jm p F from by obtain⟨t,bo,-,-,g⟩:=ch.o h;rw[g,uB bo])) (show w.heap.size+1+1<W.heap.size from ca.o);have ct:=bq.o.size;have dq:=zH (show w.heap.size+1+1<ci.heap.size from dI ca.o ct);clear J ad am ct;cases ha:nV p D
 .have HT:=zH (by rw[ba.o,ha];rfl:qD p D F=false);clear ha;exact ZR
 cases hb:nV p F
 .have HT:=zH (by rw[ba.o,ha,hb];rfl:qD p D F=false);exact ZS
 obtain⟨c7,c8⟩:=bD ha hb;by_cases a6:G=a8
 rotate_left
 .have HT:=zH (by rw[ba.o,ha,hb];simp[a6]:qD p D F=false);have br:¬(G:Int)=(a8:Int):=Rr;exact ZS
 by_cases br:H=a9
 rotate_left
 .have HT:=zH (by rw[ba.o,ha,hb];simp[br]:qD p D F=false);have e6:¬(H:Int)=(a9:Int):=Rr;clear ha hb;subst a6;exact ZR
 .have HT:=zH (by rw[ba.o,ha,hb];simp[a6,br]:qD p D F=true);clear ha hb;subst a6 br;go_wp2;have y:=mi (v0:=.int .i64 (ab:Nat)) (v1:=.slice G1 ap d1) (v2:=.slice O G d2) (v3:=.slice R H d3) (v4:=.int .i64 (ac:Nat)) (v5:=.slice T ao f1) (v6:=.slice U G f2) (v7:=.slice V H f3) (v8:=.int .i64 S.v) (v9:=.int .i64 S.h) (v10:=.slice N S.rows.length Y) (v11:=.int .i64 I.v) (v12:=.int .i64 I.h) (v13:=.slice E I.rows.length Z) KV.o;obtain⟨⟨u0,u1,u2,u3,u4,u5,u6,u7,u8,u9,u10,u11,u12,u13⟩,-⟩:=jP y;unfold vJ at u0 u1 u2 u3 u4 u5 u6 u7 u8 u9 u10 u11 u12 u13;clear y r0 r1 r2 r3 r4 r5 r6 r7 r8 r9 KW r11 r12 KX a0 a1 a2 a3 b0 b1 b2 b3 c0 c1 c2 e0 e1 e2;refine aE (v:=.tuple (fA (oB ab G1 ap d1 O G d2 R H d3 ac T ao f1 U G f2 V H f3 S N Y I E Z))) (by simp[results,results24,go_sem, *]) rfl ⟨_,by rw[HT.o],mj GC.o (b:=w.heap.size+1+1) Rr (.int .i64 (ab:Nat)) (.slice G1 ap d1) (.slice O G d2) (.slice R H d3) (.int .i64 (ac:Nat)) (.slice T ao f1) (.slice U G f2) (.slice V H f3) (.int .i64 S.v) (.int .i64 S.h) (.slice N S.rows.length Y) (.int .i64 I.v) (.int .i64 I.h) (.slice E I.rows.length Z),fun h=>?_,fun h=>by rw[HT.o]at h;cases h⟩;rw[<-db.o c7.o,<-dc.o c8.o];refine⟨ab,ap,G,H,d1,d2,d3,ac,ao,G,H,f1,f2,f3,Y,Z,G1,O,R,T,U,V,N,E,rfl,?_,?_⟩
  .exact c4.o _ fun k d5 a6=>A_ (by have:=dl.o;omega)
  .exact c5.o _ fun k d5 a6=>A_ (by have:=dq.o;omega)
theorem zfG.shape{e:Ending}(h:zfG p QL QK w e w'):∃(T ab ac ad d1 d2 d3 U V Y Z f1 f2 f3 O R:Nat) (G1 F G H I J D E:aq) (S N:Sy),e=.returned (.tuple (jy (oB T G1 ab d1 F ac d2 G ad d3 U H V f1 I Y f2 J Z f3 S D O N E R) (qD p QL QK)))/\ag w w'/\(qD p QL QK=true->S=jm p QL/\N=jm p QK/\bk w' D S.rows/\bk w' E N.rows):=by
 obtain⟨v,rfl,am,a1,a2⟩:=h;cases ao:qD p QL QK
 .rw[a2 ao];exact⟨0,0,0,0,0,0,0,0,0,0,0,0,0,0,0,0,none,none,none,none,none,none,none,none,⟨0,0,[]⟩,⟨0,0,[]⟩,rfl,am,fun h=>Ru⟩
 .obtain⟨T,ab,ac,ad,d1,d2,d3,U,V,Y,Z,f1,f2,f3,O,R,G1,F,G,H,I,J,D,E,rfl,ap,a0⟩:=a1 ao;exact⟨T,ab,ac,ad,d1,d2,d3,U,V,Y,Z,f1,f2,f3,O,R,G1,F,G,H,I,J,D,E,jm p QL,jm p QK,rfl,am,fun _=>⟨rfl,rfl,ap,a0⟩⟩
end Go.Proofs.YtpieilkmmiopfaaGreatDoor
