/- Parts of the walks. Conditions: as stated with each. -/
import Derived.Test.YtpieilkmmiopfaaGreatDoorPk4
import Derived.Test.YtpieilkmmiopfaaGreatDoorPk5
namespace Go.Proofs.YtpieilkmmiopfaaGreatDoor
open Go.RowKit Tryz
set_option linter.all false
set_option maxHeartbeats 8000000
set_option maxRecDepth 100000
variable{P:jk}{T v:aG}{args:gg}{n:Nat}{w:aa}
def zkP(p v H a b c:Int)A ε rows w a3 n bh(a5:bt w A rows)(cn:rows.length<=160)(F6:∀r∈rows,r.length<=1000)(cc:0<=a)(ce:a<rows.length)(hb:0<=b)(ci:b<rows.length)(ch:a≠b):az 96 (j_ p (aA v H A rows ε) (t_ a b c a3 n bh)) w fun e w'=>∃u,e=.returned (.agg (en v H u))/\aY w' w u ((rows.set a.toNat (rows.getD b.toNat [])).set b.toNat (rows.getD a.toNat []))/\ag w w':=by
 refine OE fun ra GZ rb Hm=>?_
 have⟨bi,bo,bp,bq⟩:=gG (SX:rows.getD a.toNat []=ra) (SW:rows.getD b.toNat []=rb) (Qu:rows.length<=1048576) (show ∀r∈rows,r.length<=1048576 from fun r hr=>Ti);go_enter func96,pY
 go_wp2_with fail
 refine(kL _ _ _ _ _ _ (a5.ext (((al _ _).alloc Qt _ |>.alloc Qt _).alloc Rs _)) bp bq).x ?_;rintro e h ⟨u,rfl,⟨us,hu⟩,ah⟩;obtain⟨gA,G,rfl,_,_,_⟩:=aY.p ⟨us,hu⟩;have⟨bd,be,bg⟩:=cD w (.cells (aA v H A rows ε) 57) (.cells (t_ a b c a3 n bh) 97) (.cells bx 57);have b6:=ah.size;simp only[dV]at b6;go_upto_region 2 with(fail)
 have⟨W2,FY⟩:=aR (h.alloc (.cells (aA v H gA rows G) 57));rw[<-FY];have am:ag h W2:=UP;have co:(W2:Nat)=h+1:=Rr;have O:=aT ah am;have m2:bA W2 h (aA v H gA rows G) 57:=TK;have ba:=dg O bd;have k1:=dg O be;have bc:=dg O bg;have Gf:bL W2 ((w:Nat)+3) (.slice gA rows G) rows us:=(hu.ext am).x Qt;have a9:∀g',gA=some ⟨g',0,none⟩->g' < (h:Nat):=fun g' e=>UB
 have ck:∀(k:Nat) (x:aG),us[k]?=some x->∀b,x.ownBlock=some b->b < (h:Nat):=fun k x hx b hb=>Vk
 have a6:ag w W2:=(ζ w _ _ _).t (O.x Rs);clear hu ah am O a5 F6 bd be bg FY;refine PI fun g GA Gy Gz=>?_
 subst GA;have cj:=a9 g rfl;obtain⟨ct,Hp,a7⟩:=Gf.F GZ;obtain⟨cu,J0,a8⟩:=Gf.F Hm;obtain⟨av,a4,rfl,_⟩:=a7.p;obtain⟨D,F,rfl,_⟩:=a8.p;refine NW fun y0 y1 y2 y3 y4 x0 x1 x2=>?_
 have b7:af W2 g a.toNat (.slice av ra a4):=UM;have ao:af W2 g b.toNat (.slice D rb F):=US;have f0:=Gf.η.g a.toNat;have f1:=Gf.η.g b.toNat;have⟨bu,bn,bv,a1,bz,a2⟩:=ny (bL.J rfl Gf Hp J0 GZ Hm) a6 ba k1 bc m2;clear Gf a6 a9 ba k1 bc m2 Hp J0 a7 a8 GZ Hm;go_upto_region 5 with(fail)
 have ap:(W2.setCell ⟨g,a.toNat,none⟩ (.slice D rb F)).cell? ⟨g,b.toNat,none⟩=some (.slice D rb F):=by rw[As _ _ _ _ Rs];exact ao
 go_region_held3 (fun W=>af W ((w:Nat)+1) 1 (zI a)/\af W ((w:Nat)+1) 2 (zI b)/\af W h 2 (.slice (bH g) rows G)/\af W g b.toNat (.slice D rb F)) (first|exact⟨y1,y2,x2,ao⟩|exact⟨(cE Rs).t y1,(cE Rs).t y2,(cE Rs).t x2,ap⟩)
  (fail)
 have⟨Z,I⟩:=aR ((W2.setCell ⟨g,a.toNat,none⟩ (.slice D rb F)).drew);rw[<-I];have ac:∀j,j≠g->Z.heap[j]?=W2.heap[j]?:=fun j ab=>by rw[I];exact a_ _ _ _ _ ab
 have b8:af Z g b.toNat (.slice D rb F):=by rw[I];exact ap
 have f4:Z.frozen? ⟨g,b.toNat,none⟩=false:=by rw[I];simpa using f1
 have U:=(ac _ Qu).t a1;have Y:=(ac _ Qu).t a2;have⟨br,a0⟩:=bJ ac I;clear y0 y1 y2 y3 y4 x0 x1 x2 b7 ao f0 f1 ap ac I;have⟨y0,y1,y2,y3,y4⟩:=fg U;have⟨x0,x1,x2⟩:=aD Y;clear U Y;go_upto_region 21 with(fail)
 have⟨ad,J⟩:=aR (Z.setCell ⟨g,b.toNat,none⟩ (.slice av ra a4));rw[<-J];have T:∀j,j≠g->ad.heap[j]?=W2.heap[j]?:=fun j ab=>by rw[J];exact(a_ _ _ _ _ ab).t (br j ab)
 have bb:=(T _ Qu).t bv;have U:=(T _ Qu).t a1;have Y:=(T _ Qu).t a2;have an:=(T _ Qu).t bz;have⟨HO,HE⟩:=bJ (by rw[J,a0.o];exact⟨_,bu.ext (al _ _).drew⟩:aY ad ((w:Nat)+3) (.slice (bH g) rows G) ((rows.set a.toNat rb).set b.toNat ra)) (by rw[J,a0.o];exact((bn.setCell Rs _).drew).setCell Rs _:ag w ad);rw[<-bi.o,<-bo.o]at HO;clear y0 y1 y2 y3 y4 x0 x1 x2 b8 f4 T J;have⟨y0,y1,y2,y3,y4⟩:=fg U;have⟨cp,cq,cr⟩:=aD bb;clear bb U;have⟨b0,b1,b2⟩:=cC Y;have⟨b3,b4,b5⟩:=cC an;have⟨b9,ca,cb⟩:=cd an;simp only[dA,dm]at b0 b1 b2 b3 b4 b5;clear Y an;go_wp2;refine aI (v:=.agg (aA v H (bH g) rows G)) TV rfl ⟨_,rfl,?_,?_⟩
 .exact Ym
 .exact X7
def zjS(p v h a b c:Int)A ε rows w ac n a0(ah:bt w A rows)(bn:rows.length<=160)(F6:∀r∈rows,r.length<=1000)(a6:1<=p)(a7:p<=1000)(bb:0<=a)(bc:a<rows.length)(a4:0<=c)(a5:c<=1000)(hx:∀r∈rows,∀x∈r,0<=x/\x<=1000):az 96 (j_ p (aA v h A rows ε) (ud a b c ac n a0)) w fun e w'=>∃u,e=.returned (.agg (en v h u))/\aY w' w u (rows.set a.toNat (kq p c (rows.getD a.toNat [])))/\ag w w':=by
 refine M_ fun ra GZ HA HX MB=>?_;clear hx
 refine Qc fun HM F_=>?_
 go_enter func96,pY
 go_wp2_with fail
 refine(kL _ _ _ _ _ _ (ah.ext (((al _ _).alloc Qt _ |>.alloc Qt _).alloc Rs _)) HM F_).x ?_;rintro e w1 ⟨u,rfl,⟨us,hu⟩,U⟩;obtain⟨gA,Ga,rfl,_,_,_⟩:=aY.p ⟨us,hu⟩;have⟨av,O,T⟩:=cD w (.cells (aA v h A rows ε) 57) (.cells (ud a b c ac n a0) 97) (.cells bx 57);have a8:=U.size;simp only[dV]at a8;go_upto_region 2 with(fail)
 have⟨W2,FY⟩:=aR (w1.alloc (.cells (aA v h gA rows Ga) 57));rw[<-FY];have Y:ag w1 W2:=UP;have bp:(W2:Nat)=w1+1:=Rr;have G:=aT U Y;have m2:bA W2 w1 (aA v h gA rows Ga) 57:=TK;have ao:=dg G av;have k1:=dg G O;have ap:=dg G T;have Gf:bL W2 ((w:Nat)+3) (.slice gA rows Ga) rows us:=(hu.ext Y).x Qt;have a9:∀g',gA=some ⟨g',0,none⟩->g' < (w1:Nat):=fun g' e=>UB
 have an:∀(k:Nat) (x:aG),us[k]?=some x->∀b,x.ownBlock=some b->b < (w1:Nat):=fun k x hx b hb=>Vk
 have am:ag w W2:=(ζ w _ _ _).t (G.x Rs);clear hu U Y G ah F6 av O T FY;obtain⟨bq,Hp,I⟩:=Gf.F GZ;refine PI fun g GA Gy Gz=>?_
 subst GA;obtain⟨H,D,rfl,ad,_⟩:=I.p;have Z:af W2 g a.toNat (.slice H ra D):=UM;refine NW fun y0 y1 y2 y3 y4 x0 x1 x2=>?_
 have⟨a2,a1,a3,J2,ba,K0,K1,K2,M2,ab,Hu⟩:=zmM Gf am Hp I ad ao k1 ap m2 (an _ _ Hp) (gF Gf.η I);clear Gf am Hp I GZ ad a9 an ao k1 ap m2;go_wp2;go_loopw [56] (fun i wr=>∃k:Nat,k<=ra.length/\i=.int .i64 k/\wr.ownsRow ((w:Nat)+3) 3 1 (.slice H ra D) ra ((ma p c ra k).map (Value.int .i64))/\W2.grownBy wr (Value.slice H ra D).ownBlock)
  (fun i _=>ra.length-(intOf i).toNat)
 case atStart=>exact⟨0,aW _,rfl,SD,⟨rfl,rfl,rfl,ae _,fun _ _ _=>rfl⟩⟩
 case round=>
  obtain⟨k,bi,rfl,FT,Io⟩:=hrel;by_cases FX:k<ra.length
  .have⟨x,hx⟩:=aq FX;obtain⟨F,rfl,bg,_⟩:=mr J2 Qu;have bh:=ab F rfl;have bo:g≠F:=WV;have t1:af wr ((w:Nat)+1) 1 (zI a):=Io.cell y1 TQ;have t3:af wr ((w:Nat)+1) 3 (zI c):=Io.cell y3 TQ;have t5:af wr w1 2 (.slice (bH g) rows Ga):=Io.cell x2 TQ;have t6:af wr g a.toNat (.slice (bH F) ra D):=Io.cell Z TQ;have bd:af wr F k (zI x):=WD;have be:=FT.g k;obtain⟨O,T⟩:=HX x (aU hx);have J:=FT.j k (zI (x*c%p));rw[<-eW,wH _ _ _ _ _ hx]at J;have⟨HS,HG⟩:=bJ J.1 (cx Io J.2);clear J hx FT Io x0 x1 x2 y0 y1 y2 y3 y4 Z;go_wp2_with fail
   go_region_held3 (fun W=>af W ((w:Nat)+1) 1 (zI a)/\af W ((w:Nat)+1) 3 (zI c)/\af W w1 2 (.slice (bH g) rows Ga)/\af W g a.toNat (.slice (bH F) ra D))
    (first|exact⟨t1,t3,t5,t6⟩|(refine⟨?_,?_,?_,?_⟩<;>(first|(refine(fu Rs).t ?_;assumption)|(refine(lQ Rs).t ?_;assumption))))
    ((go_at_call 139;refine(wO p x c _ a6 a7 O T a4 a5).x ?_;rintro e w' ⟨rfl,rfl⟩))
   exact Yj
  .have J1:∀b,(Value.slice H ra D).ownBlock=some b->(w:Nat)+3<=b/\b < (w1:Nat):=fun b hb=>⟨(bS J2 b hb).1,ab b hb⟩
   refine NZ fun IF Iu Iy Iw Il=>?_
   subst Il;have HO:=zH (show aY wr ((w:Nat)+3) (.slice (bH g) rows Ga) (rows.set a.toNat (kq p c (rows.getD a.toNat []))) from
    ⟨_,a2.K a3 Io (by rw[HA.o,<-wF p c ra ra (ae _)];unfold aE;rw[show(ma p c ra ra).length=ra by simp[ma]];exact FT)⟩)
   have HE:=zH (a1.grown Io Qu fun b hb=>Tu);clear FT Io J1 x0 x1 x2 y0 y1 y2 y3 y4 Z;exact ZG
def zkQ(p v h a b c:Int)A ε rows w ao n bc(av:bt w A rows)(cO:rows.length<=160)(F6:∀r∈rows,r.length<=1000)(b5:0<=a)(cz:a<rows.length):az 96 (j_ p (aA v h A rows ε) (ue a b c ao n bc)) w fun e w'=>∃u,e=.returned (.agg (en v h u))/\aY w' w u (rows.eraseIdx a.toNat)/\ag w w':=by
 refine Qc fun HM F_=>?_
 go_enter func96,pY
 go_wp2_with fail
 refine(kL _ _ _ _ _ _ (av.ext (((al _ _).alloc Qt _ |>.alloc Qt _).alloc Rs _)) HM F_).x ?_;rintro e D ⟨u,rfl,⟨us,hu⟩,Y⟩;obtain⟨gA,Ga,rfl,_,_,_⟩:=aY.p ⟨us,hu⟩;have⟨a7,a8,a9⟩:=cD w (.cells (aA v h A rows ε) 57) (.cells (ue a b c ao n bc) 97) (.cells bx 57);have b9:=Y.size;simp only[dV]at b9;go_upto_region 2 with(fail)
 have⟨W2,FY⟩:=aR (D.alloc (.cells (aA v h gA rows Ga) 57));rw[<-FY];have Z:ag D W2:=UP;have cR:(W2:Nat)=D+1:=Rr;have H:=aT Y Z;have ad:bA W2 D (aA v h gA rows Ga) 57:=TK;have a4:=dg H a7;have ab:=dg H a8;have a6:=dg H a9;have Gf:bL W2 ((w:Nat)+3) (.slice gA rows Ga) rows us:=(hu.ext Z).x Qt;have a3:∀g',gA=some ⟨g',0,none⟩->g' < (D:Nat):=fun g' e=>UB
 have cB:∀(k:Nat) (x:aG),us[k]?=some x->∀b,x.ownBlock=some b->b < (D:Nat):=fun k x hx b hb=>Vk
 have a1:ag w W2:=(ζ w _ _ _).t (H.x Rs);clear hu Y Z H av F6 a7 a8 a9 FY;obtain⟨j,rfl⟩:=iz b5;refine PI fun g GA Gy Gz=>?_
 subst GA;have cA:=a3 g rfl;have⟨ce,b6,c0,cc,c3⟩:=dp kX;have⟨Iq,Ip⟩:=aR (us.drop (j+1));obtain⟨J3,⟨cb,_⟩|⟨g',cp,F9,ca,ap,MT,b7,a2,J6,J4⟩⟩:=Gf.η
 .cases cb
 cases ca
 simp only[fk]at J3 J6 J4;have Gb:Iq.length=rows-(j+1):=Tg;have Gk:∀t,t<rows.length->F9.toList[t]?=us[t]?:=fun t ht=>Ts
 obtain⟨J,cu,b8⟩:∃J:dM,(if Ga=j+1 then some (⟨g,0,none⟩:dM) else some ⟨g,j+1,none⟩)=some J/\Hd (∀t u,Iq[t]?=some u->W2.drew.cell? (J.add t)=some u):=Zr;have ba:Hd (Iq.length=(rows.length-(j+1))*1):=Sm;have bb:Hd (∀u∈Iq,u.oneCell'=true):=by intro u hu;rw[Ip]at hu;exact rp Gf u (mx hu)
 have ch:Hd (∀t,t<Iq.length->(W2.drew.cell? ⟨g,0+j*1+t,none⟩).isSome=true/\W2.drew.frozen? ⟨g,0+j*1+t,none⟩=false):=Yp;have⟨F,U⟩:=aR (W2.drew.setCells g (0+j*1) Iq);have T:=dY g 26 Iq (0+j*1) W2.drew F9 MT RN;rw[<-U]at T;have G:=zH (show W2.grownBy F (some g) from cx (eG W2 (some g)) T.2);have bo:=zH (show F.ownsRow ((w:Nat)+3) 26 1 (.slice (bH g) (rows.length-1) Ga) (rows.length-1) (us.eraseIdx j) by
  refine⟨SZ,au ⟨g,Ga,_,rfl,ap,T.1,Qu,a2,?_,?_⟩⟩
  .exact WE
  .simp only[fk,jU];rw[show rows.length-1=j+Iq by omega,jJ _ _ _ QW,Ip,C_,<-J4,nt,iw Qu])
 have bq:=zH U;have cF:j<=Ga:=Qu;have cW:IntKind.i64.wrap ((j:Int)+1)=(j:Int)+1:=Rt;have cV:((j:Int)+1).toNat=j+1:=Qu;have cI:(0:Int)<=(j:Int)+1:=Qu;have cK:(j:Int)+1<=(rows:Int):=Qu;clear J3 J6 J4 MT Ip Gb U T Gk ap b7 a2;have⟨bd,be,bg,bh,bi⟩:=fg ab;have⟨ci,cj,ck⟩:=aD ad;have⟨bp,bn,br,an,bu,bv⟩:=ny Gf a1 a4 ab a6 ad;clear Gf a1 a3 a4 ab a6 ad;go_upto_region 22 with(fail)
 refine cU (S:=fun W=>af W ((w:Nat)+1) 1 (zI j)/\af W D 2 (.slice (bH g) rows Ga)) 13 QT QD (fun hHeld=>?_);refine Qj ?_;refine aM 9 ?_;refine aM 10 ?_;refine cm 11 fun K hK=>?_
 refine xf rfl (.tmp 140) (.tmp 146) 55 rfl 26 ce 1 iA b6 cc g 0 j Ga rfl J (rows.length-(j+1)) (Ga-(j+1)) Iq rfl ba.o b8.o bb.o Qu ch.o ?_;rw[<-bq.o,show j+(rows.length-(j+1))=rows.length-1 by omega];have O:F.heap[D.heap.size]?=_:=(G.block _ Qu Rs).t bv;have I:F.heap[(w:Nat)+1]?=_:=(G.block _ Qu Rs).t an;have am:=zH O;have f2:=aK O 2;have⟨cn,co,z2⟩:=aD O;have⟨t0,t1,t2,t3,t4⟩:=fg I;clear O I bd be bg bh bi ci cj ck;refine hK.out _ _ (fun _=>⟨t1,z2⟩) (fun hHeld=>?_);refine Qm ?_;clear K hK;have hHeld:=hHeld Qw;refine cm 12 fun K hK=>?_
 go_simp;refine hK.out _ _ (fun _=>⟨t1,z2⟩) (fun hHeld=>?_);refine Qm ?_;clear K hK;have hHeld:=hHeld Qw;refine cm 13 fun K hK=>?_
 go_simp;refine Qn ?_;clear K hK;refine gM QT ?_ _;have ah:=bE F D 2 _ _ (.slice (bH g) (rows.length-1) Ga) am;simp only[zA]at ah;have a5:=(eX F ⟨D,2,none⟩ w (.slice (bH g) (rows.length-1) Ga) Rs).t ((G.block _ Qu Rs).t br);have I:=(eX F ⟨D,2,none⟩ ((w:Nat)+1) (.slice (bH g) (rows.length-1) Ga) Rs).t ((G.block _ Qu Rs).t an);have ac:=(eX F ⟨D,2,none⟩ ((w:Nat)+1+1) (.slice (bH g) (rows.length-1) Ga) Rs).t ((G.block _ Qu Rs).t bu);have a0:=bp.γ Qu bo G;have⟨HO,HE⟩:=bJ (show aY _ ((w:Nat)+3) _ _ from⟨_,a0.m9 am (j:=2) (u:=.slice (bH g) (rows.length-1) Ga)⟩) ((bn.grown G Qu fun b hb=>RD).setCell (p:=⟨D,2,none⟩) Rs (.slice (bH g) (rows.length-1) Ga));clear a0 cn co z2 t0 t1 t2 t3 t4 f2;have⟨bd,be,bg,bh,bi⟩:=fg I;have⟨c4,ba,bb⟩:=aD a5;clear a5 I;have⟨bz,b0,b1⟩:=cC ah;have⟨b2,b3,b4⟩:=cC ac;have⟨cq,cr,ct⟩:=cd ac;simp only[dA,dm]at bz b0 b1 b2 b3 b4;clear ah ac;go_wp2;refine aI (v:=.agg (eO v h (bH g) (rows.length-1) Ga)) TV rfl ⟨_,rfl,?_,?_⟩
 .exact Ym
 .exact X7
def zl1(p v h a b c:Int)A ε rows w av n bd(a0:bt w A rows)(cj:rows.length<=160)(F6:∀r∈rows,r.length<=1000)(bv:0<=a)(bz:a<=rows.length)(co:0<=v)(cp:v<=1000)(ce:0<=h)(ch:h<=1000):az 96 (j_ p (aA v h A rows ε) (uf a b c av n bd)) w fun e w'=>∃u,e=.returned (.agg (en v h u))/\aY w' w u (cT rows a.toNat (List.replicate (v+h).toNat 0))/\ag w w':=by
 refine Qc fun HM F_=>?_
 go_enter func96,pY
 go_wp2_with fail
 refine(kL _ _ _ _ _ _ (a0.ext (((al _ _).alloc Qt _ |>.alloc Qt _).alloc Rs _)) HM F_).x ?_;rintro e w1 ⟨u,rfl,⟨us,hu⟩,T⟩;obtain⟨F,H,rfl,_,_,_⟩:=aY.p ⟨us,hu⟩;have⟨a9,ba,bb⟩:=cD w (.cells (aA v h A rows ε) 57) (.cells (uf a b c av n bd) 97) (.cells bx 57);have b1:=T.size;simp only[dV]at b1;go_upto_region 2 with(fail)
 have⟨D,FY⟩:=aR (w1.alloc (.cells (aA v h F rows H) 57));rw[<-FY];have U:ag w1 D:=UP;have b2:(D:Nat)=w1+1:=Rr;have I:=aT T U;have m2:bA D w1 (aA v h F rows H) 57:=TK;have ad:=dg I a9;have k1:=dg I ba;have a8:=dg I bb;have a7:bL D ((w:Nat)+3) (.slice F rows H) rows us:=(hu.ext U).x Qt;have cn:∀g',F=some ⟨g',0,none⟩->g' < (w1:Nat):=fun g' e=>UB
 have ci:∀(k:Nat) (x:aG),us[k]?=some x->∀b,x.ownBlock=some b->b < (w1:Nat):=fun k x hx b hb=>Vk
 have a2:ag w D:=(ζ w _ _ _).t (I.x Rs);clear hu T U I a0 F6 a9 ba bb FY;refine NW fun y0 y1 y2 y3 y4 x0 x1 x2=>?_
 have⟨ah,am,bc⟩:=aD ad;have cq:IntKind.i64.wrap (v+h)=v+h:=Rt;have a6:((v+h).toNat:Int)=v+h:=Qu;have ap:=zH a6;clear a6;have⟨O,be,K0,K1,K2,bi⟩:=ny a7 a2 ad k1 a8 m2;clear a7 a2 ad k1 a8 m2;go_upto_region 20 with(fail)
 have HS:=zH (show ∀ao,ag D ao->(fun W:World=>af W w1 2 (.slice F rows H)/\af W ((w:Nat)+1) 1 (zI a)/\af W w 0 (zI v)/\af W w 1 (zI h)) ao from fun ao hb=>⟨ar hb x2,ar hb y1,ar hb ah,ar hb am⟩);refine cU (S:=(fun W:World=>af W w1 2 (.slice F rows H)/\af W ((w:Nat)+1) 1 (zI a)/\af W w 0 (zI v)/\af W w 1 (zI h))) 12 QT (HS.o _ (al _ _).drew) (fun hHeld=>?_);refine Qj ?_;refine cm 9 fun K hK=>?_
 have⟨b5,b0,b3,b4,FU⟩:=dp gD;refine za3 _ rfl (.tmp 124) (.tmp 124) 26 rfl D 3 b5 (zI 0) 1 dR b0 b3 b4 .i64 .i64 (v+h) (v+h) (v+h).toNat rfl rfl ap.o.q ap.o.q RF SL Qt ?_;intro an ab a5;have a4:ag D an:=(al _ _).drew.t (cy a5);rw[jn]at ab;have ac:aE an D (.slice (some ⟨D.drew,0,none⟩) (v+h).toNat (v+h).toNat) (List.replicate (v+h).toNat 0):=by simpa[aE]using ab
 rw[show(D.drew:Nat)=w1+1 from b2]at ac;have⟨G,bh⟩:=bJ a4 ac;clear a4 ac ab a5;refine hK.out _ _ (fun _=>HS.o _ G.o) (fun hHeld=>?_);refine Mr fun hHeld=>?_;clear K hK
 refine cm 10 fun K hK=>?_
 go_simp;refine(zP ((w:Nat)+3) _ a us rows _ _ _ an (O.ext G).η (rp O) bv bz Qu).x ?_;rintro e wc ⟨v9,rfl,Z,Y⟩;obtain⟨g,Kj,rfl,cb,cc⟩:=pW Z Qu;have a3:=aJ G Y;have ck:=G.size;have a1:=O.insert G bh Qu (Qu:a.toNat<=rows.length) (zQ Z Qu) (gz Y);have⟨Jo,bg⟩:=bJ a3 a1;clear a3 a1 Z Y;refine Mz fun hHeld=>?_
 refine Mr fun hHeld=>?_;clear K hK
 refine cm 11 fun K hK=>?_
 refine Mz fun hHeld=>?_
 refine Mr fun hHeld=>?_;clear K hK
 have J:=(Jo.block w1 Qu).t bi;have HF:=zH J;have f2:=aK J 2;have⟨b6,b7,z2⟩:=aD J;clear J;refine cm 12 fun K hK=>?_
 go_simp;refine Qn ?_;clear K hK;refine Pp fun IF Iu Iy Iw=>?_
 have⟨HO,HE⟩:=bJ (show aY _ ((w:Nat)+3) _ (cT rows a.toNat (List.replicate (v+h).toNat 0)) from⟨_,bg.m9 HF (j:=2) (u:=.slice (bH g) (rows.length+1) Kj)⟩) ((aJ be Jo).setCell (p:=⟨w1,2,none⟩) Rs (.slice (bH g) (rows.length+1) Kj));clear b6 b7 z2 y0 y1 y2 y3 y4 x0 x1 x2 ah am bc f2;have⟨y0,y1,y2,y3,y4⟩:=fg Iy;have⟨ah,am,bc⟩:=aD Iu;clear Iu Iy;have⟨bn,bo,bp⟩:=cC IF;have⟨bq,br,bu⟩:=cC Iw;have⟨b8,b9,ca⟩:=cd Iw;simp only[dA,dm]at bn bo bp bq br bu;clear IF Iw;go_wp2;refine aI (v:=.agg (eO v h (bH g) (rows.length+1) Kj)) TV rfl ⟨_,rfl,?_,?_⟩
 .exact Ym
 .exact X7
def zcT W B g ε j(xs:aL)(I:aE W B (.slice (bH g) xs ε) xs)(ad:j<xs.length):∃(D:dM) (h:cL) (H:aa),Hd (H=W.setCells g (0+j*1) h)/\(if ε=j+1 then some (⟨g,0,none⟩:dM) else some ⟨g,j+1,none⟩)=some D/\Hd (∀t u,h[t]?=some u->W.cell? (D.add t)=some u)/\Hd (h.length=(xs.length-(j+1))*1)/\Hd (∀u∈h,u.oneCell'=true)/\Hd (∀t,t<h.length->(W.cell? ⟨g,0+j*1+t,none⟩).isSome=true/\W.frozen? ⟨g,0+j*1+t,none⟩=false)/\Hd (W.grownBy H (some g))/\Hd (aE H B (.slice (bH g) (xs.length-1) ε) (xs.eraseIdx j))/\xs.length<=ε:=by
 have⟨us,J⟩:=aR (xs.map (Value.int .i64));have h1:∀u∈us,u.oneCell'=true:=by rw[J];intro u hu;simp at hu;obtain⟨x,_,rfl⟩:=hu;rfl
 unfold aE at I;rw[<-J]at I;have⟨h,Ip⟩:=aR (us.drop (j+1));obtain⟨J3,⟨an,_⟩|⟨ap,ao,O,am,Z,F,ah,ac,J6,J4⟩⟩:=I
 .cases an
 cases am
 simp only[fk]at J3 J6 J4;have Gb:h.length=xs-(j+1):=Tg;have ab:∀t,t<xs.length->O.toList[t]?=us[t]?:=fun t ht=>Ts
 have G:∀t u,h[t]?=some u->t<xs.length-(j+1):=fun t u hu=>by have:=(bG.1 hu).1;rwa[Gb]at this
 obtain⟨D,Y,G⟩:∃D:dM,(if ε=j+1 then some (⟨g,0,none⟩:dM) else some ⟨g,j+1,none⟩)=some D/\(∀t u,h[t]?=some u->W.cell? (D.add t)=some u):=by
  by_cases U:ε=j+1
  .refine⟨⟨g,0,none⟩,by simp[U],fun t u hu=>?_⟩;have:=G t u hu;omega
  .refine⟨⟨g,j+1,none⟩,by simp[U],fun t u hu=>?_⟩;have ht:=G t u hu;rw[dF];rw[bB F,ab _ Qu,<-hu,Ip,fQ]
 have T:=dY g 3 h (0+j*1) W O F RN;refine⟨D,h,_,zH rfl,Y,zH G,zH Sm,zH ?_,zH ?_,zH T.2,zH ?_,ah⟩
 .exact Wn
 .intro t ht;rw[Gb]at ht;refine⟨?_,aK F _⟩;rw[bB F,di QW];rfl
 .unfold aE;rw[<-Be,<-J,Ay ad];refine⟨SZ,au ⟨g,ε,_,rfl,Z,T.1,Qu,ac,?_,?_⟩⟩
  .exact WE
  .simp only[fk,jU];rw[show xs.length-1=j+h by omega,jJ _ _ _ QW,Ip,C_,<-J4,nt,iw Qu]
def ziO(p v h a b c:Int)A ε rows w a5 n bv(a9:bt w A rows)(c5:rows.length<=160)(F6:∀r∈rows,r.length<=1000)(cb:0<=a)(cB:a<rows.length)(db:0<=v)(dc:v<=1000)(hb:0<=b)(cF:b<=1000)(cV:1<=h)(cW:h<=1000)(Gb:∀r∈rows,v+b<r.length):az 96 (j_ p (aA v h A rows ε) (tY a b c a5 n bv)) w fun e w'=>∃u,e=.returned (.agg (en v (h-1) u))/\aY w' w u ((rows.map (fun r=>r.eraseIdx (v+b).toNat)).eraseIdx a.toNat)/\ag w w':=by
 have⟨q,c6⟩:=iz (Qu:0<=v+b);have ch:(v+b).toNat=q:=Qu;rw[ch];have ah:=zH (show ∀r∈rows.eraseIdx a.toNat,(q:Int)<r.length/\r.length<=1000 from fun r hr=>⟨by have:=Gb r (AA hr);omega,F6 r (AA hr)⟩);clear Gb;have dr:IntKind.i64.wrap (v+b)=(q:Int):=Rt;have dl:IntKind.i64.wrap (h-1)=h-1:=Rt;refine Qc fun HM F_=>?_
 go_enter func96,pY
 go_wp2_with fail
 refine(kL _ _ _ _ _ _ (a9.ext (((al _ _).alloc Qt _ |>.alloc Qt _).alloc Rs _)) HM F_).x ?_;rintro e w1 ⟨u,rfl,⟨us,hu⟩,ao⟩;obtain⟨gA,Ga,rfl,_,_,_⟩:=aY.p ⟨us,hu⟩;have⟨bo,bp,bq⟩:=cD w (.cells (aA v h A rows ε) 57) (.cells (tY a b c a5 n bv) 97) (.cells bx 57);have ci:=ao.size;simp only[dV]at ci;go_upto_region 2 with(fail)
 have⟨W2,FY⟩:=aR (w1.alloc (.cells (aA v h gA rows Ga) 57));rw[<-FY];have ap:ag w1 W2:=UP;have c7:(W2:Nat)=w1+1:=Rr;have J:=aT ao ap;have m2:bA W2 w1 (aA v h gA rows Ga) 57:=TK;have H:=dg J bo;have k1:=dg J bp;have U:=dg J bq;have Gf:bL W2 ((w:Nat)+3) (.slice gA rows Ga) rows us:=(hu.ext ap).x Qt;have be:∀g',gA=some ⟨g',0,none⟩->g' < (w1:Nat):=fun g' e=>UB
 have c0:∀(k:Nat) (x:aG),us[k]?=some x->∀b,x.ownBlock=some b->b < (w1:Nat):=fun k x hx b hb=>Vk
 have ba:ag w W2:=(ζ w _ _ _).t (J.x Rs);clear hu ao ap J a9 F6 bo bp bq FY;obtain⟨j,rfl⟩:=iz cb;refine PI fun g GA Gy Gz=>?_
 subst GA;have cR:=be g rfl;have⟨i0,Hw,IA,G4,FU⟩:=dp kX;have⟨Iq,Ip⟩:=aR (us.drop (j+1));obtain⟨J3,⟨ck,_⟩|⟨g',ct,F9,cj,a8,MT,ce,bb,J6,J4⟩⟩:=Gf.η
 .cases ck
 cases cj
 simp only[fk]at J3 J6 J4;have Gb:Iq.length=rows-(j+1):=Tg;have Gk:∀t,t<rows.length->F9.toList[t]?=us[t]?:=fun t ht=>Ts
 obtain⟨A9,hA,I6⟩:∃A9:dM,(if Ga=j+1 then some (⟨g,0,none⟩:dM) else some ⟨g,j+1,none⟩)=some A9/\Hd (∀t u,Iq[t]?=some u->W2.drew.cell? (A9.add t)=some u):=Zr;have s1:Hd (Iq.length=(rows.length-(j+1))*1):=Sm;have s2:Hd (∀u∈Iq,u.oneCell'=true):=by intro u hu;rw[Ip]at hu;exact rp Gf u (mx hu)
 have s3:Hd (∀t,t<Iq.length->(W2.drew.cell? ⟨g,0+j*1+t,none⟩).isSome=true/\W2.drew.frozen? ⟨g,0+j*1+t,none⟩=false):=Yp;have⟨W5,an⟩:=aR (W2.drew.setCells g (0+j*1) Iq);have ab:=dY g 26 Iq (0+j*1) W2.drew F9 MT RN;rw[<-an]at ab;have Hz:=zH (show W2.grownBy W5 (some g) from cx (eG W2 (some g)) ab.2);have a4:=zH (show W5.ownsRow ((w:Nat)+3) 26 1 (.slice (bH g) (rows.length-1) Ga) (rows.length-1) (us.eraseIdx j) by
  refine⟨SZ,au ⟨g,Ga,_,rfl,a8,ab.1,Qu,bb,?_,?_⟩⟩
  .exact WE
  .simp only[fk,jU];rw[show rows.length-1=j+Iq by omega,jJ _ _ _ QW,Ip,C_,<-J4,nt,iw Qu])
 have IK:=zH an;have c3:j<=Ga:=Qu;have dq:IntKind.i64.wrap ((j:Int)+1)=(j:Int)+1:=Rt;have Hv:((j:Int)+1).toNat=j+1:=Qu;have Na:(0:Int)<=(j:Int)+1:=Qu;have M8:(j:Int)+1<=(rows:Int):=Qu;clear J3 J6 J4 MT Ip Gb an ab Gk a8 ce bb;have⟨y0,y1,y2,y3,y4⟩:=fg k1;have⟨x0,x1,x2⟩:=aD m2;have⟨HU,HB,K0,K1,K2,M2⟩:=ny Gf ba H k1 U m2;clear Gf ba be H k1 U m2;go_upto_region 22 with(fail)
 refine cU (S:=fun W=>af W ((w:Nat)+1) 1 (zI j)/\af W w1 2 (.slice (bH g) rows Ga)) 13 QT QD (fun hHeld=>?_);refine Qj ?_;refine aM 9 ?_;refine aM 10 ?_;refine cm 11 fun K hK=>?_
 refine xf rfl (.tmp 140) (.tmp 146) 55 rfl 26 i0 1 iA Hw G4 g 0 j Ga rfl A9 (rows.length-(j+1)) (Ga-(j+1)) Iq rfl s1.o I6.o s2.o Qu s3.o ?_;rw[<-IK.o,show j+(rows.length-(j+1))=rows.length-1 by omega];have Y:W5.heap[w1.heap.size]?=_:=(Hz.block _ Qu Rs).t M2;have T:W5.heap[(w:Nat)+1]?=_:=(Hz.block _ Qu Rs).t K1;have ad:=zH Y;have f2:=aK Y 2;have⟨I,cp,z2⟩:=aD Y;have⟨t0,t1,t2,t3,t4⟩:=fg T;clear Y T y0 y1 y2 y3 y4 x0 x1 x2;refine hK.out _ _ (fun _=>⟨t1,z2⟩) (fun hHeld=>?_);refine Qm ?_;clear K hK;have hHeld:=hHeld Qw;refine cm 12 fun K hK=>?_
 go_simp;refine hK.out _ _ (fun _=>⟨t1,z2⟩) (fun hHeld=>?_);refine Qm ?_;clear K hK;have hHeld:=hHeld Qw;refine cm 13 fun K hK=>?_
 go_simp;refine Qn ?_;clear K hK;refine gM QT ?_ _;clear I cp z2 t0 t1 t2 t3 t4 f2 s1 s2 s3 hA I6;have⟨D,O⟩:=aR (rows.eraseIdx j);have a1:rows.length-1=D:=by rw[O,Ay Qu]
 have Z:=HU.γ Qu a4 Hz;rw[<-O,a1]at Z;simp only[Da]at ah ⊢;rw[a1];rw[<-O]at ah;have b3:=zH O;clear O;have⟨G,F⟩:=aR (W5.setCell ⟨w1,2,none⟩ (.slice (bH g) D Ga));rw[<-F];have⟨co,bh⟩:=aR (us.eraseIdx j);rw[<-bh]at Z;have a2:=Z.m9 ad (j:=2) (u:=.slice (bH g) D Ga);rw[<-F]at a2;have m2:=bE W5 w1 2 _ _ (.slice (bH g) D Ga) ad;simp only[zA]at m2;rw[<-F]at m2;have ac:∀j,j≠w1.heap.size->G.heap[j]?=W5.heap[j]?:=fun j hj=>by rw[F];exact a_ _ _ _ _ hj
 have H:=(ac w Qu).t ((Hz.block _ Qu Rs).t K0);have k1:=(ac ((w:Nat)+1) Qu).t ((Hz.block _ Qu Rs).t K1);have U:=(ac ((w:Nat)+1+1) Qu).t ((Hz.block _ Qu Rs).t K2);have av:=(HB.grown Hz Qu fun b hb=>RD).setCell (p:=⟨w1,2,none⟩) Rs (.slice (bH g) D Ga);rw[<-F]at av;have c9:(w1:Nat)<G:=by have:=Hz.size;rw[F];simp;omega
 clear HU HB K0 K1 K2 M2 ad a4 Hz ac Z F bh;refine NW fun y0 y1 y2 y3 y4 x0 x1 x2=>?_
 have⟨br,s1,s2⟩:=aD H;have f1:=aK m2 1;have⟨HU,HB,K0,K1,K2,M2⟩:=ny a2 av H k1 U m2;clear a2 av H k1 U m2;go_upto_region 26 with(fail)
 have⟨am,Ir⟩:=aR (G.setCell ⟨w1,1,none⟩ (zI (h-1)));rw[<-Ir];have ME:=bE G w1 1 _ _ (zI (h-1)) M2;simp only[zA]at ME;rw[<-Ir]at ME;have MH:∀j,j≠w1.heap.size->am.heap[j]?=G.heap[j]?:=fun j hj=>TW
 refine NO fun M6 MR MP MJ MV MN=>?_
 have c8:(am:Nat)=G:=by rw[Ir];simp
 have⟨Is,b2⟩:=bJ MV MN;have⟨cn,bg⟩:=aR co;rw[<-bg]at Is;clear ME MH MV MN Ir bg;clear y0 y1 y2 y3 y4 x0 x1 x2 br s1 s2 f1;obtain⟨gA,a0⟩:∃gA:ax,gA=some ⟨g,0,none⟩:=⟨_,rfl⟩;rw[<-a0]at Is M6;simp only[<-a0];clear a0;have⟨y0,y1,y2,y3,y4⟩:=fg MP;have⟨x0,x1,x2⟩:=aD M6;go_wp2;go_loopw [169] (fun i wr=>∃k:Nat,k<=D.length/\i=.int .i64 k/\(∃bu,bL wr ((w:Nat)+3) (.slice gA D Ga) (lE (fun r=>r.eraseIdx q) D k) bu)/\
   bA wr w1 (aA v (h-1) gA D Ga) 57/\Below ((w:Nat)+3) am wr)
  (fun i _=>D.length-(intOf i).toNat)
 case atStart=>exact⟨0,aW _,rfl,⟨cn,SB⟩,M6,al _ _⟩
 case round=>
  obtain⟨k,hk,rfl,⟨bu,FT⟩,Hh,Gd⟩:=hrel;clear y0 y1 y2 y3 y4 x0 x1 x2;by_cases bc:k<D.length
  .have⟨r,hr⟩:=aq bc;have bd:(lE (fun r=>r.eraseIdx q) D k)[k]?=some r:=(qj _ _ _ bc).t hr;obtain⟨dO,Hc,J5⟩:=FT.F bd;obtain⟨a1,c4⟩:=ah r (aU hr);obtain⟨cq,cr,rfl,_⟩:=J5.p;obtain⟨gr,rfl,cK,cO⟩:=mr J5 Qu;obtain⟨g,rfl,Ic,cI⟩:=mh FT Tf;have He:=FT.η;rw[eJ _ _ _ hk]at He;have I:af wr g k (.slice (bH gr) r cr):=Ub;have y2:af wr w1 2 (.slice (bH g) D Ga):=bB Hh 2;refine ON fun F0 Nb f0 M7 HO HW Hf IC H_ i0 Hw IA G4 FU A9 Iq W5 IK hA I6 s1 s2 s3 Hz MS Nc MC Hv M9 Na M8=>?_;clear Gd hr bd Hc J5 FT Hh He
   have bz:af W5 w1 2 (.slice (bH g) D Ga):=Hz.cell (w:=wr.drew) y2 Rs;have b0:af W5 g k (.slice (bH gr) r cr):=Hz.cell (w:=wr.drew) I Rs;have a7:W5.frozen? ⟨g,k,none⟩=false:=frz (w:=wr.drew) Hz f0 I M7;have⟨b4,b1,a6⟩:=er b0 a7 bz;clear b0 a7 bz;go_wp2_with fail
   refine cU (S:=fun W=>af W w1 2 (.slice (bH g) D Ga)) 12 QT y2 (fun hHeld=>?_);refine Qj ?_;refine aM 9 ?_;refine cm 10 fun K hK=>?_
   refine xf rfl (.tmp 179) (.tmp 183) 26 rfl 3 i0 1 dR Hw G4 gr 0 q cr rfl A9 (r.length-(q+1)) (cr-(q+1)) Iq rfl s1.o I6.o s2.o Qu s3.o ?_;rw[<-IK.o,show q+(r.length-(q+1))=r.length-1 by omega];refine hK.out _ _ (fun _=>a6.o) (fun hHeld=>?_);clear hK K I f0 y2;have I:=b4.o;have f0:=b1.o;refine P9 ?_;have hHeld:=hHeld Qw;refine cm 11 fun K hK=>?_
   go_simp;refine hK.out _ _ (fun _=>a6.o) (fun hHeld=>?_);refine Mr fun hHeld=>?_;clear K hK
   refine cm 12 fun K hK=>?_
   go_simp;refine Qn ?_;clear K hK;refine gM QT ?_ _;have MX:=cx (eG wr (some gr)) Hz;have MD:aE W5 ((w:Nat)+3) (.slice (bH gr) (r.length-1) cr) (r.eraseIdx q):=MS.o;have IE:=HO.put (eJ _ _ _ hk).q IC MX MD (fun b hb=>ay hb);rw[jI (fun r=>r.eraseIdx q) D k r H_]at IE;exact ZD
  .have cc:k=D.length:=Qu;subst cc;rw[qi _ _ _ (ae _)]at FT;have bn:=Hh;have bi:=(Gd.block _ Qu).t MR;have T:=(Gd.block _ Qu).t MP;have a3:=(Gd.block _ Qu).t MJ;have⟨HO,HE⟩:=bJ (by(rw[Be,<-b3.o]);exact⟨_,FT⟩:aY wr ((w:Nat)+3) (.slice gA D Ga) ((rows.map (fun r=>r.eraseIdx q)).eraseIdx j)) (b2.t (Gd.x Qu));clear FT Gd Hh;have⟨y0,y1,y2,y3,y4⟩:=fg T;have⟨br,s1,s2⟩:=aD bi;clear bi T;have⟨b5,b6,b7⟩:=cC bn;have⟨b8,b9,ca⟩:=cC a3;have⟨cu,cz,cA⟩:=cd a3;simp only[dA,dm]at b5 b6 b7 b8 b9 ca;clear bn a3;go_wp2;refine aI (v:=.agg (aA v (h-1) gA D Ga)) TV rfl ⟨_,rfl,?_,?_⟩
   .exact Ym
   .exact X7
def zgU(p v h a b c:Int)A ε rows w Y n a7(ac:bt w A rows)(cc:rows.length<=160)(F6:∀r∈rows,r.length<=1000)(cj:0<=v)(ck:v<=1000)(hb:0<=b)(b2:b<=1000)(b7:1<=h)(b8:h<=1000)(Gb:∀r∈rows,v+b<r.length):az 96 (j_ p (aA v h A rows ε) (tZ a b c Y n a7)) w fun e w'=>∃u,e=.returned (.agg (en v (h-1) u))/\aY w' w u (rows.map (fun r=>r.eraseIdx (v+b).toNat))/\ag w w':=by
 have⟨q,ce⟩:=iz (Qu:0<=v+b);have bq:(v+b).toNat=q:=Qu;rw[bq];have bc:=zH (show ∀r∈rows,(q:Int)<r.length/\r.length<=1000 from fun r hr=>⟨Tr,F6 r hr⟩);clear Gb;have co:IntKind.i64.wrap (v+b)=(q:Int):=Rt;have cn:IntKind.i64.wrap (h-1)=h-1:=Rt;refine Qc fun HM F_=>?_
 go_enter func96,pY
 go_wp2_with fail
 refine(kL _ _ _ _ _ _ (ac.ext (((al _ _).alloc Qt _ |>.alloc Qt _).alloc Rs _)) HM F_).x ?_;rintro e w1 ⟨u,rfl,⟨us,hu⟩,J⟩;obtain⟨F,Ga,rfl,_,_,_⟩:=aY.p ⟨us,hu⟩;have⟨a2,a3,a4⟩:=cD w (.cells (aA v h A rows ε) 57) (.cells (tZ a b c Y n a7) 97) (.cells bx 57);have br:=J.size;simp only[dV]at br;go_upto_region 2 with(fail)
 have⟨D,FY⟩:=aR (w1.alloc (.cells (aA v h F rows Ga) 57));rw[<-FY];have O:ag w1 D:=UP;have Jp:(D:Nat)=w1+1:=Rr;have G:=aT J O;have m2:bA D w1 (aA v h F rows Ga) 57:=TK;have T:=dg G a2;have k1:=dg G a3;have a0:=dg G a4;have an:bL D ((w:Nat)+3) (.slice F rows Ga) rows us:=(hu.ext O).x Qt;have ci:∀g',F=some ⟨g',0,none⟩->g' < (w1:Nat):=fun g' e=>UB
 have b9:∀(k:Nat) (x:aG),us[k]?=some x->∀b,x.ownBlock=some b->b < (w1:Nat):=fun k x hx b hb=>Vk
 have ad:ag w D:=(ζ w _ _ _).t (G.x Rs);clear hu J O G ac F6 a2 a3 a4 FY;refine NW fun y0 y1 y2 y3 y4 x0 x1 x2=>?_
 have⟨a5,s1,s2⟩:=aD T;have f1:=aK m2 1;have⟨HU,HB,K0,K1,K2,M2⟩:=ny an ad T k1 a0 m2;clear an ad T k1 a0 m2;go_upto_region 26 with(fail)
 have⟨I,Ir⟩:=aR (D.setCell ⟨w1,1,none⟩ (zI (h-1)));rw[<-Ir];have ME:=bE D w1 1 _ _ (zI (h-1)) M2;simp only[zA]at ME;rw[<-Ir]at ME;have MH:∀j,j≠w1.heap.size->I.heap[j]?=D.heap[j]?:=fun j hj=>TW
 refine NO fun M6 MR MP MJ MV MN=>?_
 have ch:(I:Nat)=w1+1:=TJ;have⟨Is,bb⟩:=bJ MV MN;have⟨bu,ao⟩:=aR us;rw[<-ao]at Is;clear ME MH MV MN Ir ao;clear y0 y1 y2 y3 y4 x0 x1 x2 a5 s1 s2 f1;have⟨y0,y1,y2,y3,y4⟩:=fg MP;have⟨x0,x1,x2⟩:=aD M6;go_wp2;go_loopw [169] (fun i wr=>∃k:Nat,k<=rows.length/\i=.int .i64 k/\(∃a6,bL wr ((w:Nat)+3) (.slice F rows Ga) (lE (fun r=>r.eraseIdx q) rows k) a6)/\
   bA wr w1 (aA v (h-1) F rows Ga) 57/\Below ((w:Nat)+3) I wr)
  (fun i _=>rows.length-(intOf i).toNat)
 case atStart=>exact⟨0,aW _,rfl,⟨bu,SB⟩,M6,al _ _⟩
 case round=>
  obtain⟨k,hk,rfl,⟨a6,FT⟩,Hh,Gd⟩:=hrel;clear y0 y1 y2 y3 y4 x0 x1 x2;by_cases ah:k<rows.length
  .have⟨r,hr⟩:=aq ah;have am:(lE (fun r=>r.eraseIdx q) rows k)[k]?=some r:=(qj _ _ _ ah).t hr;obtain⟨cp,Hc,J5⟩:=FT.F am;obtain⟨ca,cb⟩:=bc r (aU hr);obtain⟨bv,cr,rfl,_⟩:=J5.p;obtain⟨gr,rfl,b5,b6⟩:=mr J5 Qu;obtain⟨g,rfl,b3,b4⟩:=mh FT Tf;have He:=FT.η;rw[eJ _ _ _ hk]at He;have H:af wr g k (.slice (bH gr) r cr):=Ub;refine Mh fun y2=>?_
   refine ON fun F0 Nb f0 M7 HO HW Hf IC H_ i0 Hw IA G4 FU A9 Iq W5 IK hA I6 s1 s2 s3 Hz MS Nc MC Hv M9 Na M8=>?_;clear Gd hr am Hc J5 FT Hh He
   have a8:af W5 w1 2 (.slice (bH g) rows Ga):=Hz.cell (w:=wr.drew) y2 Rs;have a9:af W5 g k (.slice (bH gr) r cr):=Hz.cell (w:=wr.drew) H Rs;have ab:W5.frozen? ⟨g,k,none⟩=false:=frz (w:=wr.drew) Hz f0 H M7;have⟨bd,ba,Z⟩:=er a9 ab a8;clear a9 ab a8;go_wp2_with fail
   refine cU (S:=fun W=>af W w1 2 (.slice (bH g) rows Ga)) 12 QT y2 (fun hHeld=>?_);refine Qj ?_;refine aM 9 ?_;refine cm 10 fun K hK=>?_
   refine xf rfl (.tmp 179) (.tmp 183) 26 rfl 3 i0 1 dR Hw G4 gr 0 q cr rfl A9 (r.length-(q+1)) (cr-(q+1)) Iq rfl s1.o I6.o s2.o Qu s3.o ?_;rw[<-IK.o,show q+(r.length-(q+1))=r.length-1 by omega];refine hK.out _ _ (fun _=>Z.o) (fun hHeld=>?_);clear hK K H f0 y2;have H:=bd.o;have f0:=ba.o;refine P9 ?_;have hHeld:=hHeld Qw;refine cm 11 fun K hK=>?_
   go_simp;refine hK.out _ _ (fun _=>Z.o) (fun hHeld=>?_);refine Mr fun hHeld=>?_;clear K hK
   refine cm 12 fun K hK=>?_
   go_simp;refine Qn ?_;clear K hK;refine gM QT ?_ _;have MX:=cx (eG wr (some gr)) Hz;have MD:aE W5 ((w:Nat)+3) (.slice (bH gr) (r.length-1) cr) (r.eraseIdx q):=MS.o;have IE:=HO.put (eJ _ _ _ hk).q IC MX MD (fun b hb=>ay hb);rw[jI (fun r=>r.eraseIdx q) rows k r H_]at IE;exact ZD
  .have bp:k=rows.length:=Qu;subst bp;rw[qi _ _ _ (ae _)]at FT;have a1:=Hh;have ap:=(Gd.block _ Qu).t MR;have av:=(Gd.block _ Qu).t MP;have U:=(Gd.block _ Qu).t MJ;have⟨HO,HE⟩:=bJ (by skip;exact⟨_,FT⟩:aY wr ((w:Nat)+3) (.slice F rows Ga) (rows.map (fun r=>r.eraseIdx q))) (bb.t (Gd.x Qu));clear FT Gd Hh;have⟨y0,y1,y2,y3,y4⟩:=fg av;have⟨a5,s1,s2⟩:=aD ap;clear ap av;have⟨be,bg,bh⟩:=cC a1;have⟨bi,bn,bo⟩:=cC U;have⟨bz,b0,b1⟩:=cd U;simp only[dA,dm]at be bg bh bi bn bo;clear a1 U;go_wp2;refine aI (v:=.agg (aA v (h-1) F rows Ga)) TV rfl ⟨_,rfl,?_,?_⟩
   .exact Ym
   .exact X7
def xL(n:Nat):((n:Int)==0)=(n==0):=Q7
def dB k a b c A n ε w(T:n<=1048576):az 136 (cY (rJ k a b c A n ε)) w (dt w (pB k a b c n)):=by
 by_cases F:k=1
 .subst F;exact XX
 by_cases h2:k=2
 .subst h2;exact XX
 by_cases h3:k=3
 .subst h3;exact XX
 by_cases h4:k=4
 .subst h4;exact XX
 by_cases h5:k=5
 .subst h5;exact XX
 by_cases G:k=6
 .subst G;exact XX
 by_cases h7:k=7
 .subst h7;exact XX
 by_cases h:k=8
 .subst h;exact XX
 by_cases D:k=9
 .subst D;exact XX
 have I:(k==2)=false:=Rk;have J:(k==3)=false:=Ri;have O:(k==7)=false:=Rm;have Z:(k !=8)=true:=by simpa using h
 have ab:(k !=9)=true:=by simpa using D
 have n2:(k !=2)=true:=Rk;have U:(k !=4)=true:=Rh;have Y:(k !=5)=true:=Rg;have H:=zH (aQ h2 (aQ h3 (aQ h7 (aQ h (aQ D (aQ h4 h5))))));clear F h2 h3 h4 h5 G h7 h D;go_enter oK,oL
 go_wp2
 all_goals
  go_ret
  obtain⟨h2,h3,h7,h,D,h4,h5⟩:=H.o;exact⟨aN (by simp[pB,xL, *]),(al _ _).alloc (ae _) _⟩
def bX{f}(h:Calls P f args (w.drewN n) fun e w'=>e=.returned v/\w.drewN n=w'):Calls P f args (w.drewN n) fun e G=>e=.returned v/\∃m,G=w.drewN m:=h.x fun _ _ ⟨D,F⟩=>⟨D,n,F.q⟩
def cX{f}{a}(h:Calls P f args (w.drewN (a+n)) fun e w'=>e=.returned v/\w.drewN (a+n)=w'):Calls P f args (w.drewN (a+n)) fun e G=>e=.returned v/\∃m,G=w.drewN (a+m):=h.x fun _ _ ⟨D,F⟩=>⟨D,n,F.q⟩
def fe{h}{D F G H I J O}{t1 t2}(ap:Below (((w.alloc (.cells #[T,D,F] t1)).alloc (.cells #[G,H,I,J,O] t2)).drewN n) (((w.alloc (.cells #[T,D,F] t1)).alloc (.cells #[G,H,I,J,O] t2)).drewN n) h):ag w h/\(af h w 0 T/\af h w 1 D/\af h w 2 F)/\(af h ((w:Nat)+1) 0 G/\af h ((w:Nat)+1) 1 H/\af h ((w:Nat)+1) 2 I/\af h ((w:Nat)+1) 3 J/\af h ((w:Nat)+1) 4 O):=by have ao:=rD ((w.alloc (.cells #[T,D,F] t1)).alloc (.cells #[G,H,I,J,O] t2)) n;have U:=aT ao ap;have av:((w.alloc (.cells #[T,D,F] t1)).alloc (.cells #[G,H,I,J,O] t2)).heap[w.heap.size]?=some (.cells #[T,D,F] t1 (0,0)):=(bO _ _ Qt).t (aH _ _ rfl);have a0:((w.alloc (.cells #[T,D,F] t1)).alloc (.cells #[G,H,I,J,O] t2)).heap[(w:Nat)+1]?=some (.cells #[G,H,I,J,O] t2 (0,0)):=aH _ _ Qt;have⟨Y,Z,ab,_⟩:=zkC U av;have⟨⟨ac,ad,ah,am,an⟩,_⟩:=zkD U a0;exact⟨(((al w w).alloc Qt _).alloc Qt _).t (U.x Rs),⟨Y,Z,ab⟩,⟨ac,ad,ah,am,an⟩⟩
def jb(n:Nat):decide ((n:Int)<160)=decide (n<160):=by rw[jQ];simp;omega
def zfn(p v h a b c:Int)A ε rows w D row I(G:bt w A rows)(H:aO w D row)(F:row.length<=1048576)(s:Δ p v h rows):az 95 #[p,.agg (aA v h A rows ε),.agg #[.int .i64 1,a,b,c,.slice D row I]] w (dt w (nR p v h rows 1 a b c row)):=by
 have T:=s.n;have J:=s.h0;have O:=s.χ;have Gt:=zH F;clear s G H F;cases he:pB 1 a b c row with
 |false=>
  exact ZE
 |true=>
  exact ZF
def zdP(p v h a b c:Int)A ε rows w D row I(G:bt w A rows)(H:aO w D row)(F:row.length<=1048576)(s:Δ p v h rows):az 95 #[p,.agg (aA v h A rows ε),.agg #[.int .i64 2,a,b,c,.slice D row I]] w (dt w (nR p v h rows 2 a b c row)):=by
 have T:=s.n;have U:=s.p2;have Y:=s.p97;have J:=s.h0;have O:=s.χ;have Gt:=zH F;clear s G H F;cases he:pB 2 a b c row with
 |false=>
  exact ZE
 |true=>
  exact ZF
def zhR(p v h a b c:Int)A ε rows w D row I(G:bt w A rows)(H:aO w D row)(F:row.length<=1048576)(s:Δ p v h rows):az 95 #[p,.agg (aA v h A rows ε),.agg #[.int .i64 3,a,b,c,.slice D row I]] w (dt w (nR p v h rows 3 a b c row)):=by
 have T:=s.n;have U:=s.p2;have Y:=s.p97;have J:=s.h0;have O:=s.χ;have Gt:=zH F;clear s G H F;cases he:pB 3 a b c row with
 |false=>
  exact ZE
 |true=>
  exact ZF
def zfo(p v h a b c:Int)A ε rows w D row ah(F:bt w A rows)(ad:aO w D row)(J:row.length<=1048576)(s:Δ p v h rows):az 95 #[p,.agg (aA v h A rows ε),.agg #[.int .i64 4,a,b,c,.slice D row ah]] w (dt w (nR p v h rows 4 a b c row)):=by
 have a3:=s.n;have a4:=s.v0;have a5:=s.Â;have a1:=s.h0;have a2:=s.χ;have⟨S,ab,Gt⟩:=er s F J;clear s F ad J;cases he:pB 4 a b c row with
 |false=>
  exact ZE
 |true=>
  have HE:=zH he;clear he;cases ac:eU a 0 ((rows:Int)-1)
  .skip
   exact ZB
  .obtain⟨an,ao⟩:=dx.1 ac;have⟨r,hr⟩:=aq (Qu:a.toNat<rows.length);obtain⟨ap,o,rfl,G⟩:=ab.θ (Qu:a.toNat<rows.length);obtain⟨am,av,H,I⟩:=G _ r hr;have⟨T,Z,O,Y⟩:=gG (Ss:rows.getD a.toNat []=r) (show r.length<=maxLen by have:=S.o.ι r (aU hr);unfold maxLen;omega) H I;clear G H I hr;go_enter gq,gx
   go_wp2;go_quiet ((go_at_call 92;exact bX (aX _ _ _ _)))
   go_wp2;go_quiet ((go_at_call 92;first|exact bX (aX _ _ _ _)|exact cX (aX _ _ _ _)))
   go_wp2_with (first|(go_at_call 92;refine(aX _ _ _ _).x ?_;rintro e w' ⟨rfl,rfl⟩)|(go_at_call 136;refine(Calls.bl (dB _ _ _ _ _ _ _ _ Gt.o) HE).x ?_;rintro e w1 ⟨rfl,FR⟩;have⟨Gd,⟨c0,c1,c2⟩,⟨d0,d1,d2,d3,d4⟩⟩:=fe FR;have a0:=ar Gd O;have U:=zH (Y.ext Gd);have Gs:=zH Gd;clear Gd FR)|(go_at_call 114;refine(nP _ _ _ _ _ _ U Z).x ?_;rintro e w' ⟨rfl,rfl⟩))
   all_goals
    go_ret
    exact⟨aN (by rw[nR,HE.o,T.o];simp[*]),Gs⟩
def zhS(p v h a b c:Int)A ε rows w D row I(G:bt w A rows)(H:aO w D row)(F:row.length<=1048576)(s:Δ p v h rows):az 95 #[p,.agg (aA v h A rows ε),.agg #[.int .i64 5,a,b,c,.slice D row I]] w (dt w (nR p v h rows 5 a b c row)):=by
 have T:=s.n;have J:=s.h0;have O:=s.χ;have Gt:=zH F;clear s G H F;cases he:pB 5 a b c row with
 |false=>
  exact ZE
 |true=>
  exact ZF
def zdQ(p v D a b c:Int)A ε rows w F row an(H:bt w A rows)(ac:aO w F row)(I:row.length<=1048576)(s:Δ p v D rows):az 95 #[p,.agg (aA v D A rows ε),.agg #[.int .i64 6,a,b,c,.slice F row an]] w (dt w (nR p v D rows 6 a b c row)):=by
 have a2:=s.n;have ah:=s.v0;have am:=s.Â;have a1:=s.h0;have ad:=s.χ;have⟨S,U,Gt,T⟩:=gG s H I (SL:rows.length<=maxLen);clear s H ac I;cases he:pB 6 a b c row with
 |false=>
  exact ZE
 |true=>
  have HE:=zH he;clear he;cases a0:eU a 0 ((rows:Int)-1)
  .skip
   exact ZH
  .cases ab:eU b 0 (D-1)
   .skip
    exact ZH
   .obtain⟨Z,ap⟩:=dx.1 ab;go_enter gq,gx
    go_wp2;go_quiet ((go_at_call 92;exact bX (aX _ _ _ _)))
    go_wp2;go_quiet ((go_at_call 92;first|exact bX (aX _ _ _ _)|exact cX (aX _ _ _ _)))
    go_wp2_with (first|(go_at_call 92;refine(aX _ _ _ _).x ?_;rintro e w' ⟨rfl,rfl⟩)|(go_at_call 136;refine(Calls.bl (dB _ _ _ _ _ _ _ _ Gt.o) HE).x ?_;rintro e w1 ⟨rfl,FR⟩;have⟨Gd,⟨c0,c1,c2⟩,⟨d0,d1,d2,d3,d4⟩⟩:=fe FR;have Y:=zH (U.ext Gd);have Gs:=zH Gd;clear Gd FR))
    all_goals
     go_region_held3 (fun w'=>af w' w 0 (zI v)/\af w' w 1 (zI D)/\af w' w 2 (.slice A rows ε)/\af w' ((w:Nat)+1) 1 (zI a)/\af w' ((w:Nat)+1) 2 (zI b)) (first|exact⟨c0,c1,c2,d1,d2⟩|exact⟨ar h c0,ar h c1,ar h c2,ar h d1,ar h d2⟩)
      (first|(go_at_call 138;refine(yI _ _ _ _ _ _ _ (Y.ext ?_) Qu ah am ad Z Qu S.o.ι).x ?_;exact(al _ _).drew;rintro e a3 ⟨u,rfl,J,h⟩;obtain⟨ao,av,rfl,G,_,_⟩:=J.p)|(go_at_call 137;refine(zdY _ _ _ _ _ G (by simp[jL];exact T.o)).x ?_;rintro e w' ⟨rfl,rfl⟩))
     have O:=zH (aJ Gs ((al _ _).drew.t h));clear h J G;go_wp2
    all_goals
     go_ret
     exact⟨aN (by simp[nR,HE.o,jb, *]),O⟩
def zdR(p v D a b c:Int)A ε rows w T row ao(an:bt w A rows)(U:aO w T row)(ac:row.length<=1048576)(s:Δ p v D rows):az 95 #[p,.agg (aA v D A rows ε),.agg #[.int .i64 7,a,b,c,.slice T row ao]] w (dt w (nR p v D rows 7 a b c row)):=by
 have a5:=s.n;have J:=s.p2;have O:=s.p97;have a6:=s.v0;have a7:=s.Â;have a2:=s.h0;have a3:=s.χ;have⟨H,Gt,I⟩:=er U ac (SL:row.length<=maxLen);clear s an U ac;cases he:pB 7 a b c row with
 |false=>
  exact ZE
 |true=>
  have HE:=zH he;clear he;by_cases h:(row:Int)=v+D+1
  .cases am:eU b 0 D
   .have Z:((row:Int)==v+D+1)=true:=by simp[h]
    have G:=zH h;clear h;go_enter gq,gx
    go_wp2;go_quiet ((go_at_call 92;exact bX (aX _ _ _ _)))
    go_wp2;go_quiet ((go_at_call 92;first|exact bX (aX _ _ _ _)|exact cX (aX _ _ _ _)))
    go_wp2_with (first|(go_at_call 92;refine(aX _ _ _ _).x ?_;rintro e w' ⟨rfl,rfl⟩)|(go_at_call 136;refine(Calls.bl (dB _ _ _ _ _ _ _ _ Gt.o) HE).x ?_;rintro e w1 ⟨rfl,FR⟩;have⟨Gd,⟨c0,c1,c2⟩,⟨d0,d1,d2,d3,d4⟩⟩:=fe FR;have F:=zH (H.ext Gd);have Gs:=zH Gd;clear Gd FR)|(go_at_call 78;refine(sV _ _ _ _ _ F I J O).x ?_;rintro e w' ⟨rfl,rfl⟩))
    all_goals
     go_ret
     exact⟨aN (by simp[nR,HE.o,jb, *]),Gs⟩
   .obtain⟨ap,av⟩:=dx.1 am;have ab:(v+b).toNat<row.length:=Qu;have a4:v+b<row.length:=Qu;have⟨x,hx⟩:=aq ab;obtain⟨a0,o,rfl,Y⟩:=H.θ ab;have⟨ad,ah⟩:=bJ (Y _ _ hx) (Sr:row.getD (v+b).toNat 0=x);have Z:((row:Int)==v+D+1)=true:=by simp[h]
    have G:=zH h;clear h hx Y;go_enter gq,gx
    go_wp2;go_quiet ((go_at_call 92;exact bX (aX _ _ _ _)))
    go_wp2;go_quiet ((go_at_call 92;first|exact bX (aX _ _ _ _)|exact cX (aX _ _ _ _)))
    go_wp2_with (first|(go_at_call 92;refine(aX _ _ _ _).x ?_;rintro e w' ⟨rfl,rfl⟩)|(go_at_call 136;refine(Calls.bl (dB _ _ _ _ _ _ _ _ Gt.o) HE).x ?_;rintro e w1 ⟨rfl,FR⟩;have⟨Gd,⟨c0,c1,c2⟩,⟨d0,d1,d2,d3,d4⟩⟩:=fe FR;have F:=zH (H.ext Gd);have a1:=ar Gd ad;have Gs:=zH Gd;clear Gd FR)|(go_at_call 78;refine(sV _ _ _ _ _ F I J O).x ?_;rintro e w' ⟨rfl,rfl⟩))
    all_goals
     go_ret
     exact⟨aN (by rw[nR,HE.o,ah.o];simp[G.o,jb, *]<;>(intros;omega)),Gs⟩
  .have Z:((row:Int)==v+D+1)=false:=by simp[h]
   have G:=zH h;clear h;go_enter gq,gx
   go_wp2;go_quiet ((go_at_call 92;exact bX (aX _ _ _ _)))
   go_wp2;go_quiet ((go_at_call 92;first|exact bX (aX _ _ _ _)|exact cX (aX _ _ _ _)))
   go_wp2_with (first|(go_at_call 92;refine(aX _ _ _ _).x ?_;rintro e w' ⟨rfl,rfl⟩)|(go_at_call 136;refine(Calls.bl (dB _ _ _ _ _ _ _ _ Gt.o) HE).x ?_;rintro e w1 ⟨rfl,FR⟩;have⟨Gd,⟨c0,c1,c2⟩,⟨d0,d1,d2,d3,d4⟩⟩:=fe FR;have F:=zH (H.ext Gd);have Gs:=zH Gd;clear Gd FR)|(go_at_call 78;refine(sV _ _ _ _ _ F I J O).x ?_;rintro e w' ⟨rfl,rfl⟩))
   all_goals
    go_ret
    exact⟨aN (by simp[nR,HE.o,G.o, *]),Gs⟩
def zbQ(p v h a b c:Int)A ε rows w D row ao(G:bt w A rows)(ad:aO w D row)(I:row.length<=1048576)(s:Δ p v h rows):az 95 #[p,.agg (aA v h A rows ε),.agg #[.int .i64 8,a,b,c,.slice D row ao]] w (dt w (nR p v h rows 8 a b c row)):=by
 have a2:=s.n;have am:=s.v0;have an:=s.Â;have a1:=s.h0;have ah:=s.χ;have⟨S,Y,Gt,U⟩:=gG s G I (SL:rows.length<=maxLen);clear s G ad I;cases he:pB 8 a b c row with
 |false=>
  exact ZE
 |true=>
  have HE:=zH he;clear he;cases ac:eU b 0 (h-1)
  .skip
   exact ZB
  .obtain⟨ab,av⟩:=dx.1 ac;go_enter gq,gx
   go_wp2;go_quiet ((go_at_call 92;exact bX (aX _ _ _ _)))
   go_wp2;go_quiet ((go_at_call 92;first|exact bX (aX _ _ _ _)|exact cX (aX _ _ _ _)))
   go_wp2_with (first|(go_at_call 92;refine(aX _ _ _ _).x ?_;rintro e w' ⟨rfl,rfl⟩)|(go_at_call 136;refine(Calls.bl (dB _ _ _ _ _ _ _ _ Gt.o) HE).x ?_;rintro e w1 ⟨rfl,FR⟩;have⟨Gd,⟨c0,c1,c2⟩,⟨d0,d1,d2,d3,d4⟩⟩:=fe FR;have Z:=zH (Y.ext Gd);have Gs:=zH Gd;clear Gd FR)|(go_at_call 138;refine(yI _ _ _ _ _ _ _ Z Qu am an ah ab Qu S.o.ι).x ?_;rintro e a3 ⟨u,rfl,J,H⟩;obtain⟨ap,a0,rfl,F,_,_⟩:=J.p;have T:=zH F;have O:=zH (aJ Gs H);clear J F H)|(go_at_call 114;refine(nP _ _ _ _ _ _ T.o (by simp[jL];exact U)).x ?_;rintro e w' ⟨rfl,rfl⟩))
   all_goals
    go_ret
    exact⟨aN (by simp[nR,HE.o, *]),O⟩
def zbR(p v h a b c:Int)A ε rows w D row I(G:bt w A rows)(H:aO w D row)(F:row.length<=1048576)(s:Δ p v h rows):az 95 #[p,.agg (aA v h A rows ε),.agg #[.int .i64 9,a,b,c,.slice D row I]] w (dt w (nR p v h rows 9 a b c row)):=by
 have T:=s.n;have J:=s.h0;have O:=s.χ;have Gt:=zH F;clear s G H F;cases he:pB 9 a b c row with
 |false=>
  exact ZE
 |true=>
  exact ZF
def zdS p v h k a b c A ε rows w D row U(O:bt w A rows)(T:aO w D row)(I:row.length<=1048576)(s:Δ p v h rows)(h1:k≠1)(h2:k≠2)(h3:k≠3)(h4:k≠4)(h5:k≠5)(F:k≠6)(h7:k≠7)(G:k≠8)(H:k≠9):az 95 (j9 p (aA v h A rows ε) (jP k a b c D row U)) w (dt w (nR p v h rows k a b c row)):=by
 have a0:=s.n;have ap:=s.h0;have av:=s.χ;have Gt:=zH I;clear s O T I;have Y:(k==1)=false:=Rp;have Z:(k==2)=false:=Rk;have ab:(k==3)=false:=Ri;have ac:(k==4)=false:=Rh;have ad:(k==5)=false:=Rg;have ah:(k==6)=false:=by simpa using F
 have am:(k==7)=false:=Rm;have an:(k==8)=false:=by simpa using G
 have ao:(k==9)=false:=by simpa using H
 have J:=zH (by simp[nR, *]:nR p v h rows k a b c row=false);clear h1 h2 h3 h4 h5 F h7 G H;cases he:pB k a b c row with
 |false=>
  exact ZE
 |true=>
  have HE:=zH he;clear he;go_enter gq,gx
  go_wp2;go_quiet ((go_at_call 92;exact bX (aX _ _ _ _)))
  go_wp2;go_quiet ((go_at_call 92;first|exact bX (aX _ _ _ _)|exact cX (aX _ _ _ _)))
  go_wp2_with (first|(go_at_call 92;refine(aX _ _ _ _).x ?_;rintro e w' ⟨rfl,rfl⟩)|(go_at_call 136;refine(Calls.bl (dB _ _ _ _ _ _ _ _ Gt.o) HE).x ?_;rintro e w1 ⟨rfl,FR⟩;have⟨Gd,⟨c0,c1,c2⟩,⟨d0,d1,d2,d3,d4⟩⟩:=fe FR;have Gs:=zH Gd;clear Gd FR))
  all_goals
   go_ret
   exact⟨aN (by rw[J.o]),Gs⟩
def za1 p v h k a b c A ε rows w D row F(G:bt w A rows)(H:aO w D row)(I:row.length<=1048576)(s:Δ p v h rows):az 95 (j9 p (aA v h A rows ε) (jP k a b c D row F)) w (dt w (nR p v h rows k a b c row)):=by
 by_cases J:k=1
 .subst J;exact zfn p v h a b c A ε rows w D row F G H I s
 by_cases O:k=2
 .subst O;exact zdP p v h a b c A ε rows w D row F G H I s
 by_cases T:k=3
 .subst T;exact zhR p v h a b c A ε rows w D row F G H I s
 by_cases U:k=4
 .subst U;exact zfo p v h a b c A ε rows w D row F G H I s
 by_cases Y:k=5
 .subst Y;exact zhS p v h a b c A ε rows w D row F G H I s
 by_cases Z:k=6
 .subst Z;exact zdQ p v h a b c A ε rows w D row F G H I s
 by_cases ab:k=7
 .subst ab;exact zdR p v h a b c A ε rows w D row F G H I s
 by_cases ac:k=8
 .subst ac;exact zbQ p v h a b c A ε rows w D row F G H I s
 by_cases ad:k=9
 .subst ad;exact zbR p v h a b c A ε rows w D row F G H I s
 exact zdS p v h k a b c A ε rows w D row F G H I s J O T U Y Z ab ac ad
end Go.Proofs.YtpieilkmmiopfaaGreatDoor
