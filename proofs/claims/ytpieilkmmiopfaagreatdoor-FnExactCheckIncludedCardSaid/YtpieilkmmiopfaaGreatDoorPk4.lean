/- Parts of the walks. Conditions: as stated with each. -/
import Derived.Test.YtpieilkmmiopfaaGreatDoorPk2
namespace Go.Proofs.YtpieilkmmiopfaaGreatDoor
open Go.RowKit Tryz
set_option linter.all false
set_option maxHeartbeats 8000000
set_option maxRecDepth 100000
variable{A:ax}{B J b i j n:Nat}{a:Act}{cs:gg}{o:h_}{t:dL}{v:aG}{w:aa}{xs:aL}
section
variable{P:jk}{md:Region.Mode}{ops:iI}{Q:gZ}{S:j4}
def ĉ{G}{F}(hr:Region.ready md ops F=[i,j])(ho:ops.toList[i]?=some o)(U:ops.toList[j]?=some G)(O:∀h:pt,Shut (∀a w,(i<n->S w)->((i<n->S w)->tH P md ops Q S n J (F.setIfInBounds i true) a w)->h a w)-> if Region.wanted o (yielded ops a.tmps)=true then Oper.wp P o a w h Q else h (a.put o.dst undef) w)(T:∀h:pt,Shut (∀a w,(j<n->S w)->((j<n->S w)->tH P md ops Q S n J (F.setIfInBounds j true) a w)->h a w)-> if Region.wanted G (yielded ops a.tmps)=true then Oper.wp P G a w h Q else h (a.put G.dst undef) w):tH P md ops Q S n (J+1) F a w:=by
 refine⟨fun h0=>Tc,fun k I=>?_⟩;rw[hr]at I;simp only[et,gJ,gX]at I;rcases I with rfl|rfl
 .exact wpOp_step Sk (fun h hK=>O h (fun a w D H=>hK a w ⟨D,H D⟩))
 .exact wpOp_step (by rw[<-sf];exact U) (fun h hK=>T h (fun a w D H=>hK a w ⟨D,H D⟩))
end
def EL{ε}(D:aE w B (.slice A n ε) xs):(A=none/\xs=[]/\ε=0)∨∃g,A=some ⟨g,0,none⟩:=by
 rcases D.2 with⟨h,F⟩|⟨g,G,H,h,_⟩
 .simp only[ep]at h;exact ay ⟨h.1,iq F,h.2.2⟩
 .simp only[ep]at h;exact au ⟨g,h.1⟩
def Ŕ(h:aO w A xs)q:aO w A (xs.take q):=YP
def zaY{g ε}(h:aO w (some ⟨g,0,none⟩) xs)(hc:xs.length<=ε)q:∃A:dM,(if ε=q then some (⟨g,0,none⟩:dM) else some ⟨g,q,none⟩)=some A/\aO w (some A) (xs.drop q):=Zk
def ph(w:aa)x:aO (w.alloc (.cells (bK x) 3)) (some ⟨w,0,none⟩) [x]:=by
 refine au ⟨w,0,rfl,fun k y h=>?_⟩
 match k,h with
 |0,h=>
  simp at h;subst h;have:=cell_one_new w (zI x) 3 0 (zI x) rfl;rwa[dF]at this
 |k+1,h=>simp at h
def zjA(p v h a b c:Int)A ε rows w H n O(bb:bt w A rows)(cV:rows.length<=160)(F6:∀r∈rows,r.length<=1000)(c7:0<=v)(c8:v<=1000)(hb:0<=b)(cF:b<=1000)(cI:0<=h)(cK:h<=1000)(Gb:∀r∈rows,v+b<=r.length)(ce:0<=a)(ch:a<=rows.length)row(bc:aO w H row)(bg:n=row.length)(co:row.length<=1048576):az 96 (j_ p (aA v h A rows ε) (uh a b c H n O)) w fun e w'=>∃u,e=.returned (.agg (en v (h+1) u))/\aY w' w u (cT (rows.map (fun r=>cT r (v+b).toNat 0)) a.toNat row)/\ag w w':=by
 have b5:=zH (fun(W:aa) (hW:ag w W)=>(by
  have:=iR H O row W (bc.ext hW) Qu;rw[<-bg]at this;exact this:az 70 (bZ H n O) W fun e w'=>∃u,e=.returned u/\aE w' W u row/\ag W w'))
 clear bc bg co;refine N8 fun q hq Kk H8 Kq Ix=>?_;clear Gb
 refine Qc fun HM F_=>?_
 go_enter func96,pY
 go_wp2_with fail
 refine(kL _ _ _ _ _ _ (bb.ext (((al _ _).alloc Qt _ |>.alloc Qt _).alloc Rs _)) HM F_).x ?_;rintro e w1 ⟨u,rfl,⟨us,hu⟩,I⟩;obtain⟨F,Ga,rfl,_,_,_⟩:=aY.p ⟨us,hu⟩;have⟨bo,bp,bq⟩:=cD w (.cells (aA v h A rows ε) 57) (.cells (uh a b c H n O) 97) (.cells bx 57);have cp:=I.size;simp only[dV]at cp;go_upto_region 2 with(fail)
 have⟨D,FY⟩:=aR (w1.alloc (.cells (aA v h F rows Ga) 57));rw[<-FY];have Gg:ag w1 D:=UP;have Jp:(D:Nat)=w1+1:=Rr;have Z:=aT I Gg;have m2:bA D w1 (aA v h F rows Ga) 57:=TK;have J:=dg Z bo;have k1:=dg Z bp;have ab:=dg Z bq;have bi:bL D ((w:Nat)+3) (.slice F rows Ga) rows us:=(hu.ext Gg).x Qt;have c6:∀g',F=some ⟨g',0,none⟩->g' < (w1:Nat):=fun g' e=>UB
 have cO:∀(k:Nat) (x:aG),us[k]?=some x->∀b,x.ownBlock=some b->b < (w1:Nat):=fun k x hx b hb=>Vk
 have Hj:ag w D:=(ζ w _ _ _).t (Z.x Rs);clear hu I Gg Z bb F6 bo bp bq FY;refine NW fun y0 y1 y2 y3 y4 x0 x1 x2=>?_
 have⟨bu,bv,bz⟩:=aD J;have f1:=aK m2 1;have⟨U,ac,K0,K1,K2,ah⟩:=ny bi Hj J k1 ab m2;clear bi Hj J k1 ab m2;go_upto_region 33 with(fail)
 have⟨a0,Ir⟩:=aR (D.setCell ⟨w1,1,none⟩ (zI (h+1)));rw[<-Ir];have an:=bE D w1 1 _ _ (zI (h+1)) ah;simp only[zA]at an;rw[<-Ir]at an;have ap:∀j,j≠w1.heap.size->a0.heap[j]?=D.heap[j]?:=fun j hj=>TW
 have⟨a9,b6,a8,b7⟩:=gG an ((ap _ Qu).t K0) ((ap _ Qu).t K1) ((ap _ Qu).t K2);have a5:=U.m9 ah (j:=1) (u:=.int .i64 (h+1));rw[<-Ir]at a5;have a1:=ac.setCell (p:=⟨w1,1,none⟩) Rs (zI (h+1));rw[<-Ir]at a1;have c4:(a0:Nat)=w1+1:=TJ;have⟨Is,b1⟩:=bJ a5 a1;have⟨cq,bn⟩:=aR us;rw[<-bn]at Is;clear an ap a5 a1 Ir bn;clear y0 y1 y2 y3 y4 x0 x1 x2 bu bv bz f1;have⟨y0,y1,y2,y3,y4⟩:=fg a8;have⟨x0,x1,x2⟩:=aD a9;go_wp2;go_loopw [202] (fun i wr=>∃k:Nat,k<=rows.length/\i=.int .i64 k/\(∃a6,bL wr ((w:Nat)+3) (.slice F rows Ga) (lE (fun r=>cT r q 0) rows k) a6)/\
   bA wr w1 (aA v (h+1) F rows Ga) 57/\Below ((w:Nat)+3) a0 wr)
  (fun i _=>rows.length-(intOf i).toNat)
 case atStart=>exact⟨0,aW _,rfl,⟨cq,SB⟩,a9,al _ _⟩
 case round=>
  obtain⟨k,hk,rfl,⟨a6,FT⟩,Hh,G⟩:=hrel;clear y0 y1 y2 y3 y4 x0 x1 x2;by_cases be:k<rows.length
  .have⟨r,hr⟩:=aq be;have bh:(lE (fun r=>cT r q 0) rows k)[k]?=some r:=(qj _ _ _ be).t hr;obtain⟨c9,Hc,ao⟩:=FT.F bh;obtain⟨cR,a3⟩:=H8 r (aU hr);obtain⟨b0,cr,rfl,Kd,Kg,_⟩:=ao.p;obtain⟨g,rfl,ci,cj⟩:=mh FT Tf;have He:=FT.η;rw[eJ _ _ _ hk]at He;have z0:af wr g k (.slice b0 r cr):=Ub;refine Mh fun y2=>?_
   have cW:g≠w1.heap.size:=fun e=>XJ
   have f0:=He.g k;have⟨HO,HW,Hf,IC,H_⟩:=pD FT G Hh Hc hr;have cn:q<=r.length:=Qu;have c0:q<=cr:=Qu;have ba:=Ŕ Kd q;have IT:=zH ba;clear He FT G Hh bh Hc hr ba;rcases EL ao with⟨rfl,rfl,rfl⟩|⟨gr,rfl⟩
   .obtain rfl:q=0:=by simpa using cn
    have ID:=zH (show aO wr none (List.drop 0 ([]:aL)) from ay rfl);simp only[iN]at z0;have Y:((0:Nat):Int)=0:=rfl;rw[Y]at Kq;simp only[Y];clear ao Kd Kg hq Y;have L1:=zH (fun(W:aa) (hW:ag wr W)=>(by
     have:=iR (none) (0) ((([]:aL)).take 0) W (IT.ext hW) Rs;rw[show((([]:aL)).take 0).length=0 by simp<;>omega]at this;exact this:az 70 #[.slice (none) 0 (0)] W fun e w'=>∃u,e=.returned u/\aE w' W u ((([]:aL)).take 0)/\ag W w'))
    exact Z_
   .refine OK fun A9 hA ID L1=>?_;clear ao Kd
    exact Z9
  .have ck:k=rows.length:=Qu;subst ck;rw[qi _ _ _ (ae _)]at FT;have⟨br,av⟩:=aR (rows.map (fun r=>cT r q 0));have a3:br.length=rows:=by rw[av];simp
   rw[<-av]at FT;have⟨ad,b4⟩:=bJ a3 av;clear av a3;have He:=FT.η;rw[ad.o]at He;have J:=(G.block _ Qu).t b6;have k1:=(G.block _ Qu).t a8;have ab:=(G.block _ Qu).t b7;have Kf:=G.size;have⟨y0,y1,y2,y3,y4⟩:=fg k1;have⟨x0,x1,x2⟩:=aD Hh;have Hj:=b1.t (G.x Qu);have⟨U,ac,K0,K1,K2,ah⟩:=ny FT Hj J k1 ab Hh;clear FT Hj J k1 ab Hh G He;go_upto_region 39 with(fail)
   have HS:=zH (show ∀a7,ag wr a7->(fun W:World=>af W w1 2 (.slice F rows Ga)/\af W ((w:Nat)+1) 1 (zI a)/\af W ((w:Nat)+1) 4 (.slice H n O)) a7 from fun a7 hb=>⟨ar hb x2,ar hb y1,ar hb y4⟩);refine cU (S:=(fun W:World=>af W w1 2 (.slice F rows Ga)/\af W ((w:Nat)+1) 1 (zI a)/\af W ((w:Nat)+1) 4 (.slice H n O))) 9 QT (HS.o _ (al _ _).drew) (fun hHeld=>?_);refine Qi ?_;refine cm 6 fun K hK=>?_
   go_simp;refine(b5.o _ ac.drew).x ?_;rintro e ct ⟨u1,rfl,IB,I⟩;obtain⟨A1,c1,rfl,_⟩:=IB.p;have⟨T,b3⟩:=bJ ((al wr wr).drew.t I) IB;clear IB I;go_simp;refine hK.out _ _ (fun _=>HS.o _ T.o) (fun hHeld=>?_);refine Mr fun hHeld=>?_;clear K hK
   refine Ny fun K hK=>?_
   refine(zP ((w:Nat)+3) _ a a6 rows _ _ _ ct (by have h1:=(U.ext T.o).η;rw[ad.o]at h1;exact h1) (rp U) ce ch Qu).x ?_;rintro e wc ⟨v9,rfl,a4,a2⟩;obtain⟨g,Kj,rfl,ci,cj⟩:=pW a4 Qu;have bd:=aJ T.o a2;have c5:=T.o.size;have hW:=U.insert T.o b3 Qu (show a.toNat<=br.length by have:=ad.o;omega) (by rw[ad.o];exact zQ a4 Qu) (gz a2);have⟨Jo,b2⟩:=bJ bd hW;clear bd hW a4 a2;refine Mz fun hHeld=>?_
   refine Mr fun hHeld=>?_;clear K hK
   refine cm 8 fun K hK=>?_
   refine Mz fun hHeld=>?_
   refine Mr fun hHeld=>?_;clear K hK
   have am:=(Jo.block w1 Qu).t ah;have HF:=zH am;have f2:=aK am 2;have⟨z0,cu,z2⟩:=aD am;clear am;refine cm 9 fun K hK=>?_
   go_simp;refine Qn ?_;clear K hK;refine Pp fun IF Iu Iy Iw=>?_
   obtain⟨HO,HE⟩:=bJ (show aY _ ((w:Nat)+3) _ (cT (rows.map (fun r=>cT r q 0)) a.toNat row) from⟨_,(by rw[<-b4.o];have h1:=b2.m9 HF (j:=2) (u:=.slice (bH g) (rows.length+1) Kj);exact h1)⟩) ((aJ ac Jo).setCell (p:=⟨w1,2,none⟩) Rs (.slice (bH g) (rows.length+1) Kj));clear z0 cu z2 y0 y1 y2 y3 y4 x0 x1 x2 f2;have⟨y0,y1,y2,y3,y4⟩:=fg Iy;have⟨bu,bv,bz⟩:=aD Iu;clear Iu Iy;have⟨Y,b8,b9⟩:=cC IF;have⟨ca,cb,cc⟩:=cC Iw;have⟨cz,cA,cB⟩:=cd Iw;simp only[dA,dm]at Y b8 b9 ca cb cc;clear IF Iw;go_wp2;refine aI (v:=.agg (eO v (h+1) (bH g) (rows.length+1) Kj)) TV rfl ⟨_,rfl,?_,?_⟩
   .exact Ym
   .exact X7
def zhO(p v h a b c:Int)A ε rows w ao n bg(av:bt w A rows)(co:rows.length<=160)(F6:∀r∈rows,r.length<=1000)(cz:0<=v)(cA:v<=1000)(hb:0<=b)(cb:b<=1000)(ch:0<=h)(ci:h<=1000)(Gb:∀r∈rows,v+b<=r.length):az 96 #[p,.agg (aA v h A rows ε),.agg (uk a b c ao n bg)] w fun e w'=>∃u,e=.returned (.agg (en v (h+1) u))/\aY w' w u (rows.map (fun r=>cT r (v+b).toNat 0))/\ag w w':=by
 refine N8 fun q hq Kk H8 Kq Ix=>?_;clear Gb
 refine Qc fun HM F_=>?_
 go_enter func96,pY
 go_wp2_with fail
 refine(kL _ _ _ _ _ _ (av.ext (((al _ _).alloc Qt _ |>.alloc Qt _).alloc Rs _)) HM F_).x ?_;rintro e w1 ⟨u,rfl,⟨us,hu⟩,Y⟩;obtain⟨F,Ga,rfl,_,_,_⟩:=aY.p ⟨us,hu⟩;have⟨a8,a9,ba⟩:=cD w (.cells (aA v h A rows ε) 57) (.cells (uk a b c ao n bg) 97) (.cells bx 57);have b6:=Y.size;simp only[dV]at b6;go_upto_region 2 with(fail)
 have⟨D,FY⟩:=aR (w1.alloc (.cells (aA v h F rows Ga) 57));rw[<-FY];have Gg:ag w1 D:=UP;have Jp:(D:Nat)=w1+1:=Rr;have I:=aT Y Gg;have m2:bA D w1 (aA v h F rows Ga) 57:=TK;have ac:=dg I a8;have k1:=dg I a9;have a6:=dg I ba;have a2:bL D ((w:Nat)+3) (.slice F rows Ga) rows us:=(hu.ext Gg).x Qt;have cu:∀g',F=some ⟨g',0,none⟩->g' < (w1:Nat):=fun g' e=>UB
 have cj:∀(k:Nat) (x:aG),us[k]?=some x->∀b,x.ownBlock=some b->b < (w1:Nat):=fun k x hx b hb=>Vk
 have Hj:ag w D:=(ζ w _ _ _).t (I.x Rs);clear hu Y Gg I av F6 a8 a9 ba FY;refine NW fun y0 y1 y2 y3 y4 x0 x1 x2=>?_
 have⟨bb,bc,bd⟩:=aD ac;have f1:=aK m2 1;have⟨bo,bi,bp,br,bu,am⟩:=ny a2 Hj ac k1 a6 m2;clear a2 Hj ac k1 a6 m2;go_upto_region 33 with(fail)
 have⟨U,Ir⟩:=aR (D.setCell ⟨w1,1,none⟩ (zI (h+1)));rw[<-Ir];have J:=bE D w1 1 _ _ (zI (h+1)) am;simp only[zA]at J;rw[<-Ir]at J;have T:∀j,j≠w1.heap.size->U.heap[j]?=D.heap[j]?:=fun j hj=>TW
 have⟨an,bq,ah,bv⟩:=gG J ((T _ Qu).t bp) ((T _ Qu).t br) ((T _ Qu).t bu);have ab:=bo.m9 am (j:=1) (u:=.int .i64 (h+1));rw[<-Ir]at ab;have Z:=bi.setCell (p:=⟨w1,1,none⟩) Rs (zI (h+1));rw[<-Ir]at Z;have ct:(U:Nat)=w1+1:=TJ;have⟨Is,bn⟩:=bJ ab Z;have⟨b7,a3⟩:=aR us;rw[<-a3]at Is;clear J T ab Z Ir a3;clear y0 y1 y2 y3 y4 x0 x1 x2 bb bc bd f1;have⟨y0,y1,y2,y3,y4⟩:=fg ah;have⟨x0,x1,x2⟩:=aD an;go_wp2;go_loopw [202] (fun i wr=>∃k:Nat,k<=rows.length/\i=.int .i64 k/\(∃be,bL wr ((w:Nat)+3) (.slice F rows Ga) (lE (fun r=>cT r q 0) rows k) be)/\
   bA wr w1 (aA v (h+1) F rows Ga) 57/\Below ((w:Nat)+3) U wr)
  (fun i _=>rows.length-(intOf i).toNat)
 case atStart=>exact⟨0,aW _,rfl,⟨b7,SB⟩,an,al _ _⟩
 case round=>
  obtain⟨k,hk,rfl,⟨be,FT⟩,Hh,G⟩:=hrel;clear y0 y1 y2 y3 y4 x0 x1 x2;by_cases a0:k<rows.length
  .have⟨r,hr⟩:=aq a0;have a1:(lE (fun r=>cT r q 0) rows k)[k]?=some r:=(qj _ _ _ a0).t hr;obtain⟨cB,Hc,O⟩:=FT.F a1;obtain⟨ck,cn⟩:=H8 r (aU hr);obtain⟨bh,cr,rfl,Kd,Kg,_⟩:=O.p;obtain⟨g,rfl,cc,ce⟩:=mh FT Tf;have He:=FT.η;rw[eJ _ _ _ hk]at He;have z0:af wr g k (.slice bh r cr):=Ub;refine Mh fun y2=>?_
   have cp:g≠w1.heap.size:=fun e=>XJ
   have f0:=He.g k;have⟨HO,HW,Hf,IC,H_⟩:=pD FT G Hh Hc hr;have b5:q<=r.length:=Qu;have cq:q<=cr:=Qu;have ap:=Ŕ Kd q;have IT:=zH ap;clear He FT G Hh a1 Hc hr ap;rcases EL O with⟨rfl,rfl,rfl⟩|⟨gr,rfl⟩
   .obtain rfl:q=0:=by simpa using b5
    have ID:=zH (show aO wr none (List.drop 0 ([]:aL)) from ay rfl);simp only[iN]at z0;have H:((0:Nat):Int)=0:=rfl;rw[H]at Kq;simp only[H];clear O Kd Kg hq H;have L1:=zH (fun(W:aa) (hW:ag wr W)=>(by
     have:=iR (none) (0) ((([]:aL)).take 0) W (IT.ext hW) Rs;rw[show((([]:aL)).take 0).length=0 by simp<;>omega]at this;exact this:az 70 #[.slice (none) 0 (0)] W fun e w'=>∃u,e=.returned u/\aE w' W u ((([]:aL)).take 0)/\ag W w'))
    exact Z_
   .refine OK fun A9 hA ID L1=>?_;clear O Kd
    exact Z9
  .have b4:k=rows.length:=Qu;subst b4;rw[qi _ _ _ (ae _)]at FT;have a7:=Hh;have a4:=(G.block _ Qu).t bq;have a5:=(G.block _ Qu).t ah;have ad:=(G.block _ Qu).t bv;have⟨HO,HE⟩:=bJ (show aY wr ((w:Nat)+3) (.slice F rows Ga) (rows.map (fun r=>cT r q 0)) from⟨_,FT⟩) (bn.t (G.x Qu));clear FT G Hh;have⟨y0,y1,y2,y3,y4⟩:=fg a5;have⟨bb,bc,bd⟩:=aD a4;clear a4 a5;have⟨H,bz,b0⟩:=cC a7;have⟨b1,b2,b3⟩:=cC ad;have⟨b8,b9,ca⟩:=cd ad;simp only[dA,dm]at H bz b0 b1 b2 b3;clear a7 ad;go_wp2;refine aI (v:=.agg (aA v (h+1) F rows Ga)) TV rfl ⟨_,rfl,?_,?_⟩
   .exact Ym
   .exact X7
def gwI(k:Int):Int:=if k=5∨k=9 then 2 else if k=6∨k=10 then 0 else 1
def gwO(k:Int):Int:=if k=3∨k=11 then 2 else if k=4∨k=12 then 0 else 1
def aF(h:bA w b cs t)j(D:cs.toList[j]?=some v):af w b j v:=(bB h j).t D
def jt k w(am:3<=k)(an:k<=14):az 167 (bK k) w fun e w'=>e=.returned (.agg (bC (gwI k) (gwO k)))/\ag w w':=by
 have hq:=aH (w.alloc (.cells fP 207)) (.cells ĩ 260) (n:=(w:Nat)+1) Qt;have G:=((al w w).alloc (ae _) (.cells fP 207)).alloc Qt (.cells ĩ 260);have h:=(bO (w.alloc (.cells fP 207)) (.cells ĩ 260) (k:=w.heap.size) Qt).t (aH w (.cells fP 207) rfl);have Z:(w.alloc (.cells fP 207):Nat)=w+1:=Qt;by_cases ao:k<=8
 .obtain⟨i,rfl⟩:∃i:Nat,k=(i:Int)+3:=⟨(k-3).toNat,Qu⟩;have hi:i<6:=Qu;have⟨a,D⟩:=aR (gwI ((i:Int)+3));have⟨b,F⟩:=aR (gwO ((i:Int)+3));rw[<-D,<-F];have⟨HA,Ho⟩:=bJ D F;clear D F;go_enter func167,ntmps167
  go_upto_region 2 with(fail)
  generalize (w.alloc _).alloc _=W at hq G h ⊢;have Y:af W ((w:Nat)+1) (i*2) (zI a):=YM;have c1:af W ((w:Nat)+1) (i*2+1) (zI b):=YN;have⟨ad,ah,f0,f1⟩:=dD h;have y:=fW (v0:=.int .i64 a) (v1:=.int .i64 b) h;obtain⟨O,T,-,-⟩:=dD y;have HE:=zH (fX G (ae _) (zI a) (zI b));unfold vf at O T;clear hq h G Z y;exact XS
 .obtain⟨i,rfl⟩:∃i:Nat,k=(i:Int)+9:=⟨(k-9).toNat,Qu⟩;have hi:i<6:=Qu;have⟨a,D⟩:=aR (gwI ((i:Int)+9));have⟨b,F⟩:=aR (gwO ((i:Int)+9));rw[<-D,<-F];have⟨HA,Ho⟩:=bJ D F;clear D F;go_enter func167,ntmps167
  go_upto_region 2 with(fail)
  generalize (w.alloc _).alloc _=W at hq G h ⊢;have Y:af W ((w:Nat)+1) (i*2) (zI b):=YN;have c1:af W ((w:Nat)+1) (i*2+1) (zI a):=YM;have⟨ab,U⟩:=bJ h G;have ac:(w:Nat)<W:=(bk.1 h).1;clear hq h G Z;go_upto_region 5 with(fail)
  have J:=aH W (.cells (bC b a) 207) rfl;have H:=(bO W (.cells (bC b a) 207) ac).t ab;have I:=U.alloc U.size (.cells (bC b a) 207);generalize W.alloc _=V at J H I ⊢;have⟨ad,ah,f0,f1⟩:=dD H;obtain⟨d0,d1,-,-⟩:=dD J;have y:=fW (v0:=.int .i64 a) (v1:=.int .i64 b) H;obtain⟨O,T,-,-⟩:=dD y;have HE:=zH (fX I (ae _) (zI a) (zI b));unfold vf at O T;clear J H I y Y c1;exact XS
def jd(a b:Int):Bool:=decide (a<=12)&&decide (b<=12)
def zkA a b w:az 225 (cY (bC a b)) w (dt w (jd a b)):=by
 have h:=(al w w).alloc (ae _) (.cells (bC a b) 207);unfold jd;by_cases h1:a<=12<;>by_cases h2:b<=12
 all_goals
  go_enter func225,ntmps225
  go_wp2;go_ret
  exact⟨Q9,h⟩
def WTo(a b:Int)(ok:Bool)(w:aa)(e:Ending)(w':aa):Prop:=e=.returned (.tuple (ka (bC a b) ok))/\ag w w'
def Fy h D F G w:az 223 #[.int .i64 15,.agg (bC h D),.agg (bC F G)] w (WTo h G (decide (D=F)) w):=by
 have I:=ζ w (.cells (bC h D) 207) (.cells (bC F G) 207) (.cells fP 207);have⟨J,O,H⟩:=cD w (.cells (bC h D) 207) (.cells (bC F G) 207) (.cells fP 207);have Z:(D==F)=decide (D=F):=Q7;have⟨ok,U⟩:=aR (decide (D=F));rw[<-U]at Z ⊢;go_enter func223,ntmps223
 go_upto_region 1 with(fail)
 generalize ((w.alloc _).alloc _).alloc _=W at I J O H ⊢;obtain⟨T,c1,-,-⟩:=dD J;obtain⟨d0,d1,-,-⟩:=dD O;have⟨ad,ah,f0,f1⟩:=dD H;have y:=fW (v0:=.int .i64 h) (v1:=.int .i64 G) H;obtain⟨ab,ac,-,-⟩:=dD y;have Y:=zH (fX I (b:=(w:Nat)+1+1) Qu (zI h) (zI G));unfold vf at ab ac;go_wp2_with fail
 go_region_held3 (fun w'=>af w' w 0 (zI h)/\af w' w 1 (zI D)/\af w' ((w:Nat)+1) 0 (zI F)/\af w' ((w:Nat)+1) 1 (zI G))
  (first|exact⟨T,c1,d0,d1⟩|exact⟨kR Rs T,kR Rs c1,kR Rs d0,kR Rs d1⟩) (fail)
 go_wp2;exact aI (v:=.tuple (ka (bC h G) ok)) Uw rfl ⟨rfl,Y.drew⟩
def Fz h D F G w(be:0<=h)(bg:h<=1000)(bh:0<=D)(bi:D<=1000)(bn:0<=F)(bo:F<=1000)(bp:0<=G)(bq:G<=1000):az 223 #[.int .i64 16,.agg (bC h D),.agg (bC F G)] w (WTo (h+F) (D+G) (jd (h+F) (D+G)) w):=by
 have U:=ζ w (.cells (bC h D) 207) (.cells (bC F G) 207) (.cells fP 207);have⟨ab,ac,ad⟩:=cD w (.cells (bC h D) 207) (.cells (bC F G) 207) (.cells fP 207);have br:IntKind.i64.wrap (h+F)=h+F:=Rt;have bu:IntKind.i64.wrap (D+G)=D+G:=Rt;go_enter func223,ntmps223
 go_upto_region 1 with(fail)
 have H:(w:Nat)+3=(((w.alloc (.cells (bC h D) 207)).alloc (.cells (bC F G) 207)).alloc (.cells fP 207)):=Qt;generalize ((w.alloc _).alloc _).alloc _=W at U ab ac ad H ⊢;obtain⟨a9,c1,-,-⟩:=dD ab;obtain⟨d0,d1,-,-⟩:=dD ac;have⟨ah,a4,ao⟩:=er U ad H;go_upto_region 4 with(fail)
 generalize av:h+F=x at br ⊢;generalize a0:D+G=y at bu ⊢;have Z:=aH W (.cells (bC x y) 207) rfl;have J:=(bO W (.cells (bC x y) 207) (k:=(w:Nat)+1+1) (by have:=ao.o;omega)).t a4;have Y:=ah.alloc ah.size (.cells (bC x y) 207);generalize W.alloc _=V at Z J Y ⊢;obtain⟨O,T,-,-⟩:=dD Z;have⟨bv,bz,f0,f1⟩:=dD J;have ap:W.heap.size≠(w:Nat)+1+1:=by have:=ao.o;omega
 have⟨a5,am,an,a6,a7⟩:=pD J Y ap av a0;go_region_held3 (fun w'=>af w' W 0 (zI x)/\af w' W 1 (zI y))
  (first|exact⟨O,T⟩|exact t1|exact⟨kR an t1.1,kR an t1.2⟩)
  ((go_at_call 225;refine(zkA x y _).x ?_;rintro e b2 ⟨rfl,I⟩;have a2:=zH (am.drew.t (I.x am.size));have t1:=aQ (ar I O) (ar I T);have H:=ai (w:=V.drew) a5 I;have⟨ba,bb,bc,bd⟩:=dD H;have a8:=zH H))
 have a1:=fW (v0:=.int .i64 x) (v1:=.int .i64 y) a8;obtain⟨b0,b1,-,-⟩:=dD a1;have a3:=zH (fX a2 (b:=(w:Nat)+1+1) Qu (zI x) (zI y));unfold vf at b0 b1;go_wp2;exact aI (v:=.tuple (ka (bC x y) (jd x y))) Uw rfl ⟨by rw[a6.o,a7.o],a3⟩
def B4 a b p v h A ε(rows:aP)w(hm:rows.length<=maxLen):az 244 (je (bC a b) p (aA v h A rows ε)) w fun e w'=>e=.returned (.bool (eU a 0 ((rows:Int)-1)&&(eU b 0 ((rows:Int)-1)&&(a !=b))))/\ag w w':=by
 have F:Below w w ((w.alloc (.cells (bC a b) 229)).alloc (.cells (aA v h A rows ε) 57)):=((al w w).alloc Qt _).alloc Qt _;have HB:=zH F;have G:∀W:κ ((w.alloc (.cells (bC a b) 229)).alloc (.cells (aA v h A rows ε) 57)),af W.W w 0 (zI a):=fun W=>W.cell Qt
 have H:∀W:κ ((w.alloc (.cells (bC a b) 229)).alloc (.cells (aA v h A rows ε) 57)),af W.W w 1 (zI b):=fun W=>W.cell Qt
 have I:∀W:κ ((w.alloc (.cells (bC a b) 229)).alloc (.cells (aA v h A rows ε) 57)),af W.W ((w:Nat)+1) 0 (zI v):=fun W=>W.cell Qt
 have J:∀W:κ ((w.alloc (.cells (bC a b) 229)).alloc (.cells (aA v h A rows ε) 57)),af W.W ((w:Nat)+1) 1 (zI h):=fun W=>W.cell Qt
 have O:∀W:κ ((w.alloc (.cells (bC a b) 229)).alloc (.cells (aA v h A rows ε) 57)),af W.W ((w:Nat)+1) 2 (.slice A rows ε):=fun W=>W.cell Qt
 cases h1:eU a 0 ((rows:Int)-1)
 .skip
  go_enter func244,ntmps244
  exact Y8
 cases D:eU b 0 ((rows:Int)-1)
 .skip
  go_enter func244,ntmps244
  go_upto_region 1 with(fail)
  refine dn ?_
  repeat (go_big_quiet_step (first|(go_at_call_of 247 a;exact Calls.fh (Calls.bl (eI _ _ _ _ _ _ _ hm) h1))|(go_at_call_of 247 b;exact Calls.fh (Calls.bl (eI _ _ _ _ _ _ _ hm) D))))
  exact Xq
 go_enter func244,ntmps244
 go_upto_region 1 with(fail)
 refine dn ?_
 repeat (go_big_quiet_step (first|(go_at_call_of 247 a;exact Calls.fh (Calls.bl (eI _ _ _ _ _ _ _ hm) h1))|(go_at_call_of 247 b;exact Calls.fh (Calls.bl (eI _ _ _ _ _ _ _ hm) D))))
 refine Py fun W=>?_
 go_ret
 exact⟨aN Qt,aJ HB W.ok⟩
def zl a c p v h A ε(rows:aP)w(hm:rows.length<=maxLen):az 248 (je (bC a c) p (aA v h A rows ε)) w fun e w'=>e=.returned (.bool (eU a 0 ((rows:Int)-1)&&(jY p c&&(c !=0))))/\ag w w':=by
 have F:Below w w ((w.alloc (.cells (bC a c) 231)).alloc (.cells (aA v h A rows ε) 57)):=((al w w).alloc Qt _).alloc Qt _;have HB:=zH F;have G:∀W:κ ((w.alloc (.cells (bC a c) 231)).alloc (.cells (aA v h A rows ε) 57)),af W.W w 0 (zI a):=fun W=>W.cell Qt
 have H:∀W:κ ((w.alloc (.cells (bC a c) 231)).alloc (.cells (aA v h A rows ε) 57)),af W.W w 1 (zI c):=fun W=>W.cell Qt
 have I:∀W:κ ((w.alloc (.cells (bC a c) 231)).alloc (.cells (aA v h A rows ε) 57)),af W.W ((w:Nat)+1) 0 (zI v):=fun W=>W.cell Qt
 have J:∀W:κ ((w.alloc (.cells (bC a c) 231)).alloc (.cells (aA v h A rows ε) 57)),af W.W ((w:Nat)+1) 1 (zI h):=fun W=>W.cell Qt
 have O:∀W:κ ((w.alloc (.cells (bC a c) 231)).alloc (.cells (aA v h A rows ε) 57)),af W.W ((w:Nat)+1) 2 (.slice A rows ε):=fun W=>W.cell Qt
 cases h1:eU a 0 ((rows:Int)-1)
 .skip
  go_enter func248,ntmps248
  exact Y8
 cases D:jY p c
 .skip
  go_enter func248,ntmps248
  go_upto_region 1 with(fail)
  refine dn ?_
  repeat (go_big_quiet_step (first|(go_at_call_of 247 a;exact Calls.fh (Calls.bl (eI _ _ _ _ _ _ _ hm) h1))|(go_at_call 131;exact Calls.dj (Calls.cg (mm _ _ _) D))))
  exact Xq
 go_enter func248,ntmps248
 go_upto_region 1 with(fail)
 refine dn ?_
 repeat (go_big_quiet_step (first|(go_at_call_of 247 a;exact Calls.fh (Calls.bl (eI _ _ _ _ _ _ _ hm) h1))|(go_at_call 131;exact Calls.dj (Calls.cg (mm _ _ _) D))))
 refine Py fun W=>?_
 go_ret
 exact⟨aN Qt,aJ HB W.ok⟩
def Ek a b c p v h A ε(rows:aP)w(hm:rows.length<=maxLen):az 251 (je (gT a b c) p (aA v h A rows ε)) w fun e w'=>e=.returned (.bool (eU a 0 ((rows:Int)-1)&&(eU b 0 ((rows:Int)-1)&&((a !=b)&&jY p c))))/\ag w w':=by
 have D:Below w w ((w.alloc (.cells (gT a b c) 233)).alloc (.cells (aA v h A rows ε) 57)):=((al w w).alloc Qt _).alloc Qt _;have HB:=zH D;have G:∀W:κ ((w.alloc (.cells (gT a b c) 233)).alloc (.cells (aA v h A rows ε) 57)),af W.W w 0 (zI a):=fun W=>W.cell Qt
 have H:∀W:κ ((w.alloc (.cells (gT a b c) 233)).alloc (.cells (aA v h A rows ε) 57)),af W.W w 1 (zI b):=fun W=>W.cell Qt
 have I:∀W:κ ((w.alloc (.cells (gT a b c) 233)).alloc (.cells (aA v h A rows ε) 57)),af W.W w 2 (zI c):=fun W=>W.cell Qt
 have J:∀W:κ ((w.alloc (.cells (gT a b c) 233)).alloc (.cells (aA v h A rows ε) 57)),af W.W ((w:Nat)+1) 0 (zI v):=fun W=>W.cell Qt
 have O:∀W:κ ((w.alloc (.cells (gT a b c) 233)).alloc (.cells (aA v h A rows ε) 57)),af W.W ((w:Nat)+1) 1 (zI h):=fun W=>W.cell Qt
 have T:∀W:κ ((w.alloc (.cells (gT a b c) 233)).alloc (.cells (aA v h A rows ε) 57)),af W.W ((w:Nat)+1) 2 (.slice A rows ε):=fun W=>W.cell Qt
 cases h1:eU a 0 ((rows:Int)-1)
 .skip
  go_enter func251,ntmps251
  exact Y8
 cases h2:eU b 0 ((rows:Int)-1)
 .skip
  exact Zo
 cases F:(a !=b)
 .skip
  exact Zo
 go_enter func251,ntmps251
 go_upto_region 1 with(fail)
 refine dn ?_
 repeat (go_big_quiet_step (first|(go_at_call_of 247 a;exact Calls.fh (Calls.bl (eI _ _ _ _ _ _ _ hm) h1))|(go_at_call_of 247 b;exact Calls.fh (Calls.bl (eI _ _ _ _ _ _ _ hm) h2))|(go_at_call 131;exact Calls.dj (mm _ _ _))))
 refine Py fun W=>?_
 go_ret
 exact⟨aN Qt,aJ HB W.ok⟩
def B_ a p v h A ε rows w(hm:rows.length<=maxLen)(G:bt w A rows)(T:∀r∈rows,r.length<=maxLen):az 254 (je (bK a) p (aA v h A rows ε)) w fun e w'=>e=.returned (.bool (eU a 0 ((rows:Int)-1)&&uX (rows.getD a.toNat [])))/\ag w w':=by
 have F:Below w w ((w.alloc (.cells (bK a) 235)).alloc (.cells (aA v h A rows ε) 57)):=((al w w).alloc Qt _).alloc Qt _;have HB:=zH F;have an:∀W:κ ((w.alloc (.cells (bK a) 235)).alloc (.cells (aA v h A rows ε) 57)),af W.W w 0 (zI a):=fun W=>W.cell Qt
 have ao:∀W:κ ((w.alloc (.cells (bK a) 235)).alloc (.cells (aA v h A rows ε) 57)),af W.W ((w:Nat)+1) 0 (zI v):=fun W=>W.cell Qt
 have ap:∀W:κ ((w.alloc (.cells (bK a) 235)).alloc (.cells (aA v h A rows ε) 57)),af W.W ((w:Nat)+1) 1 (zI h):=fun W=>W.cell Qt
 have av:∀W:κ ((w.alloc (.cells (bK a) 235)).alloc (.cells (aA v h A rows ε) 57)),af W.W ((w:Nat)+1) 2 (.slice A rows ε):=fun W=>W.cell Qt
 cases h1:eU a 0 ((rows:Int)-1)
 .skip
  go_enter func254,ntmps254
  exact Y8
 obtain⟨ad,ah⟩:0<=a/\a<=(rows:Int)-1:=Sj;have O:a.toNat<rows.length:=Qu;have⟨r,hr⟩:=aq O;obtain⟨D,o,rfl,H⟩:=G.θ O;obtain⟨U,ac,I,J⟩:=H _ r hr;have am:∀W:κ ((w.alloc (.cells (bK a) 235)).alloc (.cells (aA v h (some ⟨D,o,none⟩) rows ε) 57)),af W.W D (o+a.toNat) (.slice U r ac):=fun W=>ar (aJ HB W.ok) I
 have⟨Y,ab,Z⟩:=er (fun W:κ ((w.alloc (.cells (bK a) 235)).alloc (.cells (aA v h (some ⟨D,o,none⟩) rows ε) 57))=>J.ext (aJ HB W.ok)) (Ss:rows.getD a.toNat []=r) (T r (aU hr));go_enter func254,ntmps254
 go_upto_region 1 with(fail)
 refine dn ?_
 repeat (go_big_quiet_step (first|(go_at_call_of 247 a;exact Calls.fh (Calls.bl (eI _ _ _ _ _ _ _ hm) h1))|(go_at_call 186;exact Calls.dj (EZ _ _ _ _ (Y.o _) Z))))
 refine Py fun W=>?_
 go_ret
 exact⟨aN (by rw[ab.o];simp),aJ HB W.ok⟩
def El a p v h A ε(rows:aP)w(G:rows.length<=maxLen):az 258 (je (bK a) p (aA v h A rows ε)) w fun e w'=>e=.returned (.bool (eU a 0 (rows:Int)))/\ag w w':=by
 have D:Below w w ((w.alloc (.cells (bK a) 236)).alloc (.cells (aA v h A rows ε) 57)):=((al w w).alloc Qt _).alloc Qt _;have F:=zH D;have H:∀W:κ ((w.alloc (.cells (bK a) 236)).alloc (.cells (aA v h A rows ε) 57)),af W.W w 0 (zI a):=fun W=>W.cell Qt
 have I:∀W:κ ((w.alloc (.cells (bK a) 236)).alloc (.cells (aA v h A rows ε) 57)),af W.W ((w:Nat)+1) 2 (.slice A rows ε):=fun W=>W.cell Qt
 go_enter func258,ntmps258
 go_upto_region 1 with(fail)
 refine dn ?_
 repeat (go_big_quiet_step ((go_at_call 143;exact Calls.dj (dC _ _ _ _))))
 refine Py fun W=>?_
 go_ret
 exact⟨aN Qs,aJ F W.ok⟩
def xG b p v h A ε(rows:aP)w(G:rows.length<=maxLen):az 285 (je (bK b) p (aA v h A rows ε)) w fun e w'=>e=.returned (.bool (eU b 0 h))/\ag w w':=by
 have D:Below w w ((w.alloc (.cells (bK b) 242)).alloc (.cells (aA v h A rows ε) 57)):=((al w w).alloc Qt _).alloc Qt _;have F:=zH D;have H:∀W:κ ((w.alloc (.cells (bK b) 242)).alloc (.cells (aA v h A rows ε) 57)),af W.W w 0 (zI b):=fun W=>W.cell Qt
 have I:∀W:κ ((w.alloc (.cells (bK b) 242)).alloc (.cells (aA v h A rows ε) 57)),af W.W ((w:Nat)+1) 1 (zI h):=fun W=>W.cell Qt
 go_enter func285,ntmps285
 go_upto_region 1 with(fail)
 refine dn ?_
 repeat (go_big_quiet_step ((go_at_call 143;exact Calls.dj (dC _ _ _ _))))
 refine Py fun W=>?_
 go_ret
 exact⟨aN Qs,aJ F W.ok⟩
def xH b p v h A ε rows w(U:rows.length<=maxLen)(G:bt w A rows)(Y:0<=v)(Z:v<=24)(H:0<=h)(D:h<=100)(I:∀r∈rows,(r.length:Int)=v+h):az 282 (je (bK b) p (aA v h A rows ε)) w fun e w'=>e=.returned (.bool (eU b 0 (h-1)&&te rows (v+b).toNat (-1)))/\ag w w':=by
 have F:Below w w ((w.alloc (.cells (bK b) 241)).alloc (.cells (aA v h A rows ε) 57)):=((al w w).alloc Qt _).alloc Qt _;have HB:=zH F;have ac:∀W:κ ((w.alloc (.cells (bK b) 241)).alloc (.cells (aA v h A rows ε) 57)),af W.W w 0 (zI b):=fun W=>W.cell Qt
 have ad:∀W:κ ((w.alloc (.cells (bK b) 241)).alloc (.cells (aA v h A rows ε) 57)),af W.W ((w:Nat)+1) 0 (zI v):=fun W=>W.cell Qt
 have ah:∀W:κ ((w.alloc (.cells (bK b) 241)).alloc (.cells (aA v h A rows ε) 57)),af W.W ((w:Nat)+1) 1 (zI h):=fun W=>W.cell Qt
 have am:∀W:κ ((w.alloc (.cells (bK b) 241)).alloc (.cells (aA v h A rows ε) 57)),af W.W ((w:Nat)+1) 2 (.slice A rows ε):=fun W=>W.cell Qt
 cases h1:eU b 0 (h-1)
 .skip
  go_enter func282,ntmps282
  go_upto_region 1 with(fail)
  refine dn ?_
  repeat (go_big_quiet_step ((go_at_call 269;exact Calls.fh (Calls.bl (mq _ _ _ _ _ H D) h1))))
  exact Xq
 obtain⟨T,ab⟩:0<=b/\b<=h-1:=Sj;have⟨O,J⟩:=bJ (fun W:κ ((w.alloc (.cells (bK b) 241)).alloc (.cells (aA v h A rows ε) 57))=>G.ext (aJ HB W.ok)) I;go_enter func282,ntmps282
 go_upto_region 1 with(fail)
 refine dn ?_
 repeat (go_big_quiet_step (first|(go_at_call 269;exact Calls.fh (Calls.bl (mq _ _ _ _ _ H D) h1))|(go_at_call 270;exact Calls.fh (EY _ _ _ _ _ _ _ _ (O.o _) U Y Z D T Qu J.o))))
 refine Py fun W=>?_
 go_ret
 exact⟨aN Qt,aJ HB W.ok⟩
def zm a b p v h A ε rows w(hm:rows.length<=maxLen)(F:bt w A rows)(av:0<=v)(a0:v<=24)(hh:0<=h)(hh':h<=100)(H:∀r∈rows,(r.length:Int)=v+h):az 266 (je (bC a b) p (aA v h A rows ε)) w fun e w'=>e=.returned (.bool (eU a 0 ((rows:Int)-1)&&(eU b 0 (h-1)&&(((rows.getD a.toNat []).getD (v+b).toNat 0 !=0)&&te rows (v+b).toNat a))))/\ag w w':=by
 have I:Below w w ((w.alloc (.cells (bC a b) 237)).alloc (.cells (aA v h A rows ε) 57)):=((al w w).alloc Qt _).alloc Qt _;have HB:=zH I;have bb:∀W:κ ((w.alloc (.cells (bC a b) 237)).alloc (.cells (aA v h A rows ε) 57)),af W.W w 0 (zI a):=fun W=>W.cell Qt
 have bc:∀W:κ ((w.alloc (.cells (bC a b) 237)).alloc (.cells (aA v h A rows ε) 57)),af W.W w 1 (zI b):=fun W=>W.cell Qt
 have bd:∀W:κ ((w.alloc (.cells (bC a b) 237)).alloc (.cells (aA v h A rows ε) 57)),af W.W ((w:Nat)+1) 0 (zI v):=fun W=>W.cell Qt
 have be:∀W:κ ((w.alloc (.cells (bC a b) 237)).alloc (.cells (aA v h A rows ε) 57)),af W.W ((w:Nat)+1) 1 (zI h):=fun W=>W.cell Qt
 have bg:∀W:κ ((w.alloc (.cells (bC a b) 237)).alloc (.cells (aA v h A rows ε) 57)),af W.W ((w:Nat)+1) 2 (.slice A rows ε):=fun W=>W.cell Qt
 cases h1:eU a 0 ((rows:Int)-1)
 .skip
  go_enter func266,ntmps266
  go_upto_region 1 with(fail)
  refine bU QT QT ?_
  repeat (go_big_quiet_step ((go_at_call_of 247 a;exact Calls.fh (Calls.bl (eI _ _ _ _ _ _ _ hm) h1))))
  exact Xq
 cases h2:eU b 0 (h-1)
 .skip
  exact Zq
 obtain⟨am,a5⟩:0<=b/\b<=h-1:=by simpa[eU]using h2
 obtain⟨a3,a4⟩:0<=a/\a<=(rows:Int)-1:=Sj;have U:a.toNat<rows.length:=Qu;have⟨r,hr⟩:=aq U;obtain⟨D,o,rfl,J⟩:=F.θ U;obtain⟨Z,ao,T,G⟩:=J _ r hr;have a9:∀W:κ ((w.alloc (.cells (bC a b) 237)).alloc (.cells (aA v h (some ⟨D,o,none⟩) rows ε) 57)),af W.W D (o+a.toNat) (.slice Z r ao):=fun W=>ar (aJ HB W.ok) T
 have⟨a2,ad,ac,ab⟩:=gG (fun W:κ ((w.alloc (.cells (bC a b) 237)).alloc (.cells (aA v h (some ⟨D,o,none⟩) rows ε) 57))=>G.ext (aJ HB W.ok)) (Ss:rows.getD a.toNat []=r) (fun W:κ ((w.alloc (.cells (bC a b) 237)).alloc (.cells (aA v h (some ⟨D,o,none⟩) rows ε) 57))=>F.ext (aJ HB W.ok)) H;have ap:=H r (aU hr);have Y:(v+b).toNat<r.length:=Qu;have⟨x,hx⟩:=aq Y;obtain⟨an,a1,rfl,O⟩:=G.θ Y;have ba:∀W:κ ((w.alloc (.cells (bC a b) 237)).alloc (.cells (aA v h (some ⟨D,o,none⟩) rows ε) 57)),af W.W an (a1+(v+b).toNat) (zI x):=fun W=>ar (aJ HB W.ok) (O _ _ hx)
 have ah:=zH (Sr:r.getD (v+b).toNat 0=x);have a7:0<=v+b:=Qu;have a8:v+b < (r:Int):=Qu;rw[ad.o,ah.o];cases a6:(x !=0)
 .skip
  exact Zq
 go_enter func266,ntmps266
 go_upto_region 1 with(fail)
 refine bU QT QT ?_
 repeat (go_big_quiet_step (first|(go_at_call_of 247 a;exact Calls.fh (Calls.bl (eI _ _ _ _ _ _ _ hm) h1))|(go_at_call 269;exact Calls.fh (Calls.bl (mq _ _ _ _ _ hh hh') h2))|(go_at_call 270;exact Calls.fh (EY _ _ _ _ _ _ _ _ (ac.o _) hm av a0 hh' am Qu ab))))
 refine Py fun W=>?_
 go_ret
 exact⟨aN Qt,aJ HB W.ok⟩
def zn a b D F row p v h A ε(rows:aP)w(a2:rows.length<=maxLen)(J:aO w D row)(ad:row.length<=maxLen)(T:0<=v)(a3:v<=24)(O:0<=h)(av:h<=100):az 273 (je (aA a b D row F) p (aA v h A rows ε)) w fun e w'=>e=.returned (.bool (eU a 0 (rows:Int)&&(eU b 0 h&&(jX p row (v+h+1)&&(row.getD (v+b).toNat 0 !=0)))))/\ag w w':=by
 have Z:Below w w ((w.alloc (.cells (aA a b D row F) 239)).alloc (.cells (aA v h A rows ε) 57)):=((al w w).alloc Qt _).alloc Qt _;have HB:=zH Z;have a5:∀W:κ ((w.alloc (.cells (aA a b D row F) 239)).alloc (.cells (aA v h A rows ε) 57)),af W.W w 0 (zI a):=fun W=>W.cell Qt
 have a6:∀W:κ ((w.alloc (.cells (aA a b D row F) 239)).alloc (.cells (aA v h A rows ε) 57)),af W.W w 1 (zI b):=fun W=>W.cell Qt
 have a7:∀W:κ ((w.alloc (.cells (aA a b D row F) 239)).alloc (.cells (aA v h A rows ε) 57)),af W.W w 2 (.slice D row F):=fun W=>W.cell Qt
 have a8:∀W:κ ((w.alloc (.cells (aA a b D row F) 239)).alloc (.cells (aA v h A rows ε) 57)),af W.W ((w:Nat)+1) 0 (zI v):=fun W=>W.cell Qt
 have a9:∀W:κ ((w.alloc (.cells (aA a b D row F) 239)).alloc (.cells (aA v h A rows ε) 57)),af W.W ((w:Nat)+1) 1 (zI h):=fun W=>W.cell Qt
 have ba:∀W:κ ((w.alloc (.cells (aA a b D row F) 239)).alloc (.cells (aA v h A rows ε) 57)),af W.W ((w:Nat)+1) 2 (.slice A rows ε):=fun W=>W.cell Qt
 have U:=zH (fun W:κ ((w.alloc (.cells (aA a b D row F) 239)).alloc (.cells (aA v h A rows ε) 57))=>J.ext (aJ HB W.ok));cases H:eU a 0 (rows:Int)
 .skip
  go_enter func273,ntmps273
  go_upto_region 1 with(fail)
  refine bU QT QT ?_
  repeat (go_big_quiet_step ((go_at_call_of 143 a;exact Calls.dj (Calls.cg (dC _ _ _ _) H))))
  exact Xq
 cases I:eU b 0 h
 .skip
  go_enter func273,ntmps273
  go_upto_region 1 with(fail)
  refine bU QT QT ?_
  repeat (go_big_quiet_step (first|(go_at_call 64;exact Calls.fh (oW v h _ _ T Qu O Qu))|(go_at_call_of 143 a;exact Calls.dj (Calls.cg (dC _ _ _ _) H))|(go_at_call_of 143 b;exact Calls.dj (Calls.cg (dC _ _ _ _) I))))
  exact Xq
 obtain⟨ao,ap⟩:0<=b/\b<=h:=by simpa[eU]using I
 cases G:jX p row (v+h+1)
 .skip
  go_enter func273,ntmps273
  go_upto_region 1 with(fail)
  refine bU QT QT ?_
  repeat (go_big_quiet_step (first|(go_at_call 64;exact Calls.fh (oW v h _ _ T Qu O Qu))|(go_at_call_of 143 a;exact Calls.dj (Calls.cg (dC _ _ _ _) H))|(go_at_call_of 143 b;exact Calls.dj (Calls.cg (dC _ _ _ _) I))|(go_at_call 88;exact Calls.dj (Calls.cg (jO _ _ _ _ _ _ (U.o _) ad) G))))
  exact Xq
 have an:(row:Int)=v+h+1:=by unfold jX at G;rw[bN,cf]at G;exact G.1
 have ac:(v+b).toNat<row.length:=Qu;have⟨x,hx⟩:=aq ac;obtain⟨Y,ah,rfl,ab⟩:=J.θ ac;have a4:∀W:κ ((w.alloc (.cells (aA a b (some ⟨Y,ah,none⟩) row F) 239)).alloc (.cells (aA v h A rows ε) 57)),af W.W Y (ah+(v+b).toNat) (zI x):=fun W=>ar (aJ HB W.ok) (ab _ _ hx)
 have am:=zH (Sr:row.getD (v+b).toNat 0=x);have a0:0<=v+b:=Qu;have a1:v+b < (row:Int):=Qu;rw[am.o];go_enter func273,ntmps273
 go_upto_region 1 with(fail)
 refine bU QT QT ?_
 repeat (go_big_quiet_step (first|(go_at_call 64;exact Calls.fh (oW v h _ _ T Qu O Qu))|(go_at_call_of 143 a;exact Calls.dj (Calls.cg (dC _ _ _ _) H))|(go_at_call_of 143 b;exact Calls.dj (Calls.cg (dC _ _ _ _) I))|(go_at_call 88;exact Calls.dj (Calls.cg (jO _ _ _ _ _ _ (U.o _) ad) G))))
 refine Py fun W=>?_
 go_ret
 exact⟨aN Qt,aJ HB W.ok⟩
end Go.Proofs.YtpieilkmmiopfaaGreatDoor
