/- Parts of the walks. Conditions: as stated with each. -/
import Derived.Test.YtpieilkmmiopfaaGreatDoorPk4
namespace Go.Proofs.YtpieilkmmiopfaaGreatDoor
open Go.RowKit Tryz
set_option linter.all false
set_option maxHeartbeats 8000000
set_option maxRecDepth 100000
variable{A:ax}{B J i j n:Nat}{a:Act}{o:h_}{w:aa}{xs:aL}
section
variable{P:jk}{md:Region.Mode}{ops:iI}{Q:gZ}{S:j4}
def zjz{G}{F}(hr:Region.ready md ops F=[i,j])(ho:ops.toList[i]?=some o)(U:ops.toList[j]?=some G)(O:∀h:pt,Shut (∀a w,(i<n->S w)->((i<n->S w)->tH P md ops Q S n J (F.setIfInBounds i true) a w)->h a w)-> if Region.wanted o (yielded ops a.tmps)=true then Oper.wp P o a w h Q else h (a.put o.dst undef) w)(T:∀h:pt,Shut (∀a w,(j<n->S w)->((j<n->S w)->tH P md ops Q S n J (F.setIfInBounds j true) a w)->h a w)-> if Region.wanted G (yielded ops a.tmps)=true then Oper.wp P G a w h Q else h (a.put G.dst undef) w):tH P md ops Q S n (J+1) F a w:=by
 refine⟨fun h0=>Tc,fun k I=>?_⟩;rw[hr]at I;simp only[et,gJ,gX]at I;rcases I with rfl|rfl
 .exact wpOp_step Sk (fun h hK=>O h (fun a w D H=>hK a w ⟨D,H D⟩))
 .exact wpOp_step (by rw[<-sf];exact U) (fun h hK=>T h (fun a w D H=>hK a w ⟨D,H D⟩))
end
def EL{ε}(D:aE w B (.slice A n ε) xs):(A=none/\xs=[]/\ε=0)∨∃g,A=some ⟨g,0,none⟩:=by
 rcases D.2 with⟨h,F⟩|⟨g,G,H,h,_⟩
 .simp only[ep]at h;exact ay ⟨h.1,iq F,h.2.2⟩
 .simp only[ep]at h;exact au ⟨g,h.1⟩
def zaX(h:aO w A xs)q:aO w A (xs.take q):=YP
def zaY{g ε}(h:aO w (some ⟨g,0,none⟩) xs)(hc:xs.length<=ε)q:∃A:dM,(if ε=q then some (⟨g,0,none⟩:dM) else some ⟨g,q,none⟩)=some A/\aO w (some A) (xs.drop q):=Zk
def ph(w:aa)x:aO (w.alloc (.cells (bK x) 3)) (some ⟨w,0,none⟩) [x]:=by
 refine au ⟨w,0,rfl,fun k y h=>?_⟩
 match k,h with
 |0,h=>
  simp at h;subst h;have:=cell_one_new w (zI x) 3 0 (zI x) rfl;rwa[dF]at this
 |k+1,h=>simp at h
def zjA(p v h a b c:Int)A ε rows w H n O(bb:bt w A rows)(cV:rows.length<=160)(F6:∀r∈rows,r.length<=1000)(c7:0<=v)(c8:v<=1000)(hb:0<=b)(cF:b<=1000)(cI:0<=h)(cK:h<=1000)(Gb:∀r∈rows,v+b<=r.length)(ce:0<=a)(ch:a<=rows.length)row(bc:aO w H row)(bg:n=row.length)(co:row.length<=1048576):az 96 (j_ p (aA v h A rows ε) (uh a b c H n O)) w fun e w'=>∃u,e=.returned (.agg (en v (h+1) u))/\aY w' w u (cT (rows.map (fun r=>cT r (v+b).toNat 0)) a.toNat row)/\ag w w':=by
 have b5:=zH (fun(W:aa) (hW:ag w W)=>(by
  have:=iR H O row W (bc.ext hW) Qu;rw[<-bg]at this;exact this:az 70 (bZ H n O) W fun e w'=>∃u,e=.returned u/\aE w' W u row/\ag W w'))
 clear bc bg co;refine N8 fun q hq Kk H8 Kq Ix=>?_;clear Gb
 refine Qc fun HM F_=>?_
 go_enter func96,pY
 go_wp2_with fail
 refine(kL _ _ _ _ _ _ (bb.ext (((al _ _).alloc Qt _ |>.alloc Qt _).alloc Rs _)) HM F_).x ?_;rintro e w1 ⟨u,rfl,⟨us,hu⟩,I⟩;obtain⟨F,Ga,rfl,_,_,_⟩:=aY.p ⟨us,hu⟩;have⟨bo,bp,bq⟩:=cD w (.cells (aA v h A rows ε) 57) (.cells (uh a b c H n O) 97) (.cells bx 57);have cp:=I.size;simp only[dV]at cp;go_upto_region 2 with(fail)
 have⟨D,FY⟩:=aR (w1.alloc (.cells (aA v h F rows Ga) 57));rw[<-FY];have Gg:ag w1 D:=UP;have Jp:(D:Nat)=w1+1:=Rr;have Z:=aT I Gg;have m2:bA D w1 (aA v h F rows Ga) 57:=TK;have J:=dg Z bo;have k1:=dg Z bp;have ab:=dg Z bq;have bi:bL D ((w:Nat)+3) (.slice F rows Ga) rows us:=(hu.ext Gg).x Qt;have c6:∀g',F=some ⟨g',0,none⟩->g' < (w1:Nat):=fun g' e=>UB
 have cO:∀(k:Nat) (x:aG),us[k]?=some x->∀b,x.ownBlock=some b->b < (w1:Nat):=fun k x hx b hb=>Vk
 have Hj:ag w D:=(ζ w _ _ _).t (Z.x Rs);clear hu I Gg Z bb F6 bo bp bq FY;refine NW fun y0 y1 y2 y3 y4 x0 x1 x2=>?_
 have⟨bu,bv,bz⟩:=aD J;have f1:=aK m2 1;have⟨U,ac,K0,K1,K2,ah⟩:=ny bi Hj J k1 ab m2;clear bi Hj J k1 ab m2;go_upto_region 33 with(fail)
 have⟨a0,Ir⟩:=aR (D.setCell ⟨w1,1,none⟩ (zI (h+1)));rw[<-Ir];have an:=bE D w1 1 _ _ (zI (h+1)) ah;simp only[zA]at an;rw[<-Ir]at an;have ap:∀j,j≠w1.heap.size->a0.heap[j]?=D.heap[j]?:=fun j hj=>TW
 have⟨a9,b6,a8,b7⟩:=gG an ((ap _ Qu).t K0) ((ap _ Qu).t K1) ((ap _ Qu).t K2);have a5:=U.m9 ah (j:=1) (u:=.int .i64 (h+1));rw[<-Ir]at a5;have a1:=ac.setCell (p:=⟨w1,1,none⟩) Rs (zI (h+1));rw[<-Ir]at a1;have c4:(a0:Nat)=w1+1:=TJ;have⟨Is,b1⟩:=bJ a5 a1;have⟨cq,bn⟩:=aR us;rw[<-bn]at Is;clear an ap a5 a1 Ir bn;clear y0 y1 y2 y3 y4 x0 x1 x2 bu bv bz f1;have⟨y0,y1,y2,y3,y4⟩:=fg a8;have⟨x0,x1,x2⟩:=aD a9;go_wp2;go_loopw [202] (fun i wr=>∃k:Nat,k<=rows.length/\i=.int .i64 k/\(∃a6,bL wr ((w:Nat)+3) (.slice F rows Ga) (lE (fun r=>cT r q 0) rows k) a6)/\
   bA wr w1 (aA v (h+1) F rows Ga) 57/\Below ((w:Nat)+3) a0 wr)
  (fun i _=>rows.length-(intOf i).toNat)
 case atStart=>exact⟨0,aW _,rfl,⟨cq,SB⟩,a9,al _ _⟩
 case round=>
  obtain⟨k,hk,rfl,⟨a6,FT⟩,Hh,G⟩:=hrel;clear y0 y1 y2 y3 y4 x0 x1 x2;by_cases be:k<rows.length
  .have⟨r,hr⟩:=aq be;have bh:(lE (fun r=>cT r q 0) rows k)[k]?=some r:=(qj _ _ _ be).t hr;obtain⟨c9,Hc,ao⟩:=FT.F bh;obtain⟨cR,a3⟩:=H8 r (aU hr);obtain⟨b0,cr,rfl,Kd,Kg,_⟩:=ao.p;obtain⟨g,rfl,ci,cj⟩:=mh FT Tf;have He:=FT.η;rw[eJ _ _ _ hk]at He;have z0:af wr g k (.slice b0 r cr):=Ub;refine Mh fun y2=>?_
   have cW:g≠w1.heap.size:=fun e=>XJ
   have f0:=He.g k;have⟨HO,HW,Hf,IC,H_⟩:=pD FT G Hh Hc hr;have cn:q<=r.length:=Qu;have c0:q<=cr:=Qu;have ba:=zaX Kd q;have IT:=zH ba;clear He FT G Hh bh Hc hr ba;rcases EL ao with⟨rfl,rfl,rfl⟩|⟨gr,rfl⟩
   .obtain rfl:q=0:=by simpa using cn
    have ID:=zH (show aO wr none (List.drop 0 ([]:aL)) from ay rfl);simp only[iN]at z0;have Y:((0:Nat):Int)=0:=rfl;rw[Y]at Kq;simp only[Y];clear ao Kd Kg hq Y;have L1:=zH (fun(W:aa) (hW:ag wr W)=>(by
     have:=iR (none) (0) ((([]:aL)).take 0) W (IT.ext hW) Rs;rw[show((([]:aL)).take 0).length=0 by simp<;>omega]at this;exact this:az 70 #[.slice (none) 0 (0)] W fun e w'=>∃u,e=.returned u/\aE w' W u ((([]:aL)).take 0)/\ag W w'))
    exact Z_
   .refine OK fun A9 hA ID L1=>?_;clear ao Kd
    exact Z9
  .have ck:k=rows.length:=Qu;subst ck;rw[qi _ _ _ (ae _)]at FT;have⟨br,av⟩:=aR (rows.map (fun r=>cT r q 0));have a3:br.length=rows:=by rw[av];simp
   rw[<-av]at FT;have⟨ad,b4⟩:=bJ a3 av;clear av a3;have He:=FT.η;rw[ad.o]at He;have J:=(G.block _ Qu).t b6;have k1:=(G.block _ Qu).t a8;have ab:=(G.block _ Qu).t b7;have Kf:=G.size;have⟨y0,y1,y2,y3,y4⟩:=fg k1;have⟨x0,x1,x2⟩:=aD Hh;have Hj:=b1.t (G.x Qu);have⟨U,ac,K0,K1,K2,ah⟩:=ny FT Hj J k1 ab Hh;clear FT Hj J k1 ab Hh G He;go_upto_region 39 with(fail)
   have HS:=zH (show ∀a7,ag wr a7->(fun W:World=>af W w1 2 (.slice F rows Ga)/\af W ((w:Nat)+1) 1 (zI a)/\af W ((w:Nat)+1) 4 (.slice H n O)) a7 from fun a7 hb=>⟨ar hb x2,ar hb y1,ar hb y4⟩);refine cU (S:=(fun W:World=>af W w1 2 (.slice F rows Ga)/\af W ((w:Nat)+1) 1 (zI a)/\af W ((w:Nat)+1) 4 (.slice H n O))) 9 QT (HS.o _ (al _ _).drew) (fun hHeld=>?_);refine Qi ?_;refine cm 6 fun K hK=>?_
   go_simp;refine(b5.o _ ac.drew).x ?_;rintro e ct ⟨u1,rfl,IB,I⟩;obtain⟨A1,c1,rfl,_⟩:=IB.p;have⟨T,b3⟩:=bJ ((al wr wr).drew.t I) IB;clear IB I;go_simp;refine hK.out _ _ (fun _=>HS.o _ T.o) (fun hHeld=>?_);refine Mr fun hHeld=>?_;clear K hK
   refine Ny fun K hK=>?_
   refine(zP ((w:Nat)+3) _ a a6 rows _ _ _ ct (by have h1:=(U.ext T.o).η;rw[ad.o]at h1;exact h1) (rp U) ce ch Qu).x ?_;rintro e wc ⟨v9,rfl,a4,a2⟩;obtain⟨g,Kj,rfl,ci,cj⟩:=pW a4 Qu;have bd:=aJ T.o a2;have c5:=T.o.size;have hW:=U.insert T.o b3 Qu (show a.toNat<=br.length by have:=ad.o;omega) (by rw[ad.o];exact zQ a4 Qu) (gz a2);have⟨Jo,b2⟩:=bJ bd hW;clear bd hW a4 a2;refine Mz fun hHeld=>?_
   refine Mr fun hHeld=>?_;clear K hK
   refine cm 8 fun K hK=>?_
   refine Mz fun hHeld=>?_
   refine Mr fun hHeld=>?_;clear K hK
   have am:=(Jo.block w1 Qu).t ah;have HF:=zH am;have f2:=aK am 2;have⟨z0,cu,z2⟩:=aD am;clear am;refine cm 9 fun K hK=>?_
   go_simp;refine Qn ?_;clear K hK;refine Pp fun IF Iu Iy Iw=>?_
   obtain⟨HO,HE⟩:=bJ (show aY _ ((w:Nat)+3) _ (cT (rows.map (fun r=>cT r q 0)) a.toNat row) from⟨_,(by rw[<-b4.o];have h1:=b2.m9 HF (j:=2) (u:=.slice (bH g) (rows.length+1) Kj);exact h1)⟩) ((aJ ac Jo).setCell (p:=⟨w1,2,none⟩) Rs (.slice (bH g) (rows.length+1) Kj));clear z0 cu z2 y0 y1 y2 y3 y4 x0 x1 x2 f2;have⟨y0,y1,y2,y3,y4⟩:=fg Iy;have⟨bu,bv,bz⟩:=aD Iu;clear Iu Iy;have⟨Y,b8,b9⟩:=cC IF;have⟨ca,cb,cc⟩:=cC Iw;have⟨cz,cA,cB⟩:=cd Iw;simp only[dA,dm]at Y b8 b9 ca cb cc;clear IF Iw;go_wp2;refine aI (v:=.agg (eO v (h+1) (bH g) (rows.length+1) Kj)) TV rfl ⟨_,rfl,?_,?_⟩
   .exact Ym
   .exact X7
def zhO(p v h a b c:Int)A ε rows w ao n bg(av:bt w A rows)(co:rows.length<=160)(F6:∀r∈rows,r.length<=1000)(cz:0<=v)(cA:v<=1000)(hb:0<=b)(cb:b<=1000)(ch:0<=h)(ci:h<=1000)(Gb:∀r∈rows,v+b<=r.length):az 96 #[p,.agg (aA v h A rows ε),.agg (uk a b c ao n bg)] w fun e w'=>∃u,e=.returned (.agg (en v (h+1) u))/\aY w' w u (rows.map (fun r=>cT r (v+b).toNat 0))/\ag w w':=by
 refine N8 fun q hq Kk H8 Kq Ix=>?_;clear Gb
 refine Qc fun HM F_=>?_
 go_enter func96,pY
 go_wp2_with fail
 refine(kL _ _ _ _ _ _ (av.ext (((al _ _).alloc Qt _ |>.alloc Qt _).alloc Rs _)) HM F_).x ?_;rintro e w1 ⟨u,rfl,⟨us,hu⟩,Y⟩;obtain⟨F,Ga,rfl,_,_,_⟩:=aY.p ⟨us,hu⟩;have⟨a8,a9,ba⟩:=cD w (.cells (aA v h A rows ε) 57) (.cells (uk a b c ao n bg) 97) (.cells bx 57);have b6:=Y.size;simp only[dV]at b6;go_upto_region 2 with(fail)
 have⟨D,FY⟩:=aR (w1.alloc (.cells (aA v h F rows Ga) 57));rw[<-FY];have Gg:ag w1 D:=UP;have Jp:(D:Nat)=w1+1:=Rr;have I:=aT Y Gg;have m2:bA D w1 (aA v h F rows Ga) 57:=TK;have ac:=dg I a8;have k1:=dg I a9;have a6:=dg I ba;have a2:bL D ((w:Nat)+3) (.slice F rows Ga) rows us:=(hu.ext Gg).x Qt;have cu:∀g',F=some ⟨g',0,none⟩->g' < (w1:Nat):=fun g' e=>UB
 have cj:∀(k:Nat) (x:aG),us[k]?=some x->∀b,x.ownBlock=some b->b < (w1:Nat):=fun k x hx b hb=>Vk
 have Hj:ag w D:=(ζ w _ _ _).t (I.x Rs);clear hu Y Gg I av F6 a8 a9 ba FY;refine NW fun y0 y1 y2 y3 y4 x0 x1 x2=>?_
 have⟨bb,bc,bd⟩:=aD ac;have f1:=aK m2 1;have⟨bo,bi,bp,br,bu,am⟩:=ny a2 Hj ac k1 a6 m2;clear a2 Hj ac k1 a6 m2;go_upto_region 33 with(fail)
 have⟨U,Ir⟩:=aR (D.setCell ⟨w1,1,none⟩ (zI (h+1)));rw[<-Ir];have J:=bE D w1 1 _ _ (zI (h+1)) am;simp only[zA]at J;rw[<-Ir]at J;have T:∀j,j≠w1.heap.size->U.heap[j]?=D.heap[j]?:=fun j hj=>TW
 have⟨an,bq,ah,bv⟩:=gG J ((T _ Qu).t bp) ((T _ Qu).t br) ((T _ Qu).t bu);have ab:=bo.m9 am (j:=1) (u:=.int .i64 (h+1));rw[<-Ir]at ab;have Z:=bi.setCell (p:=⟨w1,1,none⟩) Rs (zI (h+1));rw[<-Ir]at Z;have ct:(U:Nat)=w1+1:=TJ;have⟨Is,bn⟩:=bJ ab Z;have⟨b7,a3⟩:=aR us;rw[<-a3]at Is;clear J T ab Z Ir a3;clear y0 y1 y2 y3 y4 x0 x1 x2 bb bc bd f1;have⟨y0,y1,y2,y3,y4⟩:=fg ah;have⟨x0,x1,x2⟩:=aD an;go_wp2;go_loopw [202] (fun i wr=>∃k:Nat,k<=rows.length/\i=.int .i64 k/\(∃be,bL wr ((w:Nat)+3) (.slice F rows Ga) (lE (fun r=>cT r q 0) rows k) be)/\
   bA wr w1 (aA v (h+1) F rows Ga) 57/\Below ((w:Nat)+3) U wr)
  (fun i _=>rows.length-(intOf i).toNat)
 case atStart=>exact⟨0,aW _,rfl,⟨b7,SB⟩,an,al _ _⟩
 case round=>
  obtain⟨k,hk,rfl,⟨be,FT⟩,Hh,G⟩:=hrel;clear y0 y1 y2 y3 y4 x0 x1 x2;by_cases a0:k<rows.length
  .have⟨r,hr⟩:=aq a0;have a1:(lE (fun r=>cT r q 0) rows k)[k]?=some r:=(qj _ _ _ a0).t hr;obtain⟨cB,Hc,O⟩:=FT.F a1;obtain⟨ck,cn⟩:=H8 r (aU hr);obtain⟨bh,cr,rfl,Kd,Kg,_⟩:=O.p;obtain⟨g,rfl,cc,ce⟩:=mh FT Tf;have He:=FT.η;rw[eJ _ _ _ hk]at He;have z0:af wr g k (.slice bh r cr):=Ub;refine Mh fun y2=>?_
   have cp:g≠w1.heap.size:=fun e=>XJ
   have f0:=He.g k;have⟨HO,HW,Hf,IC,H_⟩:=pD FT G Hh Hc hr;have b5:q<=r.length:=Qu;have cq:q<=cr:=Qu;have ap:=zaX Kd q;have IT:=zH ap;clear He FT G Hh a1 Hc hr ap;rcases EL O with⟨rfl,rfl,rfl⟩|⟨gr,rfl⟩
   .obtain rfl:q=0:=by simpa using b5
    have ID:=zH (show aO wr none (List.drop 0 ([]:aL)) from ay rfl);simp only[iN]at z0;have H:((0:Nat):Int)=0:=rfl;rw[H]at Kq;simp only[H];clear O Kd Kg hq H;have L1:=zH (fun(W:aa) (hW:ag wr W)=>(by
     have:=iR (none) (0) ((([]:aL)).take 0) W (IT.ext hW) Rs;rw[show((([]:aL)).take 0).length=0 by simp<;>omega]at this;exact this:az 70 #[.slice (none) 0 (0)] W fun e w'=>∃u,e=.returned u/\aE w' W u ((([]:aL)).take 0)/\ag W w'))
    exact Z_
   .refine OK fun A9 hA ID L1=>?_;clear O Kd
    exact Z9
  .have b4:k=rows.length:=Qu;subst b4;rw[qi _ _ _ (ae _)]at FT;have a7:=Hh;have a4:=(G.block _ Qu).t bq;have a5:=(G.block _ Qu).t ah;have ad:=(G.block _ Qu).t bv;have⟨HO,HE⟩:=bJ (show aY wr ((w:Nat)+3) (.slice F rows Ga) (rows.map (fun r=>cT r q 0)) from⟨_,FT⟩) (bn.t (G.x Qu));clear FT G Hh;have⟨y0,y1,y2,y3,y4⟩:=fg a5;have⟨bb,bc,bd⟩:=aD a4;clear a4 a5;have⟨H,bz,b0⟩:=cC a7;have⟨b1,b2,b3⟩:=cC ad;have⟨b8,b9,ca⟩:=cd ad;simp only[dA,dm]at H bz b0 b1 b2 b3;clear a7 ad;go_wp2;refine aI (v:=.agg (aA v (h+1) F rows Ga)) TV rfl ⟨_,rfl,?_,?_⟩
   .exact Ym
   .exact X7
end Go.Proofs.YtpieilkmmiopfaaGreatDoor
