/- Parts of the walks. Conditions: as stated with each. -/
import Derived.Test.YtdpgblncijojiaaGreatDoorPk8
namespace Go.Proofs.YtdpgblncijojiaaGreatDoor
open Go.RowKit Tryz
set_option linter.all false
set_option maxHeartbeats 8000000
set_option maxRecDepth 100000
variable{A:an}{B D i j n:Nat}{RH o:gI}{Z:po}{a:Act}{w:aa}{xs:aG}
section
variable{P:kR}{md:Region.Mode}{ops:iq}{Q:gU}{S:iS}
def zbs(H:Region.ready md ops Z=[i,j])(ho:ops.toList[i]?=some o)(J:ops.toList[j]?=some RH)(h:∀K':mK,Shut (∀a w,(i<n->S w)->((i<n->S w)->rr P md ops Q S n D (Z.setIfInBounds i true) a w)->K' a w)-> if Region.wanted o (yielded ops a.tmps)=true then Oper.wp P o a w K' Q else K' (a.put o.dst undef) w)(h':∀K':mK,Shut (∀a w,(j<n->S w)->((j<n->S w)->rr P md ops Q S n D (Z.setIfInBounds j true) a w)->K' a w)-> if Region.wanted RH (yielded ops a.tmps)=true then Oper.wp P RH a w K' Q else K' (a.put RH.dst undef) w):rr P md ops Q S n (D+1) Z a w:=by
 refine⟨fun I=>(by rw[I]at H;cases H),fun k F=>?_⟩;rw[H]at F;simp only[jh,kp,kJ]at F;rcases F with rfl|rfl
 .exact wpOp_step Tp (fun K' hK=>h K' (fun a w z E=>hK a w ⟨z,E z⟩))
 .exact wpOp_step (by rw[<-qj];exact J) (fun K' hK=>h' K' (fun a w z E=>hK a w ⟨z,E z⟩))
end
def Ee{cap:Nat}(h:ar w B (.slice A n cap) xs):(A=none/\xs=[]/\cap=0)∨∃g,A=some ⟨g,0,none⟩:=by
 rcases h.2 with⟨z,D⟩|⟨g,E,cur,z,_⟩
 .simp only[fO]at z;exact aF ⟨z.1,eS D,z.2.2⟩
 .simp only[fO]at z;exact aA ⟨g,z.1⟩
def Bz(h:aT w A xs)(q:Nat):aT w A (xs.take q):=Y0
def BA{g cap:Nat}(h:aT w (some ⟨g,0,none⟩) xs)(hc:xs.length<=cap)(q:Nat):∃A:dD,(if cap=q then some (⟨g,0,none⟩:dD) else some ⟨g,q,none⟩)=some A/\aT w (some A) (xs.drop q):=Zk
def mu(w:aa)(x:Int):aT (w.alloc (.cells (bg x) 3)) (some ⟨w,0,none⟩) [x]:=by
 refine aA ⟨w,0,rfl,fun k y z=>?_⟩
 match k,z with
 |0,z=>
  simp at z;subst z;have:=cell_one_new w (zI x) 3 0 (zI x) rfl;rwa[dM]at this
 |k+1,z=>simp at z
def zfI(p v h a b c:Int)(A:an)(cap:Nat)(rows:aE)(w:aa)(I:an)(n ac:Nat)(ch:aX w A rows)(e9:rows.length<=160)(Et:∀r∈rows,r.length<=1000)(fn:0<=v)(fo:v<=1000)(hb:0<=b)(e4:b<=1000)(e5:0<=h)(e6:h<=1000)(Ev:∀r∈rows,v+b<=r.length)(d8:0<=a)(d9:a<=rows.length)(row:aG)(ci:aT w I row)(co:n=row.length)(em:row.length<=1048576):aw 37 (dR p (ae v h A rows cap) (ka a b c I n ac)) w fun e w'=>∃u,e=.returned (.agg (dE v (h+1) u))/\aJ w' w u (bK (rows.map (fun r=>bK r (v+b).toNat 0)) a.toNat row)/\ai w w':=by
 have d0:=zH (fun(W:aa) (E:ai w W)=>(by
  have:=iH I ac row W (ci.ext E) RU;rw[<-co]at this;exact this:aw 80 (eG I n ac) W fun e w'=>∃u,e=.returned u/\ar w' W u row/\ai W w'))
 clear ci co em;obtain⟨q,ei⟩:=fX (RU:0<=v+b);have ek:(v+b).toNat=q:=RU;rw[ek];have c9:=zH (show ∀r∈rows,(q:Int)<=r.length/\r.length<=1000 from fun r hr=>⟨Uo,Et r hr⟩);clear Ev;have eo:IntKind.i64.wrap (v+b)=(q:Int):=SQ;have fs:IntKind.i64.wrap (h+1)=h+1:=SQ;obtain⟨da,db⟩:=bS (RU:rows.length<=1048576) (show ∀r∈rows,r.length<=1048576 from fun r hr=>Uf);go_enter func37,m8
 go_wp2_with fail
 refine(iF _ _ _ _ _ _ (ch.ext (((aj _ _).alloc RS _ |>.alloc RS _).alloc SJ _)) da db).mono ?_;rintro e w1 ⟨u,rfl,⟨us,hu⟩,Y⟩;obtain⟨D,ET,rfl,_,_,_⟩:=aJ.view ⟨us,hu⟩;obtain⟨cI,cO,cR⟩:=cA w (.cells (ae v h A rows cap) 26) (.cells (ka a b c I n ac) 29) (.cells aQ 26);have en:=Y.size;simp only[cg]at en;go_upto_region 2 with(fail)
 obtain⟨z,En⟩:=aO (w1.alloc (.cells (ae v h D rows ET) 26));rw[<-En];have Gw:ai w1 z:=Wc;have FI:(z:Nat)=w1+1:=SH;have a1:=cC Y Gw;have bm:aU z w1 (ae v h D rows ET) 26:=UF;have Z:=cD a1 cI;have O:=cD a1 cO;have a2:=cD a1 cR;have cu:bh z ((w:Nat)+3) (.slice D rows ET) rows us:=(hu.ext Gw).mono RS;have fl:∀g',D=some ⟨g',0,none⟩->g' < (w1:Nat):=fun g' e=>VT
 have e7:∀(k:Nat) (x:au),us[k]?=some x->∀b,x.ownBlock=some b->b < (w1:Nat):=fun k x hx b hb=>Wy
 have Gz:ai w z:=(below_alloc3 w _ _ _).trans (a1.mono SJ);clear hu Y Gw a1 ch Et cI cO cR En;obtain⟨ad,R,y2,am,U⟩:=bH O;obtain⟨a3,a4,ab⟩:=aq bm;obtain⟨c4,c5,c6⟩:=aq Z;have f1:=aP bm 1;obtain⟨ap,a5,bo,bp,br,a8⟩:=mA cu Gz Z O a2 bm;clear cu Gz Z O a2 bm;go_upto_region 33 with(fail)
 obtain⟨bv,Fl⟩:=aO (z.setCell ⟨w1,1,none⟩ (zI (h+1)));rw[<-Fl];have bb:=bs z w1 1 _ _ (zI (h+1)) a8;simp only[zA]at bb;rw[<-Fl]at bb;have be:∀j,j≠w1.heap.size->bv.heap[j]?=z.heap[j]?:=fun j hj=>UW
 obtain⟨cb,d1,ca,d2⟩:=fU bb ((be _ RU).trans bo) ((be _ RU).trans bp) ((be _ RU).trans br);have b3:=ap.jd a8 (j:=1) (u:=.int .i64 (h+1));rw[<-Fl]at b3;have bz:=a5.setCell (p:=⟨w1,1,none⟩) SJ (zI (h+1));rw[<-Fl]at bz;have fd:(bv:Nat)=w1+1:=UE;obtain⟨Fm,c8⟩:=bS b3 bz;obtain⟨es,cy⟩:=aO us;rw[<-cy]at Fm;clear bb be b3 bz Fl cy;clear ad R y2 am U a3 a4 ab c4 c5 c6 f1;obtain⟨ad,R,y2,am,U⟩:=bH ca;obtain⟨a3,a4,ab⟩:=aq cb;go_wp2;go_loopw [202] (fun i wr=>∃k:Nat,k<=rows.length/\i=.int .i64 k/\(∃b6,bh wr ((w:Nat)+3) (.slice D rows ET) (jR (fun r=>bK r q 0) rows k) b6)/\
   aU wr w1 (ae v (h+1) D rows ET) 26/\Below ((w:Nat)+3) bv wr)
  (fun i _=>rows.length-(intOf i).toNat)
 case atStart=>exact⟨0,bf _,rfl,⟨es,TG⟩,cb,aj _ _⟩
 case round=>
  obtain⟨k,hk,rfl,⟨b6,Eo⟩,EZ,F⟩:=hrel;clear ad R y2 am U a3 a4 ab;by_cases cn:k<rows.length
  .obtain⟨r,hr⟩:=aB cn;have ct:(jR (fun r=>bK r q 0) rows k)[k]?=some r:=(ns _ _ _ cn).trans hr;obtain⟨fz,EX,bd⟩:=Eo.get ct;obtain⟨e8,b1⟩:=c9 r (a_ hr);obtain⟨c7,cr,rfl,ba,ck,_⟩:=bd.view;obtain⟨g,rfl,ea,eb⟩:=ks Eo Ue;have EY:=Eo.outer;rw[dW _ _ _ hk]at EY;have z0:ah wr g k (.slice c7 r cr):=Vi;have y2:ah wr w1 2 (.slice (aY g) rows ET):=aW EZ 2;have fa:g≠w1.heap.size:=fun e=>Yc
   have f0:=EY.frozenAt k;obtain⟨HO,HW,Fo,Gq,Gx⟩:=lv Eo F EZ EX hr;have ej:q<=r.length:=RU;have fb:q<=cr:=RU;have ce:=Bz ba q;have b9:=zH ce;clear EY Eo F EZ ct EX hr ce;rcases Ee bd with⟨rfl,rfl,rfl⟩|⟨gr,rfl⟩
   .obtain rfl:q=0:=by simpa using ej
    have ID:=zH (show aT wr none (List.drop 0 ([]:aG)) from aF rfl);simp only[ix]at z0;have a0:((0:Nat):Int)=0:=rfl;rw[a0]at eo;simp only[a0];clear bd ba ck ei a0;have L1:=zH (fun(W:aa) (E:ai wr W)=>(by
     have:=iH (none) (0) ((([]:aG)).take 0) W (b9.ext E) SJ;rw[show((([]:aG)).take 0).length=0 by simp<;>omega]at this;exact this:aw 80 #[.slice (none) 0 (0)] W fun e w'=>∃u,e=.returned u/\ar w' W u ((([]:aG)).take 0)/\ai W w'))
    exact Z_
   .obtain⟨A9,e3,cc⟩:=BA ba ck q;have ID:=zH cc;clear bd ba cc;have L1:=zH (fun(W:aa) (E:ai wr W)=>(by
     have:=iH (some ⟨gr,0,none⟩) (cr) ((r).take q) W (b9.ext E) SJ;rw[show((r).take q).length=q by simp<;>omega]at this;exact this:aw 80 (eG (aY gr) q (cr)) W fun e w'=>∃u,e=.returned u/\ar w' W u ((r).take q)/\ai W w'))
    exact Z9
  .have eg:k=rows.length:=RU;subst eg;rw[nr _ _ _ (ag _)]at Eo;obtain⟨c0,bi⟩:=aO (rows.map (fun r=>bK r q 0));have b1:c0.length=rows:=by rw[bi];simp
   rw[<-bi]at Eo;obtain⟨a6,dT⟩:=bS b1 bi;clear bi b1;have EY:=Eo.outer;rw[a6.o]at EY;have Z:=(F.block _ RU).trans d1;have O:=(F.block _ RU).trans ca;have a2:=(F.block _ RU).trans d2;have Gg:=F.size;obtain⟨ad,R,y2,am,U⟩:=bH O;obtain⟨a3,a4,ab⟩:=aq EZ;have Gz:=c8.trans (F.mono RU);obtain⟨ap,a5,bo,bp,br,a8⟩:=mA Eo Gz Z O a2 EZ;clear Eo Gz Z O a2 EZ F EY;go_upto_region 39 with(fail)
   have a7:=zH (show ∀b7,ai wr b7->(fun W:World=>ah W w1 2 (.slice D rows ET)/\ah W ((w:Nat)+1) 1 (zI a)/\ah W ((w:Nat)+1) 4 (.slice I n ac)) b7 from fun b7 hb=>⟨av hb ab,av hb R,av hb U⟩);refine bJ (S:=(fun W:World=>ah W w1 2 (.slice D rows ET)/\ah W ((w:Nat)+1) 1 (zI a)/\ah W ((w:Nat)+1) 4 (.slice I n ac))) 9 Si (a7.o _ (aj _ _).drew) (fun hHeld=>?_);refine aC 0 ?_;refine aC 1 ?_;refine aC 2 ?_;refine aC 3 ?_;refine aC 4 ?_;refine aC 5 ?_;refine bM 6 fun K hK=>?_
   go_simp;refine(d0.o _ a5.drew).mono ?_;rintro e ev ⟨u1,rfl,Gl,Y⟩;obtain⟨A1,c1,rfl,_⟩:=Gl.view;obtain⟨ao,dl⟩:=bS ((aj wr wr).drew.trans Y) Gl;clear Gl Y;go_simp;refine hK.out _ _ (fun _=>a7.o _ ao.o) (fun hHeld=>?_);clear hK K;try simp only[Act.put,zA]
   have hHeld:=hHeld RX;refine bM 7 fun K hK=>?_
   go_simp;refine(ug ((w:Nat)+3) _ a b6 rows _ _ _ ev (by have h1:=(ap.ext ao).outer;rw[a6.o]at h1;exact h1) (oh ap) d8 d9 RU).mono ?_;rintro e wc ⟨f3,rfl,b2,b0⟩;obtain⟨g,J,rfl,ea,eb⟩:=kG b2 RU;have cj:=af ao b0;have fi:=ao.size;have E:=ap.insert ao dl RU (show a.toNat<=c0.length by have:=a6.o;omega) (by rw[a6.o];exact uh b2 RU) (fw b0);obtain⟨H,dc⟩:=bS cj E;clear cj E b2 b0;go_simp;refine hK.out _ _ (fun _=>a7.o _ H.o) (fun hHeld=>?_);clear hK K;try simp only[Act.put,zA]
   have hHeld:=hHeld RX;refine bM 8 fun K hK=>?_
   go_simp;refine hK.out _ _ (fun _=>a7.o _ H.o) (fun hHeld=>?_);clear hK K;try simp only[Act.put,zA]
   have hHeld:=hHeld RX;have a9:=(H.o.block w1 RU).trans a8;have b8:=zH a9;have f2:=aP a9 2;obtain⟨z0,eA,z2⟩:=aq a9;clear a9;refine bM 9 fun K hK=>?_
   go_simp;refine hK.out _ _ (fun h=>absurd h RX) (fun _=>?_);clear hK K;try simp only[Act.put,zA]
   refine eC Si ?_ _;have b5:=bs wc w1 2 _ _ (.slice (aY g) (rows.length+1) J) b8;simp only[zA]at b5;have cz:=(cm wc ⟨w1,2,none⟩ w (.slice (aY g) (rows.length+1) J) SJ).trans ((H.o.block _ RU).trans bo);have cF:=(cm wc ⟨w1,2,none⟩ ((w:Nat)+1) (.slice (aY g) (rows.length+1) J) SJ).trans ((H.o.block _ RU).trans bp);have b4:=(cm wc ⟨w1,2,none⟩ ((w:Nat)+1+1) (.slice (aY g) (rows.length+1) J) SJ).trans ((H.o.block _ RU).trans br);obtain⟨HO,HE⟩:=bS (show aJ _ ((w:Nat)+3) _ (bK (rows.map (fun r=>bK r q 0)) a.toNat row) from⟨_,(by rw[<-dT.o];have h1:=dc.jd b8 (j:=2) (u:=.slice (aY g) (rows.length+1) J);exact h1)⟩) ((af a5 H.o).setCell (p:=⟨w1,2,none⟩) SJ (.slice (aY g) (rows.length+1) J));clear z0 eA z2 ad R y2 am U a3 a4 ab f2;obtain⟨ad,R,y2,am,U⟩:=bH cF;obtain⟨c4,c5,c6⟩:=aq cz;clear cz cF;obtain⟨a0,d3,d4⟩:=bT b5;obtain⟨d5,d6,d7⟩:=bT b4;obtain⟨e0,e1,e2⟩:=bU b4;simp only[dt,cZ]at a0 d3 d4 d5 d6 d7;clear b5 b4;go_wp2;refine ax (v:=.agg (dj v (h+1) (aY g) (rows.length+1) J)) UU rfl ⟨_,rfl,?_,?_⟩
   .exact YD
   .exact Yq
def zdI(p v h a b c:Int)(A:an)(cap:Nat)(rows:aE)(w:aa)(bb:an)(n ca:Nat)(bi:aX w A rows)(d7:rows.length<=160)(Et:∀r∈rows,r.length<=1000)(eg:0<=v)(ei:v<=1000)(hb:0<=b)(dT:b<=1000)(d2:0<=h)(d3:h<=1000)(Ev:∀r∈rows,v+b<=r.length):aw 37 (dR p (ae v h A rows cap) (kb a b c bb n ca)) w fun e w'=>∃u,e=.returned (.agg (dE v (h+1) u))/\aJ w' w u (rows.map (fun r=>bK r (v+b).toNat 0))/\ai w w':=by
 obtain⟨q,c4⟩:=fX (RU:0<=v+b);have c6:(v+b).toNat=q:=RU;rw[c6];have ch:=zH (show ∀r∈rows,(q:Int)<=r.length/\r.length<=1000 from fun r hr=>⟨Uo,Et r hr⟩);clear Ev;have c8:IntKind.i64.wrap (v+b)=(q:Int):=SQ;have ej:IntKind.i64.wrap (h+1)=h+1:=SQ;obtain⟨ci,cj⟩:=bS (RU:rows.length<=1048576) (show ∀r∈rows,r.length<=1048576 from fun r hr=>Uf);go_enter func37,m8
 go_wp2_with fail
 refine(iF _ _ _ _ _ _ (bi.ext (((aj _ _).alloc RS _ |>.alloc RS _).alloc SJ _)) ci cj).mono ?_;rintro e w1 ⟨u,rfl,⟨us,hu⟩,ao⟩;obtain⟨D,ET,rfl,_,_,_⟩:=aJ.view ⟨us,hu⟩;obtain⟨b3,b4,b5⟩:=cA w (.cells (ae v h A rows cap) 26) (.cells (kb a b c bb n ca) 29) (.cells aQ 26);have c7:=ao.size;simp only[cg]at c7;go_upto_region 2 with(fail)
 obtain⟨z,En⟩:=aO (w1.alloc (.cells (ae v h D rows ET) 26));rw[<-En];have Gw:ai w1 z:=Wc;have FI:(z:Nat)=w1+1:=SH;have H:=cC ao Gw;have U:aU z w1 (ae v h D rows ET) 26:=UF;have a1:=cD H b3;have a2:=cD H b4;have b1:=cD H b5;have br:bh z ((w:Nat)+3) (.slice D rows ET) rows us:=(hu.ext Gw).mono RS;have eb:∀g',D=some ⟨g',0,none⟩->g' < (w1:Nat):=fun g' e=>VT
 have d4:∀(k:Nat) (x:au),us[k]?=some x->∀b,x.ownBlock=some b->b < (w1:Nat):=fun k x hx b hb=>Wy
 have Gz:ai w z:=(below_alloc3 w _ _ _).trans (H.mono SJ);clear hu ao Gw H bi Et b3 b4 b5 En;obtain⟨Y,Z,y2,ab,ac⟩:=bH a2;obtain⟨a4,a5,a6⟩:=aq U;obtain⟨b6,b7,b8⟩:=aq a1;have f1:=aP U 1;obtain⟨ck,cc,cn,ct,cu,a9⟩:=mA br Gz a1 a2 b1 U;clear br Gz a1 a2 b1 U;go_upto_region 33 with(fail)
 obtain⟨ad,Fl⟩:=aO (z.setCell ⟨w1,1,none⟩ (zI (h+1)));rw[<-Fl];have J:=bs z w1 1 _ _ (zI (h+1)) a9;simp only[zA]at J;rw[<-Fl]at J;have R:∀j,j≠w1.heap.size->ad.heap[j]?=z.heap[j]?:=fun j hj=>UW
 obtain⟨ba,co,a8,cy⟩:=fU J ((R _ RU).trans cn) ((R _ RU).trans ct) ((R _ RU).trans cu);have a0:=ck.jd a9 (j:=1) (u:=.int .i64 (h+1));rw[<-Fl]at a0;have ap:=cc.setCell (p:=⟨w1,1,none⟩) SJ (zI (h+1));rw[<-Fl]at ap;have ea:(ad:Nat)=w1+1:=UE;obtain⟨Fm,ce⟩:=bS a0 ap;obtain⟨c9,bv⟩:=aO us;rw[<-bv]at Fm;clear J R a0 ap Fl bv;clear Y Z y2 ab ac a4 a5 a6 b6 b7 b8 f1;obtain⟨Y,Z,y2,ab,ac⟩:=bH a8;obtain⟨a4,a5,a6⟩:=aq ba;go_wp2;go_loopw [202] (fun i wr=>∃k:Nat,k<=rows.length/\i=.int .i64 k/\(∃b9,bh wr ((w:Nat)+3) (.slice D rows ET) (jR (fun r=>bK r q 0) rows k) b9)/\
   aU wr w1 (ae v (h+1) D rows ET) 26/\Below ((w:Nat)+3) ad wr)
  (fun i _=>rows.length-(intOf i).toNat)
 case atStart=>exact⟨0,bf _,rfl,⟨c9,TG⟩,ba,aj _ _⟩
 case round=>
  obtain⟨k,hk,rfl,⟨b9,Eo⟩,EZ,E⟩:=hrel;clear Y Z y2 ab ac a4 a5 a6;by_cases bo:k<rows.length
  .obtain⟨r,hr⟩:=aB bo;have bp:(jR (fun r=>bK r q 0) rows k)[k]?=some r:=(ns _ _ _ bo).trans hr;obtain⟨ek,EX,O⟩:=Eo.get bp;obtain⟨d5,d6⟩:=ch r (a_ hr);obtain⟨cb,cr,rfl,I,bm,_⟩:=O.view;obtain⟨g,rfl,d0,d1⟩:=ks Eo Ue;have EY:=Eo.outer;rw[dW _ _ _ hk]at EY;have z0:ah wr g k (.slice cb r cr):=Vi;have y2:ah wr w1 2 (.slice (aY g) rows ET):=aW EZ 2;have d8:g≠w1.heap.size:=fun e=>Yc
   have f0:=EY.frozenAt k;obtain⟨HO,HW,Fo,Gq,Gx⟩:=lv Eo E EZ EX hr;have c5:q<=r.length:=RU;have d9:q<=cr:=RU;have be:=Bz I q;have a7:=zH be;clear EY Eo E EZ bp EX hr be;rcases Ee O with⟨rfl,rfl,rfl⟩|⟨gr,rfl⟩
   .obtain rfl:q=0:=by simpa using c5
    have ID:=zH (show aT wr none (List.drop 0 ([]:aG)) from aF rfl);simp only[ix]at z0;have F:((0:Nat):Int)=0:=rfl;rw[F]at c8;simp only[F];clear O I bm c4 F;have L1:=zH (fun(W:aa) (am:ai wr W)=>(by
     have:=iH (none) (0) ((([]:aG)).take 0) W (a7.ext am) SJ;rw[show((([]:aG)).take 0).length=0 by simp<;>omega]at this;exact this:aw 80 #[.slice (none) 0 (0)] W fun e w'=>∃u,e=.returned u/\ar w' W u ((([]:aG)).take 0)/\ai W w'))
    exact Z_
   .obtain⟨A9,dl,bd⟩:=BA I bm q;have ID:=zH bd;clear O I bd;have L1:=zH (fun(W:aa) (am:ai wr W)=>(by
     have:=iH (some ⟨gr,0,none⟩) (cr) ((r).take q) W (a7.ext am) SJ;rw[show((r).take q).length=q by simp<;>omega]at this;exact this:aw 80 (eG (aY gr) q (cr)) W fun e w'=>∃u,e=.returned u/\ar w' W u ((r).take q)/\ai W w'))
    exact Z9
  .have c0:k=rows.length:=RU;subst c0;rw[nr _ _ _ (ag _)]at Eo;have b2:=EZ;have bz:=(E.block _ RU).trans co;have b0:=(E.block _ RU).trans a8;have a3:=(E.block _ RU).trans cy;obtain⟨HO,HE⟩:=bS (show aJ wr ((w:Nat)+3) (.slice D rows ET) (rows.map (fun r=>bK r q 0)) from⟨_,Eo⟩) (ce.trans (E.mono RU));clear Eo E EZ;obtain⟨Y,Z,y2,ab,ac⟩:=bH b0;obtain⟨b6,b7,b8⟩:=aq bz;clear bz b0;obtain⟨F,cz,cF⟩:=bT b2;obtain⟨cI,cO,cR⟩:=bT a3;obtain⟨da,db,dc⟩:=bU a3;simp only[dt,cZ]at F cz cF cI cO cR;clear b2 a3;go_wp2;refine ax (v:=.agg (ae v (h+1) D rows ET)) UU rfl ⟨_,rfl,?_,?_⟩
   .exact YD
   .exact Yq
end Go.Proofs.YtdpgblncijojiaaGreatDoor
