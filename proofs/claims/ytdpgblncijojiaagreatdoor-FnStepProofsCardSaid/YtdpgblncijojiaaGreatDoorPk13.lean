/- Parts of the walks. Conditions: as stated with each. -/
import Derived.Test.YtdpgblncijojiaaGreatDoorPk4
import Derived.Test.YtdpgblncijojiaaGreatDoorPk5
namespace Go.Proofs.YtdpgblncijojiaaGreatDoor
open Go.RowKit Tryz
set_option linter.all false
set_option maxHeartbeats 8000000
set_option maxRecDepth 100000
variable{A:aq}{D i j n:Nat}{Rm o:ie}{Rt:pV}{a:Act}{w:aa}{xs:aH}
section
variable{P:lk}{md:Region.Mode}{ops:iF}{Q:ir}{S:iQ}
def zb0(F:Region.ready md ops Rt=[i,j])(ho:ops.toList[i]?=some o)(I:ops.toList[j]?=some Rm)(h:∀K':oS,Shut (∀a w,(i<n->S w)->((i<n->S w)->r7 P md ops Q S n D (Rt.setIfInBounds i true) a w)->K' a w)-> if Region.wanted o (yielded ops a.tmps)=true then Oper.wp P o a w K' Q else K' (a.put o.dst undef) w)(h':∀K':oS,Shut (∀a w,(j<n->S w)->((j<n->S w)->r7 P md ops Q S n D (Rt.setIfInBounds j true) a w)->K' a w)-> if Region.wanted Rm (yielded ops a.tmps)=true then Oper.wp P Rm a w K' Q else K' (a.put Rm.dst undef) w):r7 P md ops Q S n (D+1) Rt a w:=by
 refine⟨fun H=>(by rw[H]at F;cases F),fun k E=>?_⟩;rw[F]at E;simp only[jq,kC,kY]at E;rcases E with rfl|rfl
 .exact wpOp_step S6 (fun K' hK=>h K' (fun a w z B=>hK a w ⟨z,B z⟩))
 .exact wpOp_step (by rw[<-qM];exact I) (fun K' hK=>h' K' (fun a w z B=>hK a w ⟨z,B z⟩))
end
def zaD{cap:Nat}(h:au w D (.slice A n cap) xs):(A=none/\xs=[]/\cap=0)∨∃g,A=some ⟨g,0,none⟩:=by
 rcases h.2 with⟨z,B⟩|⟨g,E,cur,z,_⟩
 .simp only[ez]at z;exact aG ⟨z.1,fw B,z.2.2⟩
 .simp only[ez]at z;exact aB ⟨g,z.1⟩
def xA(h:aU w A xs)(q:Nat):aU w A (xs.take q):=YR
def Cf{g cap:Nat}(h:aU w (some ⟨g,0,none⟩) xs)(hc:xs.length<=cap)(q:Nat):∃A:dw,(if cap=q then some (⟨g,0,none⟩:dw) else some ⟨g,q,none⟩)=some A/\aU w (some A) (xs.drop q):=Zg
def mN(w:aa)(x:Int):aU (w.alloc (.cells (bc x) 3)) (some ⟨w,0,none⟩) [x]:=by
 refine aB ⟨w,0,rfl,fun k y z=>?_⟩
 match k,z with
 |0,z=>
  simp at z;subst z;have:=cell_one_new w (zI x) 3 0 (zI x) rfl;rwa[dy]at this
 |k+1,z=>simp at z
def zgb(p v h a b c:Int)(A:aq)(cap:Nat)(rows:aC)(w:aa)(H:aq)(n ab:Nat)(ce:aL w A rows)(e8:rows.length<=160)(Ew:∀r∈rows,r.length<=1000)(fn:0<=v)(fo:v<=1000)(hb:0<=b)(e3:b<=1000)(e4:0<=h)(e5:h<=1000)(Ex:∀r∈rows,v+b<=r.length)(d8:0<=a)(d9:a<=rows.length)(row:aH)(ch:aU w H row)(co:n=row.length)(ek:row.length<=1048576):ax 37 (dI p (ae v h A rows cap) (kp a b c H n ab)) w fun e w'=>∃u,e=.returned (.agg (dz v (h+1) u))/\aI w' w u (bK (rows.map (fun r=>bK r (v+b).toNat 0)) a.toNat row)/\aj w w':=by
 have d0:=zH (fun(W:aa) (D:aj w W)=>(by
  have:=ig H ab row W (ch.ext D) Ry;rw[<-co]at this;exact this:ax 80 (ey H n ab) W fun e w'=>∃u,e=.returned u/\au w' W u row/\aj W w'))
 clear ch co ek;obtain⟨q,eg⟩:=fW (Ry:0<=v+b);have ej:(v+b).toNat=q:=Ry;rw[ej];have c9:=zH (show ∀r∈rows,(q:Int)<=r.length/\r.length<=1000 from fun r hr=>⟨T9,Ew r hr⟩);clear Ex;have en:IntKind.i64.wrap (v+b)=(q:Int):=Sq;have fs:IntKind.i64.wrap (h+1)=h+1:=Sq;obtain⟨da,db⟩:=bL (Ry:rows.length<=1048576) (show ∀r∈rows,r.length<=1048576 from fun r hr=>TZ);go_enter func37,nr
 go_wp2_with fail
 refine(ix _ _ _ _ _ _ (ce.ext (((ai _ _).alloc Rx _ |>.alloc Rx _).alloc Sn _)) da db).mono ?_;rintro e w1 ⟨u,rfl,⟨us,hu⟩,T⟩;obtain⟨B,EV,rfl,_,_,_⟩:=aI.view ⟨us,hu⟩;obtain⟨cK,cO,cR⟩:=cv w (.cells (ae v h A rows cap) 26) (.cells (kp a b c H n ab) 29) (.cells aQ 26);have em:=T.size;simp only[cx]at em;go_upto_region 2 with(fail)
 obtain⟨z,Er⟩:=aK (w1.alloc (.cells (ae v h B rows EV) 26));rw[<-Er];have GP:aj w1 z:=VH;have FU:(z:Nat)=w1+1:=So;have a0:=bQ T GP;have bi:aW z w1 (ae v h B rows EV) 26:=Um;have U:=cp a0 cK;have J:=cp a0 cO;have a1:=cp a0 cR;have cu:a_ z ((w:Nat)+3) (.slice B rows EV) rows us:=(hu.ext GP).mono Rx;have fl:∀g',B=some ⟨g',0,none⟩->g' < (w1:Nat):=fun g' e=>Vy
 have e6:∀(k:Nat) (x:av),us[k]?=some x->∀b,x.ownBlock=some b->b < (w1:Nat):=fun k x hx b hb=>Wi
 have GS:aj w z:=(below_alloc3 w _ _ _).trans (a0.mono Sn);clear hu T GP a0 ce Ew cK cO cR Er;obtain⟨ac,O,y2,ad,R⟩:=bO J;obtain⟨a2,a3,Z⟩:=al bi;obtain⟨c4,c5,c6⟩:=al U;have f1:=aS bi 1;obtain⟨ao,a4,bm,bo,bp,a7⟩:=lq cu GS U J a1 bi;clear cu GS U J a1 bi;go_upto_region 33 with(fail)
 obtain⟨br,Fv⟩:=aK (z.setCell ⟨w1,1,none⟩ (zI (h+1)));rw[<-Fv];have ba:=bw z w1 1 _ _ (zI (h+1)) a7;simp only[zA]at ba;rw[<-Fv]at ba;have bd:∀j,j≠w1.heap.size->br.heap[j]?=z.heap[j]?:=fun j hj=>Uz
 obtain⟨ca,d1,b9,d2⟩:=fS ba ((bd _ Ry).trans bm) ((bd _ Ry).trans bo) ((bd _ Ry).trans bp);have b2:=ao.jk a7 (j:=1) (u:=.int .i64 (h+1));rw[<-Fv]at b2;have bv:=a4.setCell (p:=⟨w1,1,none⟩) Sn (zI (h+1));rw[<-Fv]at bv;have fb:(br:Nat)=w1+1:=Ul;obtain⟨Fw,c8⟩:=bL b2 bv;obtain⟨eo,cz⟩:=aK us;rw[<-cz]at Fw;clear ba bd b2 bv Fv cz;clear ac O y2 ad R a2 a3 Z c4 c5 c6 f1;obtain⟨ac,O,y2,ad,R⟩:=bO b9;obtain⟨a2,a3,Z⟩:=al ca;go_wp2;go_loopw [202] (fun i wr=>∃k:Nat,k<=rows.length/\i=.int .i64 k/\(∃b5,a_ wr ((w:Nat)+3) (.slice B rows EV) (j1 (fun r=>bK r q 0) rows k) b5)/\
   aW wr w1 (ae v (h+1) B rows EV) 26/\Below ((w:Nat)+3) br wr)
  (fun i _=>rows.length-(intOf i).toNat)
 case atStart=>exact⟨0,aT _,rfl,⟨eo,Tp⟩,ca,ai _ _⟩
 case round=>
  obtain⟨k,hk,rfl,⟨b5,Es⟩,E6,E⟩:=hrel;clear ac O y2 ad R a2 a3 Z;by_cases cn:k<rows.length
  .obtain⟨r,hr⟩:=aw cn;have ct:(j1 (fun r=>bK r q 0) rows k)[k]?=some r:=(nN _ _ _ cn).trans hr;obtain⟨fz,E4,bb⟩:=Es.get ct;obtain⟨e7,b0⟩:=c9 r (aR hr);obtain⟨c7,cr,rfl,a9,cj,_⟩:=bb.view;obtain⟨g,rfl,ea,eb⟩:=kH Es TY;have E5:=Es.outer;rw[dO _ _ _ hk]at E5;have z0:af wr g k (.slice c7 r cr):=U0;have y2:af wr w1 2 (.slice (aX g) rows EV):=aV E6 2;have e9:g≠w1.heap.size:=fun e=>XW
   have f0:=E5.frozenAt k;obtain⟨HO,HW,Fx,GK,GQ⟩:=l_ Es E E6 E4 hr;have ei:q<=r.length:=Ry;have fa:q<=cr:=Ry;have cc:=xA a9 q;have b8:=zH cc;clear E5 Es E E6 ct E4 hr cc;rcases zaD bb with⟨rfl,rfl,rfl⟩|⟨gr,rfl⟩
   .obtain rfl:q=0:=by simpa using ei
    have ID:=zH (show aU wr none (List.drop 0 ([]:aH)) from aG rfl);simp only[h_]at z0;have ap:((0:Nat):Int)=0:=rfl;rw[ap]at en;simp only[ap];clear bb a9 cj eg ap;have L1:=zH (fun(W:aa) (D:aj wr W)=>(by
     have:=ig (none) (0) ((([]:aH)).take 0) W (b8.ext D) Sn;rw[show((([]:aH)).take 0).length=0 by simp<;>omega]at this;exact this:ax 80 #[.slice (none) 0 (0)] W fun e w'=>∃u,e=.returned u/\au w' W u ((([]:aH)).take 0)/\aj W w'))
    exact Z_
   .obtain⟨A9,e2,cb⟩:=Cf a9 cj q;have ID:=zH cb;clear bb a9 cb;have L1:=zH (fun(W:aa) (D:aj wr W)=>(by
     have:=ig (some ⟨gr,0,none⟩) (cr) ((r).take q) W (b8.ext D) Sn;rw[show((r).take q).length=q by simp<;>omega]at this;exact this:ax 80 (ey (aX gr) q (cr)) W fun e w'=>∃u,e=.returned u/\au w' W u ((r).take q)/\aj W w'))
    exact Z9
  .have ee:k=rows.length:=Ry;subst ee;rw[nM _ _ _ (ah _)]at Es;obtain⟨c0,be⟩:=aK (rows.map (fun r=>bK r q 0));have b0:c0.length=rows:=by rw[be];simp
   rw[<-be]at Es;obtain⟨a5,dT⟩:=bL b0 be;clear be b0;have E5:=Es.outer;rw[a5.o]at E5;have U:=(E.block _ Ry).trans d1;have J:=(E.block _ Ry).trans b9;have a1:=(E.block _ Ry).trans d2;have GA:=E.size;obtain⟨ac,O,y2,ad,R⟩:=bO J;obtain⟨a2,a3,Z⟩:=al E6;have GS:=c8.trans (E.mono Ry);obtain⟨ao,a4,bm,bo,bp,a7⟩:=lq Es GS U J a1 E6;clear Es GS U J a1 E6 E E5;go_upto_region 39 with(fail)
   have a6:=zH (show ∀b6,aj wr b6->(fun W:World=>af W w1 2 (.slice B rows EV)/\af W ((w:Nat)+1) 1 (zI a)/\af W ((w:Nat)+1) 4 (.slice H n ab)) b6 from fun b6 hb=>⟨ag hb Z,ag hb O,ag hb R⟩);refine bk (S:=(fun W:World=>af W w1 2 (.slice B rows EV)/\af W ((w:Nat)+1) 1 (zI a)/\af W ((w:Nat)+1) 4 (.slice H n ab))) 9 RU (a6.o _ (ai _ _).drew) (fun hHeld=>?_);refine ay 0 ?_;refine ay 1 ?_;refine ay 2 ?_;refine ay 3 ?_;refine ay 4 ?_;refine ay 5 ?_;refine bu 6 fun K hK=>?_
   go_simp;refine(d0.o _ a4.drew).mono ?_;rintro e es ⟨u1,rfl,GG,T⟩;obtain⟨A1,c1,rfl,_⟩:=GG.view;obtain⟨am,dl⟩:=bL ((ai wr wr).drew.trans T) GG;clear GG T;go_simp;refine hK.out _ _ (fun _=>a6.o _ am.o) (fun hHeld=>?_);clear hK K;try simp only[Act.put,zA]
   have hHeld:=hHeld RC;refine bu 7 fun K hK=>?_
   go_simp;refine(vr ((w:Nat)+3) _ a b5 rows _ _ _ es (by have h1:=(ao.ext am).outer;rw[a5.o]at h1;exact h1) (oO ao) d8 d9 Ry).mono ?_;rintro e wc ⟨f3,rfl,b1,bz⟩;obtain⟨g,I,rfl,ea,eb⟩:=lR b1 Ry;have ci:=an am bz;have fd:=am.size;have D:=ao.insert am dl Ry (show a.toNat<=c0.length by have:=a5.o;omega) (by rw[a5.o];exact vt b1 Ry) (fm bz);obtain⟨F,dc⟩:=bL ci D;clear ci D b1 bz;go_simp;refine hK.out _ _ (fun _=>a6.o _ F.o) (fun hHeld=>?_);clear hK K;try simp only[Act.put,zA]
   have hHeld:=hHeld RC;refine bu 8 fun K hK=>?_
   go_simp;refine hK.out _ _ (fun _=>a6.o _ F.o) (fun hHeld=>?_);clear hK K;try simp only[Act.put,zA]
   have hHeld:=hHeld RC;have a8:=(F.block w1 Ry).trans a7;have b7:=zH a8;have f2:=aS a8 2;obtain⟨z0,ev,z2⟩:=al a8;clear a8;refine bu 9 fun K hK=>?_
   go_simp;refine hK.out _ _ (fun h=>absurd h RC) (fun _=>?_);clear hK K;try simp only[Act.put,zA]
   refine dS RU ?_ _;have b4:=bw wc w1 2 _ _ (.slice (aX g) (rows.length+1) I) b7;simp only[zA]at b4;have cF:=(dh wc ⟨w1,2,none⟩ w (.slice (aX g) (rows.length+1) I) Sn).trans ((F.block _ Ry).trans bm);have cI:=(dh wc ⟨w1,2,none⟩ ((w:Nat)+1) (.slice (aX g) (rows.length+1) I) Sn).trans ((F.block _ Ry).trans bo);have b3:=(dh wc ⟨w1,2,none⟩ ((w:Nat)+1+1) (.slice (aX g) (rows.length+1) I) Sn).trans ((F.block _ Ry).trans bp);obtain⟨HO,HE⟩:=bL (show aI _ ((w:Nat)+3) _ (bK (rows.map (fun r=>bK r q 0)) a.toNat row) from⟨_,(by rw[<-dT.o];have h1:=dc.jk b7 (j:=2) (u:=.slice (aX g) (rows.length+1) I);exact h1)⟩) ((an a4 F).setCell (p:=⟨w1,2,none⟩) Sn (.slice (aX g) (rows.length+1) I));clear z0 ev z2 ac O y2 ad R a2 a3 Z f2;obtain⟨ac,O,y2,ad,R⟩:=bO cI;obtain⟨c4,c5,c6⟩:=al cF;clear cF cI;obtain⟨ap,d3,d4⟩:=bU b4;obtain⟨d5,d6,d7⟩:=bU b3;obtain⟨eA,e0,e1⟩:=bt b3;simp only[dg,cT]at ap d3 d4 d5 d6 d7;clear b4 b3;go_wp2;refine az (v:=.agg (dp v (h+1) (aX g) (rows.length+1) I)) Uy rfl ⟨_,rfl,?_,?_⟩
   .exact Yr
   .exact Yf
def zek(p v h a b c:Int)(A:aq)(cap:Nat)(rows:aC)(w:aa)(ba:aq)(n b9:Nat)(be:aL w A rows)(d7:rows.length<=160)(Ew:∀r∈rows,r.length<=1000)(ee:0<=v)(eg:v<=1000)(hb:0<=b)(dT:b<=1000)(d2:0<=h)(d3:h<=1000)(Ex:∀r∈rows,v+b<=r.length):ax 37 (dI p (ae v h A rows cap) (kq a b c ba n b9)) w fun e w'=>∃u,e=.returned (.agg (dz v (h+1) u))/\aI w' w u (rows.map (fun r=>bK r (v+b).toNat 0))/\aj w w':=by
 obtain⟨q,c4⟩:=fW (Ry:0<=v+b);have c6:(v+b).toNat=q:=Ry;rw[c6];have ce:=zH (show ∀r∈rows,(q:Int)<=r.length/\r.length<=1000 from fun r hr=>⟨T9,Ew r hr⟩);clear Ex;have c8:IntKind.i64.wrap (v+b)=(q:Int):=Sq;have ei:IntKind.i64.wrap (h+1)=h+1:=Sq;obtain⟨ch,ci⟩:=bL (Ry:rows.length<=1048576) (show ∀r∈rows,r.length<=1048576 from fun r hr=>TZ);go_enter func37,nr
 go_wp2_with fail
 refine(ix _ _ _ _ _ _ (be.ext (((ai _ _).alloc Rx _ |>.alloc Rx _).alloc Sn _)) ch ci).mono ?_;rintro e w1 ⟨u,rfl,⟨us,hu⟩,am⟩;obtain⟨B,EV,rfl,_,_,_⟩:=aI.view ⟨us,hu⟩;obtain⟨b2,b3,b4⟩:=cv w (.cells (ae v h A rows cap) 26) (.cells (kq a b c ba n b9) 29) (.cells aQ 26);have c7:=am.size;simp only[cx]at c7;go_upto_region 2 with(fail)
 obtain⟨z,Er⟩:=aK (w1.alloc (.cells (ae v h B rows EV) 26));rw[<-Er];have GP:aj w1 z:=VH;have FU:(z:Nat)=w1+1:=So;have F:=bQ am GP;have R:aW z w1 (ae v h B rows EV) 26:=Um;have a0:=cp F b2;have a1:=cp F b3;have b0:=cp F b4;have bp:a_ z ((w:Nat)+3) (.slice B rows EV) rows us:=(hu.ext GP).mono Rx;have eb:∀g',B=some ⟨g',0,none⟩->g' < (w1:Nat):=fun g' e=>Vy
 have d4:∀(k:Nat) (x:av),us[k]?=some x->∀b,x.ownBlock=some b->b < (w1:Nat):=fun k x hx b hb=>Wi
 have GS:aj w z:=(below_alloc3 w _ _ _).trans (F.mono Sn);clear hu am GP F be Ew b2 b3 b4 Er;obtain⟨T,U,y2,Z,ab⟩:=bO a1;obtain⟨a3,a4,a5⟩:=al R;obtain⟨b5,b6,b7⟩:=al a0;have f1:=aS R 1;obtain⟨cj,cb,cn,ct,cu,a8⟩:=lq bp GS a0 a1 b0 R;clear bp GS a0 a1 b0 R;go_upto_region 33 with(fail)
 obtain⟨ac,Fv⟩:=aK (z.setCell ⟨w1,1,none⟩ (zI (h+1)));rw[<-Fv];have I:=bw z w1 1 _ _ (zI (h+1)) a8;simp only[zA]at I;rw[<-Fv]at I;have O:∀j,j≠w1.heap.size->ac.heap[j]?=z.heap[j]?:=fun j hj=>Uz
 obtain⟨a9,co,a7,cz⟩:=fS I ((O _ Ry).trans cn) ((O _ Ry).trans ct) ((O _ Ry).trans cu);have ap:=cj.jk a8 (j:=1) (u:=.int .i64 (h+1));rw[<-Fv]at ap;have ao:=cb.setCell (p:=⟨w1,1,none⟩) Sn (zI (h+1));rw[<-Fv]at ao;have ea:(ac:Nat)=w1+1:=Ul;obtain⟨Fw,cc⟩:=bL ap ao;obtain⟨c9,br⟩:=aK us;rw[<-br]at Fw;clear I O ap ao Fv br;clear T U y2 Z ab a3 a4 a5 b5 b6 b7 f1;obtain⟨T,U,y2,Z,ab⟩:=bO a7;obtain⟨a3,a4,a5⟩:=al a9;go_wp2;go_loopw [202] (fun i wr=>∃k:Nat,k<=rows.length/\i=.int .i64 k/\(∃b8,a_ wr ((w:Nat)+3) (.slice B rows EV) (j1 (fun r=>bK r q 0) rows k) b8)/\
   aW wr w1 (ae v (h+1) B rows EV) 26/\Below ((w:Nat)+3) ac wr)
  (fun i _=>rows.length-(intOf i).toNat)
 case atStart=>exact⟨0,aT _,rfl,⟨c9,Tp⟩,a9,ai _ _⟩
 case round=>
  obtain⟨k,hk,rfl,⟨b8,Es⟩,E6,D⟩:=hrel;clear T U y2 Z ab a3 a4 a5;by_cases bm:k<rows.length
  .obtain⟨r,hr⟩:=aw bm;have bo:(j1 (fun r=>bK r q 0) rows k)[k]?=some r:=(nN _ _ _ bm).trans hr;obtain⟨ej,E4,J⟩:=Es.get bo;obtain⟨d5,d6⟩:=ce r (aR hr);obtain⟨ca,cr,rfl,H,bi,_⟩:=J.view;obtain⟨g,rfl,d0,d1⟩:=kH Es TY;have E5:=Es.outer;rw[dO _ _ _ hk]at E5;have z0:af wr g k (.slice ca r cr):=U0;have y2:af wr w1 2 (.slice (aX g) rows EV):=aV E6 2;have d8:g≠w1.heap.size:=fun e=>XW
   have f0:=E5.frozenAt k;obtain⟨HO,HW,Fx,GK,GQ⟩:=l_ Es D E6 E4 hr;have c5:q<=r.length:=Ry;have d9:q<=cr:=Ry;have bd:=xA H q;have a6:=zH bd;clear E5 Es D E6 bo E4 hr bd;rcases zaD J with⟨rfl,rfl,rfl⟩|⟨gr,rfl⟩
   .obtain rfl:q=0:=by simpa using c5
    have ID:=zH (show aU wr none (List.drop 0 ([]:aH)) from aG rfl);simp only[h_]at z0;have E:((0:Nat):Int)=0:=rfl;rw[E]at c8;simp only[E];clear J H bi c4 E;have L1:=zH (fun(W:aa) (ad:aj wr W)=>(by
     have:=ig (none) (0) ((([]:aH)).take 0) W (a6.ext ad) Sn;rw[show((([]:aH)).take 0).length=0 by simp<;>omega]at this;exact this:ax 80 #[.slice (none) 0 (0)] W fun e w'=>∃u,e=.returned u/\au w' W u ((([]:aH)).take 0)/\aj W w'))
    exact Z_
   .obtain⟨A9,dl,bb⟩:=Cf H bi q;have ID:=zH bb;clear J H bb;have L1:=zH (fun(W:aa) (ad:aj wr W)=>(by
     have:=ig (some ⟨gr,0,none⟩) (cr) ((r).take q) W (a6.ext ad) Sn;rw[show((r).take q).length=q by simp<;>omega]at this;exact this:ax 80 (ey (aX gr) q (cr)) W fun e w'=>∃u,e=.returned u/\au w' W u ((r).take q)/\aj W w'))
    exact Z9
  .have c0:k=rows.length:=Ry;subst c0;rw[nM _ _ _ (ah _)]at Es;have b1:=E6;have bv:=(D.block _ Ry).trans co;have bz:=(D.block _ Ry).trans a7;have a2:=(D.block _ Ry).trans cz;obtain⟨HO,HE⟩:=bL (show aI wr ((w:Nat)+3) (.slice B rows EV) (rows.map (fun r=>bK r q 0)) from⟨_,Es⟩) (cc.trans (D.mono Ry));clear Es D E6;obtain⟨T,U,y2,Z,ab⟩:=bO bz;obtain⟨b5,b6,b7⟩:=al bv;clear bv bz;obtain⟨E,cF,cI⟩:=bU b1;obtain⟨cK,cO,cR⟩:=bU a2;obtain⟨da,db,dc⟩:=bt a2;simp only[dg,cT]at E cF cI cK cO cR;clear b1 a2;go_wp2;refine az (v:=.agg (ae v (h+1) B rows EV)) Uy rfl ⟨_,rfl,?_,?_⟩
   .exact Yr
   .exact Yf
end Go.Proofs.YtdpgblncijojiaaGreatDoor
