/- Parts of the walks and laws (SMD). Conditions: as stated with each. -/
import Derived.Test.YtpieilkmmiopfaaGreatDoorPk3
import Derived.Test.YtpieilkmmiopfaaGreatDoorPk4
namespace Go.Proofs.YtpieilkmmiopfaaGreatDoor
open Go.RowKit Tryz
set_option linter.all false
set_option maxHeartbeats 8000000
set_option maxRecDepth 100000
variable{A:aq}{B H i j n:Nat}{K:mE}{Rb o:fR}{Rm:ml}{a:Act}{w:aa}{xs:aH}
theorem cV{ops:gP}{Q:gj}{E:Prop}(G0:o.guard=none)(s x:jk)(J:o.op=.call {callee:=.builtin .append,args:=#[s,x],argTypes:=#[26,26]})(B:Nat)(W:aa)(v:ax)(xs ys:aH)(A:aq)(m c:Nat)(Z:m=ys.length)(N:a.eval s=v)(G:a.eval x=.slice A m c)(EF:aD W B v xs)(FA:aJ W A ys)(a2:xs.length+m<=1099511627776)(H:B<=W.heap.size)(h:∀F w',aD w' B F (xs++ys)->Below B W w'->K (a.put o.dst F) w'):if Region.wanted o (yielded ops a.tmps)=true then Oper.wp prog o a W K Q else E:=by
 rw[ay (Uh:Region.wanted o (yielded ops a.tmps)=true)];subst Z;obtain⟨O,hi,am,ao,ap⟩:=de fT;cases A with
 |none=>
  have D:ys=[]:=Wy;subst D;have ac:=iw (P:=prog) (w:=W) B 26 o.type 3 O 1 dY hi v _ c _ EF;unfold Oper.wp;simp only[il]at G;simp[execOp,J,resolve,invoke,builtin,N,G,ac,Result.andThen];exact h v W SC (aj _ _)
 |some R=>
  obtain⟨F,w',ab,T,U,a0,a1⟩:=run_append_own_at (P:=prog) W B 26 o.type 3 O (.int .i64 0) 1 8 dY hi am ao ap rfl Rs v _ _ EF R ys.length c (ys.map (Value.int .i64)) Rq (by
   intro j u I;rw[cC]at I;obtain⟨y,D,rfl⟩:=DY.1 I;rcases FA with h|⟨b,o,h,V⟩
   .simp[h]at D
   .cases h;rw[dj];exact V j y D) (by
   intro u ad;obtain⟨y,_,rfl⟩:=cM.1 ad;rfl) TD Rr H
  unfold Oper.wp execOp;simp only[J,resolve,invoke,builtin,wI,wJ,wK,zj,m_,oQ,N,G,ab];exact h F w' (by simpa[aD]using T) ((aj _ _).grown U H fun k Y=>(bL EF k Y).1)
section
variable{P:iU}{md:Region.Mode}{ops:gP}{Q:gj}{S:iT}
theorem zfn(hr:Region.ready md ops Rm=[i,j])(ho:ops.toList[i]?=some o)(N:ops.toList[j]?=some Rb)(I:∀h:mE,Shut (∀a w,(i<n->S w)->((i<n->S w)->pS P md ops Q S n H (Rm.setIfInBounds i true) a w)->h a w)-> if Region.wanted o (yielded ops a.tmps)=true then Oper.wp P o a w h Q else h (a.put o.dst undef) w)(J:∀h:mE,Shut (∀a w,(j<n->S w)->((j<n->S w)->pS P md ops Q S n H (Rm.setIfInBounds j true) a w)->h a w)-> if Region.wanted Rb (yielded ops a.tmps)=true then Oper.wp P Rb a w h Q else h (a.put Rb.dst undef) w):pS P md ops Q S n (H+1) Rm a w:=by
 refine⟨fun h0=>TW,fun k G=>?_⟩;rw[hr]at G;simp only[dQ,gu,gI]at G;rcases G with rfl|rfl
 .exact wpOp_step Tf (fun h hK=>I h (fun a w D F=>hK a w ⟨D,F D⟩))
 .exact wpOp_step (by rw[<-oV];exact N) (fun h hK=>J h (fun a w D F=>hK a w ⟨D,F D⟩))
end
theorem AJ{cap:Nat}(D:aD w B (.slice A n cap) xs):(A=none/\xs=[]/\cap=0)∨∃g,A=some ⟨g,0,none⟩:=by
 rcases D.2 with⟨h,F⟩|⟨g,G,H,h,_⟩
 .simp only[dW]at h;exact au ⟨h.1,fC F,h.2.2⟩
 .simp only[dW]at h;exact an ⟨g,h.1⟩
theorem CJ(h:aJ w A xs)(q:Nat):aJ w A (xs.take q):=YP
theorem CK{g cap:Nat}(h:aJ w (some ⟨g,0,none⟩) xs)(hc:xs.length<=cap)(q:Nat):∃A:dk,(if cap=q then some (⟨g,0,none⟩:dk) else some ⟨g,q,none⟩)=some A/\aJ w (some A) (xs.drop q):=Zi
theorem mf(w:aa)(x:Int):aJ (w.alloc (.cells (bs x) 3)) (some ⟨w.heap.size,0,none⟩) [x]:=by
 refine an ⟨w.heap.size,0,rfl,fun k y h=>?_⟩
 match k,h with
 |0,h=>
  simp at h;subst h;have:=cell_one_new w (.int .i64 x) 3 0 (.int .i64 x) rfl;rwa[dj]at this
 |k+1,h=>simp at h
theorem zfo(p v h a b c:Int)(A:aq)(cap:Nat)(rows:aN)(w:aa)(J:aq)(n Z:Nat)(ca:bk w A rows)(e5:rows.length<=160)(EM:∀r∈rows,r.length<=1000)(fa:0<=v)(fb:v<=1000)(hb:0<=b)(e1:b<=1000)(e2:0<=h)(e3:h<=1000)(ES:∀r∈rows,v+b<=r.length)(d1:0<=a)(d2:a<=rows.length)(row:aH)(cb:aJ w J row)(ci:n=row.length)(ea:row.length<=1048576):aw 96 (iL p (ar v h A rows cap) (qj a b c J n Z)) w fun e w'=>∃u,e=.returned (.agg (dK v (h+1) u))/\aU w' w.heap.size u (cf (rows.map (fun r=>cf r (v+b).toNat 0)) a.toNat row)/\ag w w':=by
 have c9:=zH (fun(W:aa) (G:ag w W)=>(by
  have:=jn J Z row W (cb.ext G) Rr;rw[<-ci]at this;exact this:aw 70 (cg J n Z) W fun e w'=>∃u,e=.returned u/\aD w' W.heap.size u row/\ag W w'))
 clear cb ci ea;obtain⟨q,d7⟩:=fY (Rr:0<=v+b);have d9:(v+b).toNat=q:=Rr;rw[d9];have c0:=zH (show ∀r∈rows,(q:Int)<=r.length/\r.length<=1000 from fun r hr=>⟨Ub,EM r hr⟩);clear ES;have ei:IntKind.i64.wrap (v+b)=(q:Int):=Sq;have fd:IntKind.i64.wrap (h+1)=h+1:=Sq;obtain⟨c4,c5⟩:=bD (Rr:rows.length<=1048576) (show ∀r∈rows,r.length<=1048576 from fun r hr=>T3);go_enter func96,m6
 go_wp2_with fail
 refine(jl _ _ _ _ _ _ (ca.ext (((aj _ _).alloc Rq _ |>.alloc Rq _).alloc Sp _)) c4.o c5.o).mono ?_;rintro e w1 ⟨u,rfl,⟨us,hu⟩,O⟩;obtain⟨F,Ff,rfl,_,_,_⟩:=aU.view ⟨us,hu⟩;obtain⟨cq,ct,cu⟩:=cm w (.cells (ar v h A rows cap) 57) (.cells (qj a b c J n Z) 97) (.cells bj 57);have eb:=O.size;simp only[dt]at eb;go_upto_region 2 with(fail)
 obtain⟨D,EJ⟩:=aM (w1.alloc (.cells (ar v h F rows Ff) 57));rw[<-EJ];have E9:ag w1 D:=Vj;have Gk:D.heap.size=w1.heap.size+1:=So;have ap:=O.trans (E9.mono O.size);have bd:aW D w1.heap.size (ar v h F rows Ff) 57:=Uo;have V:=cH ap cq;have R:=cH ap ct;have a0:=cH ap cu;have ck:bC D (w.heap.size+3) (.slice F rows.length Ff) rows us:=(hu.ext E9).mono Rq;have eg:∀g',F=some ⟨g',0,none⟩->g'<w1.heap.size:=fun g' e=>U8
 have d5:∀(k:Nat) (x:ax),us[k]?=some x->∀b,x.ownBlock=some b->b<w1.heap.size:=fun k x hx b hb=>VA
 have G5:ag w D:=(below_alloc3 w _ _ _).trans (ap.mono Sp);clear hu O E9 ap ca EM cq ct cu EJ;obtain⟨ab,T,y2,ac,U⟩:=ez R;obtain⟨a1,a2,Y⟩:=aG bd;obtain⟨cA,cB,cF⟩:=aG V;have f1:=aK bd 1;obtain⟨am,a3,bg,bi,bo,a6⟩:=kE ck G5 V R a0 bd;clear ck G5 eg d5 V R a0 bd;go_upto_region 33 with(fail)
 obtain⟨bp,FN⟩:=aM (D.setCell ⟨w1.heap.size,1,none⟩ (.int .i64 (h+1)));rw[<-FN];have a9:=bm D w1.heap.size 1 _ _ (.int .i64 (h+1)) a6.o;simp only[zA]at a9;rw[<-FN]at a9;have bb:∀j,j≠w1.heap.size->bp.heap[j]?=D.heap[j]?:=fun j hj=>Uz
 obtain⟨b7,db,b6,dc⟩:=fU a9 ((bb _ Rr).trans bg.o) ((bb _ Rr).trans bi.o) ((bb _ Rr).trans bo.o);have bz:=am.o.kR a6.o (j:=1) (u:=.int .i64 (h+1));rw[<-FN]at bz;have bq:=a3.o.setCell (p:=⟨w1.heap.size,1,none⟩) Sp (.int .i64 (h+1));rw[<-FN]at bq;have e8:bp.heap.size=w1.heap.size+1:=Un;obtain⟨FL,cO⟩:=bD bz bq;obtain⟨ej,cn⟩:=aM us;rw[<-cn]at FL;clear a9 bb bz bq FN cn;clear ab T y2 ac U a1 a2 Y cA cB cF f1;obtain⟨ab,T,y2,ac,U⟩:=ez b6.o;obtain⟨a1,a2,Y⟩:=aG b7.o;go_wp2;go_loopw [202] (fun i wr=>∃k:Nat,k<=rows.length/\i=.int .i64 k/\(∃b2,bC wr (w.heap.size+3) (.slice F rows.length Ff) (jM (fun r=>cf r q 0) rows k) b2)/\
   aW wr w1.heap.size (ar v (h+1) F rows Ff) 57/\Below (w.heap.size+3) bp wr)
  (fun i _=>rows.length-(intOf i).toNat)
 case atStart=>exact⟨0,aX _,rfl,⟨ej,Tv⟩,b7.o,aj _ _⟩
 case round=>
  obtain⟨k,hk,rfl,⟨b2,EF⟩,Fs,H⟩:=hrel;clear ab T y2 ac U a1 a2 Y;by_cases ch:k<rows.length
  .obtain⟨r,hr⟩:=aB ch;have cj:(jM (fun r=>cf r q 0) rows k)[k]?=some r:=(nk _ _ _ ch).trans hr;obtain⟨fl,Fu,ba⟩:=EF.get cj;obtain⟨e4,bu⟩:=c0.o r (aY hr);obtain⟨cI,cr,rfl,a8,ce,_⟩:=ba.view;obtain⟨g,rfl,d3,d4⟩:=j5 EF TX;have Ft:=EF.outer;rw[dU _ _ _ hk]at Ft;have z0:ae wr g k (.slice cI r.length cr):=UM;have y2:ae wr w1.heap.size 2 (.slice (some ⟨g,0,none⟩) rows.length Ff):=a_ Fs 2;have e6:g≠w1.heap.size:=fun e=>XL
   have f0:=Ft.frozenAt k;obtain⟨HO,HW,Fv,Hc,Gj⟩:=mD EF H Fs Fu hr;have d8:q<=r.length:=Rr;have e7:q<=cr:=Rr;have b9:=CJ a8 q;have b5:=zH b9;clear Ft EF H Fs cj Fu hr b9;rcases AJ ba with⟨rfl,rfl,rfl⟩|⟨gr,rfl⟩
   .obtain rfl:q=0:=by simpa using d8
    have ID:=zH (show aJ wr none (List.drop 0 ([]:aH)) from au rfl);simp only[il]at z0;have ao:((0:Nat):Int)=0:=rfl;rw[ao]at ei;simp only[ao];clear ba a8 ce d7 ao;have L1:=zH (fun(W:aa) (G:ag wr W)=>(by
     have:=jn (none) (0) ((([]:aH)).take 0) W (b5.o.ext G) Sp;rw[show((([]:aH)).take 0).length=0 by simp<;>omega]at this;exact this:aw 70 #[.slice (none) 0 (0)] W fun e w'=>∃u,e=.returned u/\aD w' W.heap.size u ((([]:aH)).take 0)/\ag W w'))
    exact Z_
   .obtain⟨A9,e0,b8⟩:=CK a8 ce q;have ID:=zH b8;clear ba a8 b8;have L1:=zH (fun(W:aa) (G:ag wr W)=>(by
     have:=jn (some ⟨gr,0,none⟩) (cr) ((r).take q) W (b5.o.ext G) Sp;rw[show((r).take q).length=q by simp<;>omega]at this;exact this:aw 70 (cg (some ⟨gr,0,none⟩) q (cr)) W fun e w'=>∃u,e=.returned u/\aD w' W.heap.size u ((r).take q)/\ag W w'))
    exact Z9
  .have d6:k=rows.length:=Rr;subst d6;rw[nj _ _ _ (af _)]at EF;obtain⟨cz,bc⟩:=aM (rows.map (fun r=>cf r q 0));have bu:cz.length=rows.length:=by rw[bc];simp
   rw[<-bc]at EF;obtain⟨a4,c8⟩:=bD bu bc;clear bc bu;have Ft:=EF.outer;rw[a4.o]at Ft;have V:=(H.block _ Rr).trans db.o;have R:=(H.block _ Rr).trans b6.o;have a0:=(H.block _ Rr).trans dc.o;have Hf:=H.size;obtain⟨ab,T,y2,ac,U⟩:=ez R;obtain⟨a1,a2,Y⟩:=aG Fs;have G5:=cO.o.trans (H.mono Rr);obtain⟨am,a3,bg,bi,bo,a6,eo⟩:=zH7 EF G5 V R a0 Fs Ft;clear EF G5 V R a0 Fs H Ft;go_upto_region 39 with(fail)
   have a5:=zH (show ∀b3,ag wr b3->(fun W:World=>ae W w1.heap.size 2 (.slice F rows.length Ff)/\ae W (w.heap.size+1) 1 (.int .i64 a)/\ae W (w.heap.size+1) 4 (.slice J n Z)) b3 from fun b3 hb=>⟨al hb Y,al hb T,al hb U⟩);refine cR (S:=(fun W:World=>ae W w1.heap.size 2 (.slice F rows.length Ff)/\ae W (w.heap.size+1) 1 (.int .i64 a)/\ae W (w.heap.size+1) 4 (.slice J n Z))) 9 RP (a5.o _ (aj _ _).drew) (fun hHeld=>?_);refine aP 0 ?_;simp only[Act.put,zA];refine aP 1 ?_;simp only[Act.put,zA];refine aP 2 ?_;simp only[Act.put,zA];refine aP 3 ?_;simp only[Act.put,zA];refine aP 4 ?_;simp only[Act.put,zA];refine aP 5 ?_;simp only[Act.put,zA];refine cw 6 fun K hK=>?_
   go_simp;refine(c9.o _ a3.o.drew).mono ?_;rintro e ek ⟨u1,rfl,FJ,O⟩;obtain⟨A1,c1,rfl,_⟩:=FJ.view;obtain⟨ad,c7⟩:=bD ((aj wr.heap.size wr).drew.trans O) FJ;clear FJ O;go_simp;refine hK.out _ _ (fun _=>a5.o _ ad.o) (fun hHeld=>?_);clear hK K;try simp only[Act.put,zA]
   have hHeld:=hHeld Rs;refine cw 7 fun K hK=>?_
   go_simp;refine(vD (w.heap.size+3) _ a b2 rows.length _ _ _ ek (by have h1:=(am.o.ext ad.o).outer;rw[a4.o]at h1;exact h1) (oA am.o) d1 d2 Rr).mono ?_;rintro e wc ⟨v9,rfl,bv,br⟩;obtain⟨g,N,rfl,d3,d4⟩:=kn bv Rr;have cc:=ai ad.o br;have e9:=ad.o.size;have G:=am.o.insert ad.o c7.o Rr (show a.toNat<=cz.length by have:=a4.o;omega) (by rw[a4.o];exact vE bv Rr) (fu br);obtain⟨I,c6⟩:=bD cc G;clear cc G bv br;go_simp;refine hK.out _ _ (fun _=>a5.o _ I.o) (fun hHeld=>?_);clear hK K;try simp only[Act.put,zA]
   have hHeld:=hHeld Rs;refine cw 8 fun K hK=>?_
   go_simp;refine hK.out _ _ (fun _=>a5.o _ I.o) (fun hHeld=>?_);clear hK K;try simp only[Act.put,zA]
   have hHeld:=hHeld Rs;have a7:=(I.o.block w1.heap.size Rr).trans a6.o;have b4:=zH a7;have f2:=aK a7 2;obtain⟨z0,em,z2⟩:=aG a7;clear a7;refine cw 9 fun K hK=>?_
   go_simp;refine hK.out _ _ (fun h=>absurd h Rs) (fun _=>?_);clear hK K;try simp only[Act.put,zA]
   refine gN RP ?_ _;have b1:=bm wc w1.heap.size 2 _ _ (.slice (some ⟨g,0,none⟩) (rows.length+1) N) b4.o;simp only[zA]at b1;have co:=(en wc ⟨w1.heap.size,2,none⟩ w.heap.size (.slice (some ⟨g,0,none⟩) (rows.length+1) N) Sp).trans ((I.o.block _ Rr).trans bg.o);have cp:=(en wc ⟨w1.heap.size,2,none⟩ (w.heap.size+1) (.slice (some ⟨g,0,none⟩) (rows.length+1) N) Sp).trans ((I.o.block _ Rr).trans bi.o);have b0:=(en wc ⟨w1.heap.size,2,none⟩ (w.heap.size+1+1) (.slice (some ⟨g,0,none⟩) (rows.length+1) N) Sp).trans ((I.o.block _ Rr).trans bo.o);obtain⟨HO,HE⟩:=bD (show aU _ (w.heap.size+3) _ (cf (rows.map (fun r=>cf r q 0)) a.toNat row) from⟨_,(by rw[<-c8.o];have h1:=c6.o.kR b4.o (j:=2) (u:=.slice (some ⟨g,0,none⟩) (rows.length+1) N);exact h1)⟩) ((ai a3.o I.o).setCell (p:=⟨w1.heap.size,2,none⟩) Sp (.slice (some ⟨g,0,none⟩) (rows.length+1) N));clear z0 em z2 ab T y2 ac U a1 a2 Y f2;obtain⟨ab,T,y2,ac,U⟩:=ez cp;obtain⟨cA,cB,cF⟩:=aG co;clear co cp;obtain⟨ao,dl,dq⟩:=bS b1;obtain⟨dr,dT,d0⟩:=bS b0;obtain⟨es,ev,ey⟩:=bR b0;simp only[cZ,cP]at ao dl dq dr dT d0;clear b1 b0;go_wp2;refine aE (v:=.agg (fy v (h+1) (some ⟨g,0,none⟩) (rows.length+1) N)) Uy rfl ⟨_,rfl,?_,?_⟩
   .exact Yp
   .exact X_
theorem zdZ(p v h a b c:Int)(A:aq)(cap:Nat)(rows:aN)(w:aa)(a9:aq)(n b6:Nat)(bc:bk w A rows)(d1:rows.length<=160)(EM:∀r∈rows,r.length<=1000)(d5:0<=v)(d6:v<=1000)(hb:0<=b)(db:b<=1000)(dq:0<=h)(dr:h<=1000)(ES:∀r∈rows,v+b<=r.length):aw 96 (iL p (ar v h A rows cap) (qk a b c a9 n b6)) w fun e w'=>∃u,e=.returned (.agg (dK v (h+1) u))/\aU w' w.heap.size u (rows.map (fun r=>cf r (v+b).toNat 0))/\ag w w':=by
 obtain⟨q,cB⟩:=fY (Rr:0<=v+b);have cI:(v+b).toNat=q:=Rr;rw[cI];have ca:=zH (show ∀r∈rows,(q:Int)<=r.length/\r.length<=1000 from fun r hr=>⟨Ub,EM r hr⟩);clear ES;have c4:IntKind.i64.wrap (v+b)=(q:Int):=Sq;have d7:IntKind.i64.wrap (h+1)=h+1:=Sq;obtain⟨cb,cc⟩:=bD (Rr:rows.length<=1048576) (show ∀r∈rows,r.length<=1048576 from fun r hr=>T3);go_enter func96,m6
 go_wp2_with fail
 refine(jl _ _ _ _ _ _ (bc.ext (((aj _ _).alloc Rq _ |>.alloc Rq _).alloc Sp _)) cb.o cc.o).mono ?_;rintro e w1 ⟨u,rfl,⟨us,hu⟩,N⟩;obtain⟨F,Ff,rfl,_,_,_⟩:=aU.view ⟨us,hu⟩;obtain⟨bz,b0,b1⟩:=cm w (.cells (ar v h A rows cap) 57) (.cells (qk a b c a9 n b6) 97) (.cells bj 57);have cO:=N.size;simp only[dt]at cO;go_upto_region 2 with(fail)
 obtain⟨D,EJ⟩:=aM (w1.alloc (.cells (ar v h F rows Ff) 57));rw[<-EJ];have E9:ag w1 D:=Vj;have Gk:D.heap.size=w1.heap.size+1:=So;have I:=N.trans (E9.mono N.size);have U:aW D w1.heap.size (ar v h F rows Ff) 57:=Uo;have ap:=cH I bz;have a0:=cH I b0;have bu:=cH I b1;have bo:bC D (w.heap.size+3) (.slice F rows.length Ff) rows us:=(hu.ext E9).mono Rq;have c0:∀g',F=some ⟨g',0,none⟩->g'<w1.heap.size:=fun g' e=>U8
 have cz:∀(k:Nat) (x:ax),us[k]?=some x->∀b,x.ownBlock=some b->b<w1.heap.size:=fun k x hx b hb=>VA
 have G5:ag w D:=(below_alloc3 w _ _ _).trans (I.mono Sp);clear hu N E9 I bc EM bz b0 b1 EJ;obtain⟨V,Y,y2,Z,ab⟩:=ez a0;obtain⟨a2,a3,a4⟩:=aG U;obtain⟨b2,b3,b4⟩:=aG ap;have f1:=aK U 1;obtain⟨ce,b8,ch,cj,ck,a7⟩:=kE bo G5 ap a0 bu U;clear bo G5 c0 cz ap a0 bu U;go_upto_region 33 with(fail)
 obtain⟨ac,FN⟩:=aM (D.setCell ⟨w1.heap.size,1,none⟩ (.int .i64 (h+1)));rw[<-FN];have O:=bm D w1.heap.size 1 _ _ (.int .i64 (h+1)) a7.o;simp only[zA]at O;rw[<-FN]at O;have T:∀j,j≠w1.heap.size->ac.heap[j]?=D.heap[j]?:=fun j hj=>Uz
 obtain⟨a8,ci,a6,cn⟩:=fU O ((T _ Rr).trans ch.o) ((T _ Rr).trans cj.o) ((T _ Rr).trans ck.o);have ao:=ce.o.kR a7.o (j:=1) (u:=.int .i64 (h+1));rw[<-FN]at ao;have am:=b8.o.setCell (p:=⟨w1.heap.size,1,none⟩) Sp (.int .i64 (h+1));rw[<-FN]at am;have d4:ac.heap.size=w1.heap.size+1:=Un;obtain⟨FL,b9⟩:=bD ao am;obtain⟨c5,bp⟩:=aM us;rw[<-bp]at FL;clear O T ao am FN bp;clear V Y y2 Z ab a2 a3 a4 b2 b3 b4 f1;obtain⟨V,Y,y2,Z,ab⟩:=ez a6.o;obtain⟨a2,a3,a4⟩:=aG a8.o;go_wp2;go_loopw [202] (fun i wr=>∃k:Nat,k<=rows.length/\i=.int .i64 k/\(∃b5,bC wr (w.heap.size+3) (.slice F rows.length Ff) (jM (fun r=>cf r q 0) rows k) b5)/\
   aW wr w1.heap.size (ar v (h+1) F rows Ff) 57/\Below (w.heap.size+3) ac wr)
  (fun i _=>rows.length-(intOf i).toNat)
 case atStart=>exact⟨0,aX _,rfl,⟨c5,Tv⟩,a8.o,aj _ _⟩
 case round=>
  obtain⟨k,hk,rfl,⟨b5,EF⟩,Fs,G⟩:=hrel;clear V Y y2 Z ab a2 a3 a4;by_cases bg:k<rows.length
  .obtain⟨r,hr⟩:=aB bg;have bi:(jM (fun r=>cf r q 0) rows k)[k]?=some r:=(nk _ _ _ bg).trans hr;obtain⟨d8,Fu,R⟩:=EF.get bi;obtain⟨dT,d0⟩:=ca.o r (aY hr);obtain⟨b7,cr,rfl,J,bd,_⟩:=R.view;obtain⟨g,rfl,dc,dl⟩:=j5 EF TX;have Ft:=EF.outer;rw[dU _ _ _ hk]at Ft;have z0:ae wr g k (.slice b7 r.length cr):=UM;have y2:ae wr w1.heap.size 2 (.slice (some ⟨g,0,none⟩) rows.length Ff):=a_ Fs 2;have d2:g≠w1.heap.size:=fun e=>XL
   have f0:=Ft.frozenAt k;obtain⟨HO,HW,Fv,Hc,Gj⟩:=mD EF G Fs Fu hr;have cF:q<=r.length:=Rr;have d3:q<=cr:=Rr;have bb:=CJ J q;have a5:=zH bb;clear Ft EF G Fs bi Fu hr bb;rcases AJ R with⟨rfl,rfl,rfl⟩|⟨gr,rfl⟩
   .obtain rfl:q=0:=by simpa using cF
    have ID:=zH (show aJ wr none (List.drop 0 ([]:aH)) from au rfl);simp only[il]at z0;have H:((0:Nat):Int)=0:=rfl;rw[H]at c4;simp only[H];clear R J bd cB H;have L1:=zH (fun(W:aa) (ad:ag wr W)=>(by
     have:=jn (none) (0) ((([]:aH)).take 0) W (a5.o.ext ad) Sp;rw[show((([]:aH)).take 0).length=0 by simp<;>omega]at this;exact this:aw 70 #[.slice (none) 0 (0)] W fun e w'=>∃u,e=.returned u/\aD w' W.heap.size u ((([]:aH)).take 0)/\ag W w'))
    exact Z_
   .obtain⟨A9,c9,ba⟩:=CK J bd q;have ID:=zH ba;clear R J ba;have L1:=zH (fun(W:aa) (ad:ag wr W)=>(by
     have:=jn (some ⟨gr,0,none⟩) (cr) ((r).take q) W (a5.o.ext ad) Sp;rw[show((r).take q).length=q by simp<;>omega]at this;exact this:aw 70 (cg (some ⟨gr,0,none⟩) q (cr)) W fun e w'=>∃u,e=.returned u/\aD w' W.heap.size u ((r).take q)/\ag W w'))
    exact Z9
  .have cA:k=rows.length:=Rr;subst cA;rw[nj _ _ _ (af _)]at EF;have bv:=Fs;have bq:=(G.block _ Rr).trans ci.o;have br:=(G.block _ Rr).trans a6.o;have a1:=(G.block _ Rr).trans cn.o;obtain⟨HO,HE⟩:=bD (show aU wr (w.heap.size+3) (.slice F rows.length Ff) (rows.map (fun r=>cf r q 0)) from⟨_,EF⟩) (b9.o.trans (G.mono Rr));clear EF G Fs;obtain⟨V,Y,y2,Z,ab⟩:=ez br;obtain⟨b2,b3,b4⟩:=aG bq;clear bq br;obtain⟨H,co,cp⟩:=bS bv;obtain⟨cq,ct,cu⟩:=bS a1;obtain⟨c6,c7,c8⟩:=bR a1;simp only[cZ,cP]at H co cp cq ct cu;clear bv a1;go_wp2;refine aE (v:=.agg (ar v (h+1) F rows Ff)) Uy rfl ⟨_,rfl,?_,?_⟩
   .exact Yp
   .exact X_
end Go.Proofs.YtpieilkmmiopfaaGreatDoor
