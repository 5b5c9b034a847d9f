/- Parts of the walks and laws (Do6, Do7, Do5). Conditions: as stated with each. -/
import Derived.Test.YtpieilkmmiopfaaGreatDoorPk4
namespace Go.Proofs.YtpieilkmmiopfaaGreatDoor
open Go.RowKit Tryz
set_option linter.all false
set_option maxHeartbeats 4000000
variable{QQ Ri p:Int}{Rd:aN}{c k:Nat}{xs:aH}
theorem Dd(b p v h:Int)(A:aq)(cap:Nat)(rows:aN)(w:aa)(Z:bk w A rows)(ao:rows.length<=160)(ap:∀r∈rows,r.length<=1000)(a1:0<=v)(a2:v<=1000)(ab:0<=b)(ac:b<=1000)(ad:1<=h)(am:h<=1000)(I:∀r∈rows,v+b<r.length):aw 283 (gQ (bs b) p (ar v h A rows cap)) w fun e w'=>∃u,e=.returned (.agg (dK v (h-1) u))/\aU w' w.heap.size u (rows.map (fun r=>r.eraseIdx (v+b).toNat))/\ag w w':=by
 have N:=zH I;clear I;have O:=zH ap;go_enter func283,ntmps283
 go_wp2_with fail
 refine(xS b v h A cap rows _ (Z.ext (below_alloc3 w _ _ _)) ao O.o a1 a2 ab ac ad am N.o).mono ?_;rintro e a8 ⟨u,rfl,F,D⟩;obtain⟨V,Y,H,_,_,_⟩:=aU.view F;simp only[bh]at H;subst H;obtain⟨a3,a4,J⟩:=cm w (.cells (bs b) 241) (.cells (ar v h A rows cap) 57) (.cells bj 57);have a0:=D.size;simp only[dt]at a0;have G:=cH D J;obtain⟨R,T,U⟩:=bS G;obtain⟨a5,a6,a7⟩:=bR G;simp only[cZ,cP]at R T U;obtain⟨HO,HE⟩:=bD (F.mono (B':=w.heap.size+3) Rq) ((below_alloc3 w _ _ _).trans (D.mono (B':=w.heap.size) Sp));clear F D a3 a4 J G;go_wp2;refine aE (v:=.agg (ar v (h-1) V rows Y)) (by simp[results,results283,go_sem, *]) rfl ⟨_,rfl,?_,?_⟩
 .exact Yp
 .exact X_
theorem De(b p v h:Int)(A:aq)(cap:Nat)(rows:aN)(w:aa)(Z:bk w A rows)(ao:rows.length<=160)(ap:∀r∈rows,r.length<=1000)(a1:0<=v)(a2:v<=1000)(ab:0<=b)(ac:b<=1000)(ad:0<=h)(am:h<=1000)(I:∀r∈rows,v+b<=r.length):aw 286 (gQ (bs b) p (ar v h A rows cap)) w fun e w'=>∃u,e=.returned (.agg (dK v (h+1) u))/\aU w' w.heap.size u (rows.map (fun r=>cf r (v+b).toNat 0))/\ag w w':=by
 have N:=zH I;clear I;have O:=zH ap;go_enter func286,ntmps286
 go_wp2_with fail
 refine(zaz b v h A cap rows _ (Z.ext (below_alloc3 w _ _ _)) ao O.o a1 a2 ab ac ad am N.o).mono ?_;rintro e a8 ⟨u,rfl,F,D⟩;obtain⟨V,Y,H,_,_,_⟩:=aU.view F;simp only[bh]at H;subst H;obtain⟨a3,a4,J⟩:=cm w (.cells (bs b) 242) (.cells (ar v h A rows cap) 57) (.cells bj 57);have a0:=D.size;simp only[dt]at a0;have G:=cH D J;obtain⟨R,T,U⟩:=bS G;obtain⟨a5,a6,a7⟩:=bR G;simp only[cZ,cP]at R T U;obtain⟨HO,HE⟩:=bD (F.mono (B':=w.heap.size+3) Rq) ((below_alloc3 w _ _ _).trans (D.mono (B':=w.heap.size) Sp));clear F D a3 a4 J G;go_wp2;refine aE (v:=.agg (ar v (h+1) V rows Y)) (by simp[results,results286,go_sem, *]) rfl ⟨_,rfl,?_,?_⟩
 .exact Yp
 .exact X_
theorem zam(a b p v F:Int)(A:aq)(cap:Nat)(rows:aN)(w:aa)(ap:bk w A rows)(b8:rows.length<=160)(a3:∀r∈rows,r.length<=1000)(b3:0<=a)(cj:a<rows.length)(ca:0<=v)(cb:v<=1000)(hb:0<=b)(b4:b<=1000)(b6:1<=F)(b7:F<=1000)(a2:∀r∈rows,v+b<r.length):aw 267 (gQ (bf a b) p (ar v F A rows cap)) w fun e w'=>∃u,e=.returned (.agg (dK v (F-1) u))/\aU w' w.heap.size u ((rows.map (fun r=>r.eraseIdx (v+b).toNat)).eraseIdx a.toNat)/\ag w w':=by
 have bi:=zH a2;clear a2;have bo:=zH a3;go_enter func267,ntmps267
 go_wp2_with fail
 refine(xS b v F A cap rows _ (ap.ext (below_alloc3 w _ _ _)) b8 bo.o ca cb hb b4 b6 b7 bi.o).mono ?_;rintro e G ⟨u,rfl,a4,O⟩;obtain⟨h,R⟩:=aM (rows.map (fun r=>r.eraseIdx (v+b).toNat));rw[<-R]at a4;obtain⟨GH,bp⟩:=bD (by rw[R];simp:h.length=rows.length) R;clear R;obtain⟨us,hu⟩:=a4;obtain⟨I,D,rfl,_,_,_⟩:=aU.view ⟨us,hu⟩;obtain⟨a9,ba,bb⟩:=cm w (.cells (bf a b) 237) (.cells (ar v F A rows cap) 57) (.cells bj 57);have b9:=O.size;simp only[dt]at b9;go_upto_region 2 with(fail)
 obtain⟨H,EJ⟩:=aM (G.alloc (.cells (ar v (F-1) I h D) 57));rw[<-EJ];have V:ag G H:=Vj;have cp:H.heap.size=G.heap.size+1:=So;have J:=O.trans (V.mono O.size);have ad:aW H G.heap.size (ar v (F-1) I h D) 57:=Uo;have a7:=cH J a9;have cc:=cH J ba;have a8:=cH J bb;have ab:bC H (w.heap.size+3) (.slice I h.length D) h us:=(hu.ext V).mono Rq;have a6:∀g',I=some ⟨g',0,none⟩->g'<G.heap.size:=fun g' e=>U8
 have a1:ag w H:=(below_alloc3 w _ _ _).trans (J.mono Sp);clear hu O V J a3 a9 ba bb EJ;obtain⟨g,b5,ck,cn⟩:∃g,I=some ⟨g,0,none⟩/\w.heap.size+3<=g/\g<H.heap.size:=j5 ab Tq;subst b5;have co:=a6 g rfl;have bc:=a_ a7 0;have bd:=a_ ad 2;simp only[cZ,cP]at bc bd;obtain⟨U,bg,bq,br⟩:=fU ab a1 a8 ad;clear ab a1 a6 a7 cc a8 ad ap;go_upto_region 3 with(go_at_call 257;refine(q6 (w.heap.size+3) g h.length D a us _ U.o.outer (oA U.o) b3 Tq Tq).mono ?_;rintro e wr ⟨rfl,a5,Y⟩;have N:=(Y.block G.heap.size Rr RS).trans br.o;have T:=zH Y;have HO:=zH a5;have f2:=aK N 2;have c2:=a_ N 2;simp only[cZ,cP]at c2;have ao:=zH N;clear N Y a5)
 have am:=bm wr G.heap.size 2 _ _ (.slice (some ⟨g,0,none⟩) (h.length-1) D) ao.o;simp only[zA]at am;have ac:=(en wr ⟨G.heap.size,2,none⟩ (w.heap.size+1+1) (.slice (some ⟨g,0,none⟩) (h.length-1) D) Sp).trans ((T.o.block _ Rr RS).trans bq.o);have a0:=U.o.erase Tq HO.o T.o;have Z:=a0.kR ao.o (j:=2) (u:=.slice (some ⟨g,0,none⟩) (h.length-1) D);rw[show h.eraseIdx a.toNat=(rows.map (fun r=>r.eraseIdx (v+b).toNat)).eraseIdx a.toNat by rw[bp.o]]at Z;obtain⟨HO,HE⟩:=bD (show aU _ (w.heap.size+3) _ _ from⟨_,Z⟩) ((bg.o.grown T.o Rr fun b hb=>Sx).setCell (p:=⟨G.heap.size,2,none⟩) Sp (.slice (some ⟨g,0,none⟩) (h.length-1) D));clear a0 Z c2 f2 bc bd;obtain⟨bu,bv,bz⟩:=bS am;obtain⟨b0,b1,b2⟩:=bS ac;obtain⟨ce,ch,ci⟩:=bR ac;simp only[cZ,cP]at bu bv bz b0 b1 b2;clear am ac;go_wp2;refine aE (v:=.agg (fy v (F-1) (some ⟨g,0,none⟩) (h.length-1) D)) (by simp[results,results267,go_sem, *]) rfl ⟨_,rfl,?_,?_⟩
 .exact Yp
 .exact X_
theorem za1(a b p v G:Int)(A R:aq)(cap U:Nat)(xs:aH)(rows:aN)(w:aa)(bo:bk w A rows)(cB:rows.length<=160)(bv:∀r∈rows,r.length<=1000)(bq:aJ w R xs)(dq:xs.length<=1000)(cr:0<=a)(c9:a<=rows.length)(cI:0<=v)(cO:v<=1000)(F:0<=b)(cu:b<=1000)(cz:0<=G)(cA:G<=1000)(bu:∀r∈rows,v+b<=r.length):aw 274 (gQ (ar a b R xs U) p (ar v G A rows cap)) w fun e w'=>∃u,e=.returned (.agg (dK v (G+1) u))/\aU w' w.heap.size u (cf (rows.map (fun r=>cf r (v+b).toNat 0)) a.toNat xs)/\ag w w':=by
 obtain⟨b8,cc⟩:=bD bu bq;clear bu bq;have b9:=zH bv;go_enter func274,ntmps274
 go_wp2_with fail
 refine(zaz b v G A cap rows _ (bo.ext (below_alloc3 w _ _ _)) cB b9.o cI cO F cu cz cA b8.o).mono ?_;rintro e D ⟨u,rfl,bz,ad⟩;obtain⟨h,ap⟩:=aM (rows.map (fun r=>cf r (v+b).toNat 0));rw[<-ap]at bz;obtain⟨GH,ca⟩:=bD (by rw[ap];simp:h.length=rows.length) ap;clear ap;obtain⟨us,hu⟩:=bz;obtain⟨I,J,rfl,_,_,_⟩:=aU.view ⟨us,hu⟩;obtain⟨b5,b6,b7⟩:=cm w (.cells (ar a b R xs U) 239) (.cells (ar v G A rows cap) 57) (.cells bj 57);have cF:=ad.size;simp only[dt]at cF;go_upto_region 2 with(fail)
 obtain⟨H,EJ⟩:=aM (D.alloc (.cells (ar v (G+1) I h J) 57));rw[<-EJ];have a5:ag D H:=Vj;have dc:H.heap.size=D.heap.size+1:=So;have Y:=ad.trans (a5.mono ad.size);have a9:aW H D.heap.size (ar v (G+1) I h J) 57:=Uo;have a7:=cH Y b5;have c3:=cH Y b6;have b4:=cH Y b7;have b1:bC H (w.heap.size+3) (.slice I h.length J) h us:=(hu.ext a5).mono Rq;have b2:∀g',I=some ⟨g',0,none⟩->g'<D.heap.size:=fun g' e=>U8
 have br:ag w H:=(below_alloc3 w _ _ _).trans (Y.mono Sp);clear hu ad a5 Y bv b5 b6 b7 EJ;have ct:a<=h.length:=Tq;have db:h.length<=160:=Tq;have a0:=a_ a7 0;have bc:=a_ a7 2;have a1:=a_ a9 2;simp only[cZ,cP]at a0 bc a1;obtain⟨ab,bd,ch,ci,cb⟩:=mD b1 br b4 a9 b2;clear b1 br b2 a7 c3 b4 a9 bo;refine cR (S:=fun w'=>ae w' w.heap.size 0 (.int .i64 a)/\ae w' w.heap.size 2 (.slice R xs.length U)/\ae w' D.heap.size 2 (.slice I h.length J)) 10 RP ⟨a0,bc,a1⟩ (fun hHeld=>?_);refine aP 0 ?_;simp only[Act.put,zA];refine aP 1 ?_;simp only[Act.put,zA];refine aP 2 ?_;simp only[Act.put,zA];refine aP 3 ?_;simp only[Act.put,zA];refine aP 4 ?_;simp only[Act.put,zA];refine aP 5 ?_;simp only[Act.put,zA];have bi:∀bb,ag H bb->(fun w':World=>ae w' w.heap.size 0 (.int .i64 a)/\ae w' w.heap.size 2 (.slice R xs.length U)/\ae w' D.heap.size 2 (.slice I h.length J)) bb:=fun bb F=>
  ⟨al F a0,al F bc,al F a1⟩
 refine cw 6 fun K hK=>?_
 go_simp;refine(ls R U xs _ ((cc.o.ext bd.o).ext (aj _ _).drew) Rr).mono ?_;rintro e Z ⟨dr,rfl,a6,N⟩;have N:ag H Z:=(aj _ _).drew.trans N;obtain⟨a2,a3,b3,_⟩:=a6.view;try simp only[iF]at b3
 subst b3;dsimp only;refine hK.out _ _ (fun _=>bi Z N) (fun hHeld=>?_);clear hK K;try simp only[Act.put,zA]
 have hHeld:=hHeld Rs;have ce:=zH a6;clear a6;refine cw 7 fun K hK=>?_
 go_simp;have O:Below H.heap.size H (Z.alloc (.cells (aO a2 xs a3) 26)):=N.alloc N.size _;refine hK.out _ _ (fun _=>bi _ O) (fun hHeld=>?_);clear hK K;try simp only[Act.put,zA]
 have hHeld:=hHeld Rs;refine cw 8 fun K hK=>?_
 go_simp;have dl:=N.size;have a4:=ab.o.ext O;have Fq:∀b,(Value.slice I h.length J).ownBlock=some b->w.heap.size+3<=b/\b<D.heap.size:=fun b F=>⟨(bL ab.o.outer b F).1,by
  rcases ab.o.outer.2 with⟨h1,_⟩|⟨g',c4,c5,h1,_⟩
  .rw[h1]at F;cases F
  .rw[h1]at F;cases F;exact cb.o g' UH⟩
 refine(rR (w.heap.size+3) h.length Z.heap.size a (.slice I h.length J) us (.slice a2 xs.length a3) _ a4.outer (oA a4) rfl (aC _ _ rfl) (fun e=>by have:=Fq _ e;omega) cr ct Rr Sp).mono ?_;rintro e wr ⟨g,V,rfl,b0,T,_⟩;dsimp only;have am:∀p:dk,p.block=w.heap.size∨p.block=w.heap.size+1∨p.block=D.heap.size->∀x,(Z.alloc (.cells (aO a2 xs a3) 26)).cell? p=some x->wr.cell? p=some x:=fun p ao x c0=>T.cell c0 (fun e=>by have:=Fq _ e.symm;rcases ao with ao|ao|ao <;>omega)
 refine hK.out _ _ (fun _=>⟨am _ (au rfl) _ hHeld.1,am _ (au rfl) _ hHeld.2.1,am _ (an (an rfl)) _ hHeld.2.2⟩) (fun hHeld=>?_);clear hK K;try simp only[Act.put,zA]
 have hHeld:=hHeld Rs;refine cw 9 fun K hK=>?_
 go_simp;refine hK.out _ _ (fun _=>hHeld) (fun hHeld=>?_);clear hK K;try simp only[Act.put,zA]
 have ac:wr.heap[D.heap.size]?=_:=(T.block D.heap.size Sp (fun e=>Ur)).trans ((O.block D.heap.size Rr).trans ci.o);have bg:=zH ac;have f2:=aK ac 2;have c2:=a_ ac 2;simp only[cZ,cP]at c2;clear ac am hHeld;refine cw 10 fun K hK=>?_
 go_simp;refine hK.out _ _ (fun G=>absurd G Rs) (fun _=>?_);clear hK K;try simp only[Act.put,zA]
 refine gN RP ?_ _;have ba:=bm wr D.heap.size 2 _ _ (.slice (some ⟨g,0,none⟩) (h.length+1) V) bg.o;simp only[zA]at ba;have a8:=(en wr ⟨D.heap.size,2,none⟩ (w.heap.size+1+1) (.slice (some ⟨g,0,none⟩) (h.length+1) V) Sp).trans ((T.block _ Sp (fun e=>Ur)).trans ((O.block _ Rr).trans ch.o));have bp:=ab.o.insert O (ce.o.ext ((aj _ _).alloc (af _) _)) Rr Rr b0 T;obtain⟨HO,HE⟩:=bD (show aU _ (w.heap.size+3) _ _ from⟨_,bp.kR bg.o (j:=2) (u:=.slice (some ⟨g,0,none⟩) (h.length+1) V)⟩) ((oT (bd.o.trans (O.mono Rr)) T Sp fun b F=>by have:=Fq b F;omega).setCell (p:=⟨D.heap.size,2,none⟩) Sp (.slice (some ⟨g,0,none⟩) (h.length+1) V));clear bp c2 f2 a0 a1 T b0 N O a4 Fq;rw[show h.take a.toNat++xs::h.drop a.toNat=cf (rows.map (fun r=>cf r (v+b).toNat 0)) a.toNat xs by rw[ca.o];rfl]at HO;obtain⟨cj,ck,cn⟩:=bS ba;obtain⟨co,cp,cq⟩:=bS a8;obtain⟨c6,c7,c8⟩:=bR a8;simp only[cZ,cP]at cj ck cn co cp cq;clear ba a8;go_wp2;refine aE (v:=.agg (fy v (G+1) (some ⟨g,0,none⟩) (h.length+1) V)) (by simp[results,results274,go_sem, *]) rfl ⟨_,rfl,?_,?_⟩
 .exact Yp
 .exact X_
theorem zd2(a b c p v J:Int)(n:Nat)(A:aq)(cap:Nat)(rows:aN)(w:aa)(ba:bk w A rows)(d1:rows.length<=160)(EM:∀r∈rows,r.length<=1000)(ct:1<=p)(cu:p<=1000)(c5:0<=a)(c6:a<rows.length)(hb:0<=b)(c8:b<rows.length)(c7:a≠b)(c9:0<=c)(db:c<=1000)(hx:∀r∈rows,∀x∈r,0<=x/\x<=1000)(d2:1<=n)(a2:∀r∈rows,r.length=n):aw 252 (gQ (fP a b c) p (ar v J A rows cap)) w fun e w'=>∃u,e=.returned (.agg (dK v J u))/\aU w' w.heap.size u (rows.set b.toNat (dD p c (rows.getD b.toNat []) (rows.getD a.toNat [])))/\ag w w':=by
 obtain⟨F,Fk⟩:=aB (Rr:a.toNat<rows.length);obtain⟨H,FE⟩:=aB (Rr:b.toNat<rows.length);obtain⟨b5,b7,cc,ce,Y,Z⟩:=kE (TN:rows.getD a.toNat []=F) (TM:rows.getD b.toNat []=H) (show ∀x∈F,0<=x/\x<=1000 from hx F (aY Fk)) (show ∀x∈H,0<=x/\x<=1000 from hx H (aY FE)) (a2 F (aY Fk)) (a2 H (aY FE));have d4:F.length<=1000:=EM F (aY Fk);clear hx a2;obtain⟨b8,b9⟩:=bD (Rr:rows.length<=1048576) (show ∀r∈rows,r.length<=1048576 from fun r hr=>T3);go_enter func252,ntmps252
 go_wp2_with fail
 refine(kH _ _ _ _ _ _ (ba.ext (((aj _ _).alloc Rq _ |>.alloc Rq _).alloc Sp _)) b8.o b9.o).mono ?_;rintro e I ⟨u,rfl,⟨us,hu⟩,ab⟩;obtain⟨R,U,rfl,_,_,_⟩:=aU.view ⟨us,hu⟩;obtain⟨br,bu,bv⟩:=cm w (.cells (fP a b c) 233) (.cells (ar v J A rows cap) 57) (.cells bj 57);have cz:=ab.size;simp only[dt]at cz;go_upto_region 2 with(fail)
 obtain⟨G,EJ⟩:=aM (I.alloc (.cells (ar v J R rows U) 57));rw[<-EJ];have a1:ag I G:=Vj;have d5:G.heap.size=I.heap.size+1:=So;have V:=ab.trans (a1.mono ab.size);have a5:aW G I.heap.size (ar v J R rows U) 57:=Uo;have bo:=cH V br;have cA:=cH V bu;have bp:=cH V bv;have Fa:bC G (w.heap.size+3) (.slice R rows.length U) rows us:=(hu.ext a1).mono Rq;have bi:∀g',R=some ⟨g',0,none⟩->g'<I.heap.size:=fun g' e=>U8
 have N:∀(k:Nat) (x:ax),us[k]?=some x->∀b,x.ownBlock=some b->b<I.heap.size:=fun k x hx b hb=>VA
 have bc:ag w G:=(below_alloc3 w _ _ _).trans (V.mono Sp);clear hu ab a1 V ba EM br bu bv EJ;obtain⟨d6,Fx,a3⟩:=Fa.get Fk;obtain⟨d7,GQ,O⟩:=Fa.get FE;obtain⟨g,cr,dc,dT⟩:∃g,R=some ⟨g,0,none⟩/\w.heap.size+3<=g/\g<G.heap.size:=j5 Fa Rr;subst cr;have d0:=bi g rfl;obtain⟨cB,ap,rfl,a9,_⟩:=a3.view;obtain⟨cF,a0,rfl,_,_⟩:=O.view;obtain⟨T,rfl,dl,_⟩:=kh a3 (by have:=Y.o;omega);obtain⟨D,rfl,dq,_⟩:=kh O (by have:=Z.o;omega);have dr:=N _ _ GQ D rfl;have d3:T≠D:=fun e=>by have:=Fa.apart _ _ _ _ T Fx GQ rfl (by rw[e];rfl);omega
 have bd:g≠D:=by
  rcases fv Fa.outer O with h1|h1
  .cases h1
  .exact Wo
 obtain⟨ac,ad,am⟩:=bS bo;have ao:=a_ a5 2;simp only[cZ,cP]at ac ad am ao;have a6:ae G g a.toNat (.slice (some ⟨T,0,none⟩) F.length ap):=Vg;have a7:ae G g b.toNat (.slice (some ⟨D,0,none⟩) H.length a0):=Vm;obtain⟨ca,b6,cb,cO,cI,ch,ci,a8⟩:=zH8 Fa bc GQ FE O bp a5 (pR p c (w.heap.size+3) D a0 ap (some ⟨T,0,none⟩) H F G.drew ct cu Rr Rr (wE O) (a9.ext (aj _ _).drew) (fun b o e=>by simp only[dZ,sG]at e;omega) (by rw[Y.o,Z.o]) (by have:=Z.o;have:=Y.o;omega) ce.o cc.o);clear Fa bc Fx GQ a3 O Fk FE a9 bi N bo cA bp a5;go_region_held3 (fun w'=>ae w' w.heap.size 0 (.int .i64 a)/\ae w' w.heap.size 1 (.int .i64 b)/\ae w' w.heap.size 2 (.int .i64 c)/\ae w' I.heap.size 2 (.slice (some ⟨g,0,none⟩) rows.length U)/\ae w' g a.toNat (.slice (some ⟨T,0,none⟩) F.length ap)/\ae w' g b.toNat (.slice (some ⟨D,0,none⟩) H.length a0))
  (first|exact bb|exact⟨ac,ad,am,ao,a6,a7⟩)
  ((go_at_call 176;refine a8.o.mono ?_;rintro e wr ⟨rfl,bg,h⟩;have bz:=oe h (a:=⟨w.heap.size,0,none⟩) ac (Rr:w.heap.size≠D);have b0:=oe h (a:=⟨w.heap.size,1,none⟩) ad (Rr:w.heap.size≠D);have b1:=oe h (a:=⟨w.heap.size,2,none⟩) am (Rr:w.heap.size≠D);have b2:=oe h (a:=⟨I.heap.size,2,none⟩) ao (Rr:I.heap.size≠D);have b3:=oe h (a:=⟨g,a.toNat,none⟩) a6 bd;have b4:=oe h (a:=⟨g,b.toNat,none⟩) a7 bd;have bb:=aF bz (aF b0 (aF b1 (aF b2 (aF b3 b4))))))
 have h:=bN (dP G (some D)) h;have bq:=(h.block I.heap.size Rr RS).trans ci.o;have a4:=(h.block (w.heap.size+1+1) Rr RS).trans ch.o;have N:=ca.o.inner (r':=dD p c H F) cb.o h (by
  unfold aD;rw[show(dD p c H F).length=H.length by simp[dD,Y.o,Z.o]];exact bg)
 rw[<-b5.o,<-b7.o]at N;obtain⟨HO,HE⟩:=bD (show aU wr (w.heap.size+3) _ _ from⟨_,N⟩) (b6.o.grown h Rr fun b hb=>Sx);clear bg h N bz b0 b1 b2 b3 b4 bb ac ad am ao a6 a7 a8;obtain⟨cj,ck,cn⟩:=bS bq;obtain⟨co,cp,cq⟩:=bS a4;obtain⟨c0,c3,c4⟩:=bR a4;simp only[cZ,cP]at cj ck cn co cp cq;clear bq a4;go_wp2;refine aE (v:=.agg (ar v J (some ⟨g,0,none⟩) rows U)) U7 rfl ⟨_,rfl,?_,?_⟩
 .exact Yp
 .exact X_
def eJ(k:Int):Bool:=!(k==8||k==9)
def eK(k:Int):Bool:=k==1||k==6||k==3||k==7||k==8||k==9
def eL(k:Int):Bool:=k==2||k==3
def eN(k:Int):Bool:=k==7
theorem bY(k:Int)(w:aa):aw 192 (bs k) w fun e w'=>e=.returned (.agg #[.bool (eJ k),.bool (eK k),.bool (eL k),.bool (eN k)])/\ag w w':=by
 by_cases h:k=1
 .subst h;go_enter oZ,o_;go_wp2;exact aE (v:=.agg #[.bool true,.bool true,.bool false,.bool false]) Uk rfl ⟨rfl,(aj _ _).alloc (af _) _⟩
 by_cases G:k=6
 .subst G;go_enter oZ,o_;go_wp2;exact aE (v:=.agg #[.bool true,.bool true,.bool false,.bool false]) Uk rfl ⟨rfl,(aj _ _).alloc (af _) _⟩
 by_cases D:k=2
 .subst D;go_enter oZ,o_;go_wp2;exact aE (v:=.agg #[.bool true,.bool false,.bool true,.bool false]) Uk rfl ⟨rfl,(aj _ _).alloc (af _) _⟩
 by_cases F:k=3
 .subst F;go_enter oZ,o_;go_wp2;exact aE (v:=.agg #[.bool true,.bool true,.bool true,.bool false]) Uk rfl ⟨rfl,(aj _ _).alloc (af _) _⟩
 by_cases H:k=7
 .subst H;go_enter oZ,o_;go_wp2;exact aE (v:=.agg #[.bool true,.bool true,.bool false,.bool true]) Uk rfl ⟨rfl,(aj _ _).alloc (af _) _⟩
 by_cases I:k=8
 .subst I;go_enter oZ,o_;go_wp2;exact aE (v:=.agg #[.bool false,.bool true,.bool false,.bool false]) Uk rfl ⟨rfl,(aj _ _).alloc (af _) _⟩
 by_cases J:k=9
 .subst J;go_enter oZ,o_;go_wp2;exact aE (v:=.agg #[.bool false,.bool true,.bool false,.bool false]) Uk rfl ⟨rfl,(aj _ _).alloc (af _) _⟩
 go_enter oZ,o_
 go_wp2;exact aE (v:=.agg #[.bool true,.bool false,.bool false,.bool false]) Uk rfl ⟨by simp[eJ,eK,eL,eN, *],(aj _ _).alloc (af _) _⟩
theorem cW(p v h:Int)(A:aq)(cap:Nat)(rows:aN)(w:aa)(ao:eB w)(ap:bk w A rows)(J:rows.length<=maxLen)(N:∀r∈rows,r.length<=maxLen):aw 67 (ig p (ar v h A rows cap)) w fun e w'=>(j_ p v h rows=true->e=.returned (.tuple (fA (ar v h A rows cap))))/\(j_ p v h rows=false->e=.returned (.tuple (cJ bj)))/\ag w w':=by
 obtain⟨V,U⟩:=bD N J;clear N J;go_enter func67,ntmps67
 go_wp2_with fail
 have D:Below w.heap.size w ((w.alloc (.cells (ar v h A rows cap) 57)).alloc (.cells bj 57)):=((aj w.heap.size w).alloc Rq _).alloc Rq _;refine(C_ p v h A cap rows _ (ao.ext D) (ap.ext D) U.o V.o).mono ?_;rintro e a3 ⟨rfl,F⟩;have R:((w.alloc (.cells (ar v h A rows cap) 57)).alloc (.cells bj 57)).heap[w.heap.size]?=some (.cells (ar v h A rows cap) 57 (0,0)):=(bJ _ _ Rq).trans (aC _ _ rfl);have T:((w.alloc (.cells (ar v h A rows cap) 57)).alloc (.cells bj 57)).heap[w.heap.size+1]?=some (.cells bj 57 (0,0)):=aC _ _ Rq;have O:=cH F R;have I:=cH F T;obtain⟨Y,Z,ab⟩:=bS O;obtain⟨ac,ad,am⟩:=bS I;obtain⟨a0,a1,a2⟩:=bR I;simp only[cZ,cP]at Y Z ab ac ad am;have HE:=zH (D.trans (F.mono (B':=w.heap.size) Sp));clear D F R T O I;cases G:j_ p v h rows
 .have H:=zH G;clear G;go_wp2;refine aE (v:=.tuple (cJ bj)) UR rfl ⟨fun h=>(by rw[H.o]at h;cases h),fun _=>rfl,?_⟩;exact X_
 .have H:=zH G;clear G;go_wp2;refine aE (v:=.tuple (fA (ar v h A rows cap))) UR rfl ⟨fun _=>rfl,fun h=>(by rw[H.o]at h;cases h),?_⟩;exact X_
structure Sys(p v h:Int)(rows:aN):Prop where
 f:cN p=true
 p2:2<=p
 p97:p<=97
 v0:0<=v
 v24:v<=24
 h0:0<=h
 h100:h<=100
 n:rows.length<=160
 len:∀r∈rows,(r.length:Int)=v+h
 el:∀r∈rows,∀x∈r,0<=x/\x<p
theorem cX{n lo hi:Int}:et n lo hi=true↔lo<=n/\n<=hi:=by simp[et]
theorem gh{a:Int}:jX p a=true↔0<=a/\a<p:=by simp[jX]
theorem jO{n:Int}:rI p xs n=true↔(xs.length:Int)=n/\∀x∈xs,0<=x/\x<p:=by simp[rI,jX]
theorem zdK{n:Int}{rows:aN}:Ax p rows n=true↔∀r∈rows,(r.length:Int)=n/\∀x∈r,0<=x/\x<p:=by simp[Ax,jO]
theorem di(h:cN p=true):2<=p/\p<=97:=by unfold cN at h;rw[bE]at h;exact cX.1 h.1
theorem AA{v:Int}{rows:aN}:j_ p v Ri rows=true↔Sys p v Ri rows:=by
 unfold j_;simp only[bE,cX,zdK,bX];constructor
 .rintro⟨a,⟨D,F⟩,⟨c1,c2⟩,d,e⟩;exact⟨a,(di a).1,(di a).2,D,F,c1,c2,d,fun r h=>(e r h).1,fun r h=>(e r h).2⟩
 .intro s;exact⟨s.f,⟨s.v0,s.v24⟩,⟨s.h0,s.h100⟩,s.n,fun r h=>⟨s.len r h,s.el r h⟩⟩
theorem nK{a b:Bool}(h:a=true↔b=true):a=b:=by cases a<;>cases b<;>simp_all
def mu(k a b c:Int)(n:Nat):Bool:=
 ((k !=8&&k !=9)||a==0)&&(((k !=2&&(k !=4&&k !=5))||b==0)&&((k==2||(k==3||c==0))&&(k==7||n==0)))
def lC(p v h:Int)(rows:aN)(k a b c:Int)(row:aH):Bool:=
 mu k a b c row.length&&
 (if k=1 then et a 0 ((rows.length:Int)-1)&&(et b 0 ((rows.length:Int)-1)&&(a !=b))
 else if k=2 then et a 0 ((rows.length:Int)-1)&&et c 1 (p-1)
 else if k=3 then(et a 0 ((rows.length:Int)-1)&&(et b 0 ((rows.length:Int)-1)&&(a !=b)))&&et c 0 (p-1)
 else if k=4 then et a 0 ((rows.length:Int)-1)&&(rows.getD a.toNat []).all (fun x=>et x 0 0)
 else if k=5 then et a 0 (rows.length:Int)&&decide (rows.length<160)
 else if k=6 then et a 0 ((rows.length:Int)-1)&&(et b 0 (h-1)&&rU (my rows (v+b).toNat) a)
 else if k=7 then et a 0 (rows.length:Int)&&(et b 0 h&&(decide (rows.length<160)&&(decide (h<100)&&(decide ((row.length:Int)=v+h+1)&&(row.all (jX p)&&(row.getD (v+b).toNat 0 !=0))))))
 else if k=8 then et b 0 (h-1)&&(my rows (v+b).toNat).all (fun x=>et x 0 0)
 else if k=9 then et b 0 h&&decide (h<100)
 else false)
def j4(p v h:Int)(rows:aN)(k a b c:Int)(row:aH):Bool:=
 if k=1 then et a 0 ((rows.length:Int)-1)&&(et b 0 ((rows.length:Int)-1)&&(a !=b))
 else if k=2 then et a 0 ((rows.length:Int)-1)&&(jX p c&&(c !=0))
 else if k=3 then et a 0 ((rows.length:Int)-1)&&(et b 0 ((rows.length:Int)-1)&&((a !=b)&&jX p c))
 else if k=4 then et a 0 ((rows.length:Int)-1)&&yj (rows.getD a.toNat [])
 else if k=5 then et a 0 (rows.length:Int)
 else if k=6 then et a 0 ((rows.length:Int)-1)&&(et b 0 (h-1)&&(((rows.getD a.toNat []).getD (v+b).toNat 0 !=0)&&pB rows (v+b).toNat a))
 else if k=7 then et a 0 (rows.length:Int)&&(et b 0 h&&(rI p row (v+h+1)&&(row.getD (v+b).toNat 0 !=0)))
 else if k=8 then et b 0 (h-1)&&pB rows (v+b).toNat (-1)
 else if k=9 then et b 0 h
 else false
def eS(k h:Int):Int:=if k=6∨k=8 then h-1 else if k=7∨k=9 then h+1 else h
def bT(p v:Int)(rows:aN)(k a b c:Int)(row:aH)(n:Nat):List (List Int):=
 if k=1 then(rows.set a.toNat (rows.getD b.toNat [])).set b.toNat (rows.getD a.toNat [])
 else if k=2 then rows.set a.toNat (iZ p c (rows.getD a.toNat []))
 else if k=3 then rows.set b.toNat (dD p c (rows.getD b.toNat []) (rows.getD a.toNat []))
 else if k=4 then rows.eraseIdx a.toNat
 else if k=5 then cf rows a.toNat (List.replicate n 0)
 else if k=6 then(rows.map (fun r=>r.eraseIdx (v+b).toNat)).eraseIdx a.toNat
 else if k=7 then cf (rows.map (fun r=>cf r (v+b).toNat 0)) a.toNat row
 else if k=8 then rows.map (fun r=>r.eraseIdx (v+b).toNat)
 else if k=9 then rows.map (fun r=>cf r (v+b).toNat 0)
 else rows
theorem zh7(x:Int):et x 0 0=decide (x=0):=by apply nK;rw[cX,bX];omega
theorem zcz(xs:aH):xs.all (fun x=>et x 0 0)=yj xs:=by simp only[zh7];rfl
theorem zdL{a:Int}:rU xs a=true↔∀(k:Nat) (x:Int),xs[k]?=some x->((k:Int)=a↔x≠0):=by
 unfold rU;simp only[fZ,mU];constructor
 .intro F k x h;have:=F (x,k) (by rw[fk];exact⟨k,by simp[h]⟩);exact wM.1 this
 .intro F y G;obtain⟨k,D⟩:=fk.1 G;rw[D6]at D;cases h:xs[k]? with
  |none=>simp[h]at D
  |some x=>simp[h]at D;subst D;exact wM.2 (F k x h)
theorem zaC{rows:aN}{but:Int}:pB rows c but=true↔∀(k:Nat) (r:aH),rows[k]?=some r->(k:Int)=but∨r.getD c 0=0:=by
 unfold pB;simp only[fZ,iG,bX];constructor
 .intro D k r G;exact D (r,k) (by rw[fk];exact⟨k,by simp[G]⟩)
 .intro D y H;obtain⟨k,h⟩:=fk.1 H;rw[D6]at h;cases F:rows[k]? with
  |none=>simp[F]at h
  |some x=>simp[F]at h;subst h;exact D k x F
theorem vp{rows:aN}{x:Int}:(my rows c)[k]?=some x↔∃r,rows[k]?=some r/\r.getD c 0=x:=by unfold my;rw[cC];cases rows[k]? <;>simp
theorem yc{rows:aN}{a:Int}(V:0<=a)(Y:a<=(rows.length:Int)-1):(((rows.getD a.toNat []).getD c 0 !=0)&&pB rows c a)=rU (my rows c) a:=by
 apply nK;rw[bE,zaC,zdL];have O:a.toNat<rows.length:=Rr;have F:rows[a.toNat]?=some rows[a.toNat]:=dL O;have J:rows.getD a.toNat []=rows[a.toNat]:=by simp[List.getD,F]
 rw[J];constructor
 .rintro⟨R,N⟩ k x T;obtain⟨r,h,rfl⟩:=vp.1 T;constructor
  .intro G;have:k=a.toNat:=Rr;subst this;rw[F]at h;cases h
   simpa using R
  .intro U;rcases N k r h with D|D
   .exact D
   .exact absurd D U
 .intro H;constructor
  .have:=(H a.toNat _ (vp.2 ⟨_,F,rfl⟩)).1 Rr;simpa using this
  .intro k r h;have:=H k _ (vp.2 ⟨r,h,rfl⟩);by_cases G:(k:Int)=a
   .exact au G
   .right;by_cases I:r.getD c 0=0
    .exact I
    .exact absurd (this.2 I) G
theorem yd(rows:aN)(c:Nat):pB rows c (-1)=yj (my rows c):=by
 apply nK;rw[zaC];unfold yj;simp only[fZ,bX];constructor
 .intro h x H;obtain⟨k,G⟩:=fk.1 H;obtain⟨r,D,rfl⟩:=vp.1 G;rcases h k r D with F|F
  .omega
  .exact F
 .intro h k r D;exact an (h _ (fk.2 ⟨k,vp.2 ⟨r,D,rfl⟩⟩))
theorem vq{rows:aN}(h:k<rows.length):rows.getD k []∈rows:=by rw[bP,dL h];exact zi h
theorem mem_set{h:Type}{l:List h}{x y:h}(D:y∈l.set k x):y∈l∨y=x:=List.mem_or_eq_of_mem_set D
theorem xy{D:Type}{l:List D}{x y:D}(h:y∈cf l k x):y∈l∨y=x:=by
 unfold cf at h;rcases eh.1 h with h|h
 .exact au (wG h)
 .rcases dQ.1 h with h|h
  .exact an h
  .exact au (ko h)
theorem pv{h:Type}(l:List h)(k:Nat)(x:h):(cf l k x).length=l.length+1:=by unfold cf;simp;omega
theorem zfh{v:Int}{rows:aN}(s:Sys p v Ri rows)(a:0<=QQ)(D:∀r∈Rd,(r.length:Int)=v+QQ/\∀x∈r,0<=x/\x<p):j_ p v QQ Rd=(decide (QQ<=100)&&decide (Rd.length<=160)):=by apply nK;rw[AA,bE,bX,bX];exact⟨fun t=>⟨t.h100,t.n⟩,fun t=>⟨s.f,s.p2,s.p97,s.v0,s.v24,a,t.1,t.2,fun r h=>(D r h).1,fun r h=>(D r h).2⟩⟩
theorem zaD{x:Int}(h:2<=p):0<=x%p/\x%p<p:=⟨gU _ Rr,gV _ Rr⟩
theorem nL(p b:Int)(xs ys:aH):(dD p b xs ys).length=min xs.length ys.length:=by simp[dD]
theorem zdM{b:Int}{ys:aH}(F:2<=p):∀x∈dD p b xs ys,0<=x/\x<p:=by
 intro x D;unfold dD at D;obtain⟨k,h⟩:=fk.1 D;rw[D0]at h;cases G:xs[k]? <;>cases H:ys[k]? <;>simp[G,H]at h
 subst h;exact zaD F
theorem zdN{b:Int}(h:2<=p):∀x∈iZ p b xs,0<=x/\x<p:=by intro x D;obtain⟨y,_,rfl⟩:=cM.1 D;exact zaD h
abbrev Good(p n:Int)(r:aH):Prop:=(r.length:Int)=n/\∀x∈r,0<=x/\x<p
theorem AB{n:Int}{r:aH}(g:Good p n r)(h:k<r.length):Good p (n-1) (r.eraseIdx k):=by refine⟨?_,fun x D=>g.2 x (wD D)⟩;rw[wC h];have:=g.1;omega
theorem zaE{n:Int}{r:aH}(F:2<=p)(g:Good p n r):Good p (n+1) (cf r k 0):=by
 refine⟨?_,fun x D=>?_⟩
 .rw[pv];have:=g.1;omega
 .rcases xy D with h|rfl
  .exact g.2 x h
  .omega
theorem Sys.ziv{v:Int}{rows:aN}(s:Sys p v Ri rows):∀r∈rows,Good p (v+Ri) r:=fun r h=>⟨s.len r h,s.el r h⟩
theorem gk{v:Int}{rows:aN}(s:Sys p v Ri rows){k a b c:Int}{row:aH}(D:j4 p v Ri rows k a b c row=true):(∀r∈bT p v rows k a b c row (v+Ri).toNat,Good p (v+eS k Ri) r)/\0<=eS k Ri/\(bT p v rows k a b c row (v+Ri).toNat).length<=161:=by
 have ao:=s.n;have h0:=s.h0;have ap:=s.v0;have G:=s.ziv;have N:∀i:Int,0<=i->i<=(rows.length:Int)-1->Good p (v+Ri) (rows.getD i.toNat []):=fun i T U=>G _ (vq Rr)
 unfold j4 at D;unfold bT eS;by_cases T:k=1
 .subst T;simp only[m8,bE,cX]at D;obtain⟨⟨F,H⟩,⟨I,J⟩,_⟩:=D;refine⟨?_,R_,RS⟩;simp;intro r h;rcases mem_set h with h|rfl
  .rcases mem_set h with h|rfl
   .exact G r h
   .exact N b I J
  .exact N a F H
 by_cases U:k=2
 .subst U;simp[cX,gh]at D;obtain⟨⟨F,H⟩,_⟩:=D;refine⟨?_,R_,RS⟩;simp;intro r h;rcases mem_set h with h|rfl
  .exact G r h
  .exact⟨by have:=(N a F H).1;simpa[iZ]using this,zdN s.p2⟩
 by_cases V:k=3
 .subst V;simp[cX,gh]at D;obtain⟨⟨F,H⟩,⟨I,J⟩,_⟩:=D;refine⟨?_,R_,RS⟩;simp;intro r h;rcases mem_set h with h|rfl
  .exact G r h
  .refine⟨?_,zdM s.p2⟩;rw[nL];have O:=(N a F H).1;have R:=(N b I J).1;simp only[bP]at O R;omega
 by_cases Y:k=4
 .subst Y;refine⟨?_,R_,by simp[mY];split<;>omega⟩;simp;intro r h;exact G r (wD h)
 by_cases O:k=5
 .subst O;refine⟨?_,R_,by simp[pv];omega⟩;simp;intro r h;rcases xy h with h|rfl
  .exact G r h
  .exact⟨RS,fun x ad=>by rw[List.eq_of_mem_replicate ad];have:=s.p2;omega⟩
 by_cases R:k=6
 .subst R;simp[cX]at D;obtain⟨⟨F,H⟩,⟨I,J⟩,_⟩:=D;refine⟨?_,RS,by simp[mY];split<;>omega⟩;simp;intro r h;obtain⟨q,hq,rfl⟩:=cM.1 (wD h);exact Yf
 by_cases Z:k=7
 .subst Z;simp[cX,jO]at D;obtain⟨⟨F,H⟩,⟨I,J⟩,⟨a0,am⟩,_⟩:=D;refine⟨?_,RS,by simp[pv];omega⟩;simp;intro r h;rcases xy h with h|rfl
  .obtain⟨q,hq,rfl⟩:=cM.1 h;exact XI
  .exact⟨Rr,am⟩
 by_cases ab:k=8
 .subst ab;simp[cX]at D;obtain⟨⟨I,J⟩,_⟩:=D;refine⟨?_,RS,RS⟩;simp;intro q hq;exact Yf
 by_cases ac:k=9
 .subst ac;simp[cX]at D;refine⟨?_,RS,RS⟩;simp;intro q hq;exact XI
 simp[*]at D
theorem pb{v:Int}{rows:aN}(s:Sys p v Ri rows)(k a b c:Int)(row:aH):lC p v Ri rows k a b c row=(mu k a b c row.length&&(j4 p v Ri rows k a b c row&&j_ p v (eS k Ri) (bT p v rows k a b c row (v+Ri).toNat))):=by
 unfold lC;congr 1
 cases h:j4 p v Ri rows k a b c row with
 |false=>
  rw[kq];unfold j4 at h;by_cases J:k=1
  .subst J;simpa using h
  by_cases N:k=2
  .subst N;simp only[show(2:Int)=1↔False by decide,jG,m8]at h ⊢;rw[<-h];congr 1;apply nK;simp[cX,gh];omega
  by_cases O:k=3
  .subst O;simp only[show(3:Int)=1↔False by decide,show(3:Int)=2↔False by decide,jG,m8]at h ⊢;rw[<-h,Bool.and_assoc,Bool.and_assoc];congr 3;apply nK;simp[cX,gh];omega
  by_cases R:k=4
  .subst R;simp[zcz]at h ⊢;exact h
  by_cases T:k=5
  .subst T;simp at h ⊢;intro Ri;rw[Ri]at h;cases h
  by_cases U:k=6
  .subst U;simp only[show(6:Int)=1↔False by decide,show(6:Int)=2↔False by decide,show(6:Int)=3↔False by decide,show(6:Int)=4↔False by decide,show(6:Int)=5↔False by decide,jG,m8]at h ⊢;cases ad:et a 0 ((rows.length:Int)-1)with
   |false=>rfl
   |true=>obtain⟨D,H⟩:=cX.1 ad;rw[ad,yc D H]at h;exact h
  by_cases V:k=7
  .subst V;simp only[show(7:Int)=1↔False by decide,show(7:Int)=2↔False by decide,show(7:Int)=3↔False by decide,show(7:Int)=4↔False by decide,show(7:Int)=5↔False by decide,show(7:Int)=6↔False by decide,jG,m8]at h ⊢;rw[show rI p row (v+Ri+1)=(decide ((row.length:Int)=v+Ri+1)&&row.all (jX p)) from rfl]at h;cases a1:et a 0 (rows.length:Int) <;>cases a2:et b 0 Ri <;>cases a3:decide ((row.length:Int)=v+Ri+1) <;>cases a4:row.all (jX p) <;>cases a5:(row.getD (v+b).toNat 0 !=0) <;>simp_all
  by_cases Y:k=8
  .subst Y;simp[zcz,yd]at h ⊢;exact h
  by_cases Z:k=9
  .subst Z;simp at h ⊢;intro Ri;rw[Ri]at h;cases h
  simp[*]
 |true=>
  obtain⟨ab,ac,a0⟩:=gk s h;rw[wO,zfh s ac ab];clear ab ac a0;have G:=s.n;have F:=s.h100;unfold j4 at h;unfold bT eS;by_cases J:k=1
  .subst J;simp at h ⊢;simp[h,G,F]
  by_cases N:k=2
  .subst N;simp[cX,gh]at h;simp[G,F];exact⟨cX.2 h.1,cX.2 Rr⟩
  by_cases O:k=3
  .subst O;simp[cX,gh]at h;simp[G,F];exact⟨⟨cX.2 h.1,cX.2 h.2.1,h.2.2.1⟩,cX.2 Rr⟩
  by_cases R:k=4
  .subst R;simp at h;simp[F,zcz,h,mY];split <;>omega
  by_cases T:k=5
  .subst T;simp at h;simp[F,h,pv];omega
  by_cases U:k=6
  .subst U;simp only[show(6:Int)=1↔False by decide,show(6:Int)=2↔False by decide,show(6:Int)=3↔False by decide,show(6:Int)=4↔False by decide,show(6:Int)=5↔False by decide,jG,m8,bE]at h ⊢;obtain⟨D,I,c1⟩:=h;obtain⟨H,am⟩:=cX.1 D;rw[D,I,<-yc H am];have c2:=c1.1;have ao:=c1.2;rw[c2,ao];simp[mY];refine⟨Rr,?_⟩;split <;>omega
  by_cases V:k=7
  .subst V;simp only[show(7:Int)=1↔False by decide,show(7:Int)=2↔False by decide,show(7:Int)=3↔False by decide,show(7:Int)=4↔False by decide,show(7:Int)=5↔False by decide,show(7:Int)=6↔False by decide,jG,m8]at h ⊢;rw[show rI p row (v+Ri+1)=(decide ((row.length:Int)=v+Ri+1)&&row.all (jX p)) from rfl]at h;simp only[bE]at h;obtain⟨D,I,⟨c1,d1⟩,ap⟩:=h;rw[D,I,c1,d1,ap];apply nK;simp[pv];omega
  by_cases Y:k=8
  .subst Y;simp[yd]at h;simp[zcz,h,G];omega
  by_cases Z:k=9
  .subst Z;simp at h;simp[h,G];omega
  simp[*]at h
end Go.Proofs.YtpieilkmmiopfaaGreatDoor
