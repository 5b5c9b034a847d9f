/- Parts of the walks and laws (Do4, Wi1). Conditions: as stated with each. -/
import Derived.Test.YtpieilkmmiopfaaGreatDoorPk2
namespace Go.Proofs.YtpieilkmmiopfaaGreatDoor
open Go.RowKit Tryz
set_option linter.all false
set_option maxHeartbeats 4000000
variable{v:ax}{w w':aa}
theorem zdm(a p v h:Int)(A:aq)(cap:Nat)(rows:aN)(w:aa)(bc:bk w A rows)(c3:rows.length<=160)(EM:∀r∈rows,r.length<=1000)(co:0<=a)(cp:a<=rows.length)(cz:0<=v)(cA:v<=1000)(cq:0<=h)(cr:h<=1000):aw 259 (gQ (bs a) p (ar v h A rows cap)) w fun e w'=>∃u,e=.returned (.agg (dK v h u))/\aU w' w.heap.size u (cf rows a.toNat (List.replicate (v+h).toNat 0))/\ag w w':=by
 obtain⟨b7,b8⟩:=bD (Rr:rows.length<=1048576) (show ∀r∈rows,r.length<=1048576 from fun r hr=>T3);go_enter func259,ntmps259
 go_wp2_with fail
 refine(kH _ _ _ _ _ _ (bc.ext (((aj _ _).alloc Rq _ |>.alloc Rq _).alloc Sp _)) b7.o b8.o).mono ?_;rintro e D ⟨u,rfl,⟨us,hu⟩,ad⟩;obtain⟨G,H,rfl,_,_,_⟩:=aU.view ⟨us,hu⟩;obtain⟨bz,b0,b1⟩:=cm w (.cells (bs a) 236) (.cells (ar v h A rows cap) 57) (.cells bj 57);have cu:=ad.size;simp only[dt]at cu;go_upto_region 2 with(fail)
 obtain⟨F,EJ⟩:=aM (D.alloc (.cells (ar v h G rows H) 57));rw[<-EJ];have a2:ag D F:=Vj;have c4:F.heap.size=D.heap.size+1:=So;have V:=ad.trans (a2.mono ad.size);have a5:aW F D.heap.size (ar v h G rows H) 57:=Uo;have br:=cH V bz;have bu:=cH V b0;have bv:=cH V b1;have bo:bC F (w.heap.size+3) (.slice G rows.length H) rows us:=(hu.ext a2).mono Rq;have bp:∀g',G=some ⟨g',0,none⟩->g'<D.heap.size:=fun g' e=>U8
 have ct:∀(k:Nat) (x:ax),us[k]?=some x->∀b,x.ownBlock=some b->b<D.heap.size:=fun k x hx b hb=>VA
 have bg:ag w F:=(below_alloc3 w _ _ _).trans (V.mono Sp);clear hu ad a2 V bc EM bz b0 b1 EJ;have a8:=a_ br 0;obtain⟨b3,b4,b5⟩:=bS bu;have a9:=a_ a5 2;simp only[cZ,cP]at a8 b3 b4 b5 a9;obtain⟨ab,b6,cb,cc,b9⟩:=mD bo bg bv a5 bp;clear bo bg bp ct br bu bv a5;refine cR (S:=fun w'=>ae w' w.heap.size 0 (.int .i64 a)/\ae w' (w.heap.size+1) 0 (.int .i64 v)/\ae w' (w.heap.size+1) 1 (.int .i64 h)/\ae w' (w.heap.size+1) 2 (.slice A rows.length cap)/\ae w' D.heap.size 2 (.slice G rows.length H)) 10 RP Rz (fun hHeld=>?_);refine aP 0 ?_;simp only[Act.put,zA];refine aP 1 ?_;simp only[Act.put,zA];refine aP 2 ?_;simp only[Act.put,zA];refine aP 3 ?_;simp only[Act.put,zA];refine aP 4 ?_;simp only[Act.put,zA];have ap:∀a7,ag F a7->(fun w':World=>ae w' w.heap.size 0 (.int .i64 a)/\ae w' (w.heap.size+1) 0 (.int .i64 v)/\ae w' (w.heap.size+1) 1 (.int .i64 h)/\ae w' (w.heap.size+1) 2 (.slice A rows.length cap)/\ae w' D.heap.size 2 (.slice G rows.length H)) a7:=fun a7 hb=>
  ⟨al hb a8,al hb b3,al hb b4,al hb b5,al hb a9⟩
 refine cw 5 fun K hK=>?_
 go_simp;refine(ny v h _ _ cz cA cq cr).mono ?_;rintro e b2 ⟨rfl,O⟩;have O:ag F b2:=(aj _ _).drew.trans O;go_simp;refine hK.out _ _ (fun _=>ap b2 O) (fun hHeld=>?_);clear hK K;try simp only[Act.put,zA]
 have hHeld:=hHeld Rs;refine cw 6 fun K hK=>?_
 go_simp;obtain⟨N,a3⟩:∃N:Nat,v+h=N:=⟨(v+h).toNat,Rr⟩;have bb:=zH a3;rw[a3];clear a3;refine(kx N _ (by have:=bb.o;omega)).mono ?_;rintro e Z ⟨c6,rfl,Y,I⟩;have I:ag F Z:=O.trans (I.mono O.size);have Y:=Y.mono O.size;obtain⟨ao,a0,bq,_⟩:=Y.view;try simp only[iF]at bq
 subst bq;dsimp only;refine hK.out _ _ (fun _=>ap Z I) (fun hHeld=>?_);clear hK K;try simp only[Act.put,zA]
 have hHeld:=hHeld Rs;have ca:=zH Y;clear Y;refine cw 7 fun K hK=>?_
 go_simp;have J:Below F.heap.size F (Z.alloc (.cells (cg ao N a0) 26)):=I.alloc I.size _;refine hK.out _ _ (fun _=>ap _ J) (fun hHeld=>?_);clear hK K;try simp only[Act.put,zA]
 have hHeld:=hHeld Rs;refine cw 8 fun K hK=>?_
 go_simp;have c5:=I.size;have a1:=ab.o.ext J;have Fq:∀b,(Value.slice G rows.length H).ownBlock=some b->w.heap.size+3<=b/\b<D.heap.size:=fun b hb=>⟨(bL ab.o.outer b hb).1,by
  rcases ab.o.outer.2 with⟨h1,_⟩|⟨g',cB,cF,h1,_⟩
  .rw[h1]at hb;cases hb
  .rw[h1]at hb;cases hb;exact b9.o g' UH⟩
 refine(rR (w.heap.size+3) rows.length Z.heap.size a (.slice G rows.length H) us (.slice ao N a0) _ a1.outer (oA a1) rfl (aC _ _ rfl) (fun e=>by have:=Fq _ e;omega) co cp Rr Sp).mono ?_;rintro e wr ⟨g,U,rfl,bi,T,_⟩;dsimp only;have R:∀p:dk,p.block=w.heap.size∨p.block=w.heap.size+1∨p.block=D.heap.size->∀x,(Z.alloc (.cells (cg ao N a0) 26)).cell? p=some x->wr.cell? p=some x:=fun p am x hx=>T.cell hx (fun e=>by have:=Fq _ e.symm;rcases am with am|am|am <;>omega)
 refine hK.out _ _ (fun _=>⟨R _ (au rfl) _ hHeld.1,R _ (an (au rfl)) _ hHeld.2.1,R _ (an (au rfl)) _ hHeld.2.2.1,R _ (an (au rfl)) _ hHeld.2.2.2.1,R _ (an (an rfl)) _ hHeld.2.2.2.2⟩) (fun hHeld=>?_);clear hK K;try simp only[Act.put,zA]
 have hHeld:=hHeld Rs;refine cw 9 fun K hK=>?_
 go_simp;refine hK.out _ _ (fun _=>hHeld) (fun hHeld=>?_);clear hK K;try simp only[Act.put,zA]
 have ac:wr.heap[D.heap.size]?=_:=(T.block D.heap.size Sp (fun e=>Ur)).trans ((J.block D.heap.size Rr).trans cc.o);have ba:=zH ac;have f2:=aK ac 2;have c2:=a_ ac 2;simp only[cZ,cP]at c2;clear ac R hHeld;refine cw 10 fun K hK=>?_
 go_simp;refine hK.out _ _ (fun h=>absurd h Rs) (fun _=>?_);clear hK K;try simp only[Act.put,zA]
 refine gN RP ?_ _;have a6:=bm wr D.heap.size 2 _ _ (.slice (some ⟨g,0,none⟩) (rows.length+1) U) ba.o;simp only[zA]at a6;have a4:=(en wr ⟨D.heap.size,2,none⟩ (w.heap.size+1+1) (.slice (some ⟨g,0,none⟩) (rows.length+1) U) Sp).trans ((T.block _ Sp (fun e=>Ur)).trans ((J.block _ Rr).trans cb.o));have bd:=ab.o.insert J (ca.o.ext ((aj _ _).alloc (af _) _)) Rr Rr bi T;obtain⟨HO,HE⟩:=bD (show aU _ (w.heap.size+3) _ _ from⟨_,bd.kR ba.o (j:=2) (u:=.slice (some ⟨g,0,none⟩) (rows.length+1) U)⟩) ((oT (b6.o.trans (J.mono Rr)) T Sp fun b hb=>by have:=Fq b hb;omega).setCell (p:=⟨D.heap.size,2,none⟩) Sp (.slice (some ⟨g,0,none⟩) (rows.length+1) U));clear bd c2 f2 a8 a9 T bi I J a1 Fq;rw[show List.replicate N (0:Int)=List.replicate (v+h).toNat 0 by rw[bb.o];rfl]at HO;obtain⟨ce,ch,ci⟩:=bS a6;obtain⟨cj,ck,cn⟩:=bS a4;obtain⟨cI,cO,c0⟩:=bR a4;simp only[cZ,cP]at ce ch ci cj ck cn;clear a6 a4;go_wp2;refine aE (v:=.agg (fy v h (some ⟨g,0,none⟩) (rows.length+1) U)) (by simp[results,results259,go_sem, *]) rfl ⟨_,rfl,?_,?_⟩
 .exact Yp
 .exact X_
theorem zis{r:Option Nat}{a:dk}(G:w.grownBy w' r)(h:w.frozen? a=false)(F:w.cell? a=some v)(H:some a.block≠r):w'.frozen? a=false:=by have D:=G.block a.block (jA w a F) H;unfold World.frozen? at h ⊢;rw[D];exact h
theorem zbQ{r:Option Nat}{a:dk}(D:w.grownBy w' r)(h:w.cell? a=some v)(F:some a.block≠r):w'.cell? a=some v:=(v_ (w:=w) (D.block a.block (jA w a h) F)).trans h
theorem iC{a:dk}(h:w.cell? a=some v):a.block<w.heap.size:=jA w a h
theorem zaz(b v h:Int)(A:aq)(cap:Nat)(rows:aN)(w:aa)(bd:bk w A rows)(dT:rows.length<=160)(EM:∀r∈rows,r.length<=1000)(d2:0<=v)(d3:v<=1000)(U:0<=b)(db:b<=1000)(dl:0<=h)(dq:h<=1000)(bo:∀r∈rows,v+b<=r.length):aw 276 (gD (ar v h A rows cap) b) w fun e w'=>∃u,e=.returned (.agg (dK v (h+1) u))/\aU w' w.heap.size u (rows.map (fun r=>cf r (v+b).toNat 0))/\ag w w':=by
 have cc:=zH (show ∀r∈rows,v+b<=r.length/\r.length<=1000 from fun r hr=>⟨bo r hr,EM r hr⟩);clear bo;obtain⟨ce,ci⟩:=bD (Rr:rows.length<=1048576) (show ∀r∈rows,r.length<=1048576 from fun r hr=>T3);go_enter func276,ntmps276
 go_wp2_with fail
 refine(kH _ _ _ _ _ _ (bd.ext ((aj _ _).alloc Rq _ |>.alloc Rq _)) ce.o ci.o).mono ?_;rintro e D ⟨u,rfl,⟨us,hu⟩,Z⟩;obtain⟨O,F,rfl,_,_,_⟩:=aU.view ⟨us,hu⟩;have b3:((w.alloc (.cells (ar v h A rows cap) 57)).alloc (.cells bj 57)).heap[w.heap.size]?=some (.cells (ar v h A rows cap) 57):=(bJ _ _ Rq).trans (aC _ _ rfl);have b4:((w.alloc (.cells (ar v h A rows cap) 57)).alloc (.cells bj 57)).heap[w.heap.size+1]?=some (.cells bj 57):=aC _ _ Rq;have c0:=Z.size;simp only[dt]at c0;go_upto_region 2 with(fail)
 obtain⟨J,EJ⟩:=aM (D.alloc (.cells (ar v h O rows F) 57));rw[<-EJ];have ao:ag D J:=Vj;have d1:J.heap.size=D.heap.size+1:=So;have Y:=Z.trans (ao.mono Z.size);have a3:aW J D.heap.size (ar v h O rows F) 57:=Uo;have a2:=cH Y b3;have b2:=cH Y b4;have b1:bC J (w.heap.size+2) (.slice O rows.length F) rows us:=(hu.ext ao).mono Rq;have bg:ag w J:=((aj w.heap.size w).alloc Rq _ |>.alloc Rq _).trans (Y.mono Sp);clear hu Z ao Y bd EM b3 b4 EJ;have a6:=a_ a2 0;have b6:=a_ a3 2;simp only[cZ,cP]at a6 b6;obtain⟨ck,cb,c6,co,cp⟩:=mD b1 bg a2 b2 a3;clear b1 bg a2 b2 a3;go_wp2;go_loopw [13] (fun i wr=>∃k:Nat,k<=rows.length/\i=.int .i64 k/\(∃b5,bC wr (w.heap.size+2) (.slice O rows.length F) (jM (fun r=>cf r (v+b).toNat 0) rows k) b5)/\
   aW wr D.heap.size (ar v h O rows F) 57/\Below (w.heap.size+2) J wr)
  (fun i _=>rows.length-(intOf i).toNat)
 case atStart=>exact⟨0,aX _,rfl,⟨us,by rw[lA];exact ck.o⟩,cp.o,aj _ _⟩
 case round=>
  obtain⟨k,hk,rfl,⟨b5,EF⟩,Fs,R⟩:=hrel;by_cases bp:k<rows.length
  .obtain⟨r,hr⟩:=aB bp;have a1:(jM (fun r=>cf r (v+b).toNat 0) rows k)[k]?=some r:=(nk _ _ _ bp).trans hr;obtain⟨d6,Fu,V⟩:=EF.get a1;obtain⟨cI,dr⟩:=cc.o r (aY hr);obtain⟨I,N,rfl,_⟩:=V.view;have ap:∀c,(Value.slice I r.length N).ownBlock=some c->w.heap.size+2<=c/\c<wr.heap.size:=V.lt;obtain⟨g,rfl,dc,bi⟩:=j5 EF TX;have Ft:=EF.outer;rw[dU _ _ _ hk]at Ft;have b9:ae wr g k (.slice I r.length N):=UM;have a7:ae wr w.heap.size 0 (.int .i64 v):=(R.cell Sp).trans a6;have a8:ae wr D.heap.size 2 (.slice (some ⟨g,0,none⟩) rows.length F):=a_ Fs 2;have bq:some D.heap.size≠(Value.slice I r.length N).ownBlock:=fun e=>by
    rcases fK V Fs Rs with h1|h1
    .rw[h1]at e;cases e
    .exact h1 e.symm
   have d0:g≠D.heap.size:=fun e=>XL
   have f0:=Ft.frozenAt k;obtain⟨HO,ba,HW,ch,c5,cn,cj⟩:=zH7 EF V R Fs a1 Fu hr;clear Ft EF V R Fs a1 Fu hr;have d4:IntKind.i64.wrap (v+b)=v+b:=Sq;have br:some g≠(Value.slice I r.length N).ownBlock:=by
    rcases fv HO.o.outer ba.o with h1|h1
    .cases h1
    .exact fun e=>h1 e
   have cO:some w.heap.size≠(Value.slice I r.length N).ownBlock:=fun e=>by have:=ap _ e.symm;omega
   have H:Below wr.heap.size wr (wr.drew.alloc (.cells ij 3)):=(aj _ _).drew.alloc (af _) _;obtain⟨bb,ab⟩:=bD (AS (w.heap.size+2) r.length wr.heap.size (v+b) (.slice I r.length N) (r.map (Value.int .i64)) (.int .i64 0) (wr.drew.alloc (.cells ij 3)) (ba.o.ext H) VG rfl (aC _ _ rfl) (fun e=>by have:=ap _ e;omega) Rr cI Rr (by have:=HW.o.size;simp<;>omega)) H;have b7:=(al H a7);have b8:=(al H a8);have ca:=(al H b9);have cz:=(gJ H f0 (iC b9));clear H;go_wp2_with fail
   go_region_held3 (fun w'=>ae w' w.heap.size 0 (.int .i64 v)/\ae w' D.heap.size 2 (.slice (some ⟨g,0,none⟩) rows.length F))
    (first|(exact cA)|(exact⟨a7,a8⟩)|(exact⟨b7,b8⟩)|(refine⟨?_,?_⟩<;>(first|(refine(eV Sp).trans ?_;assumption)|(refine(kO Sp).trans ?_;assumption))))
    ((go_at_call 277;refine bb.o.mono ?_;rintro e a5 ⟨am,ac,rfl,bv,G,bi⟩;have f3:a5.frozen? ⟨g,k,none⟩=false:=(zis G cz ca br);have c3:=zbQ G b7 cO;have c4:=zbQ G b8 bq;have cA:=aF c3 c4;clear a7 a8;have d7:=zbQ G ca br))
   have bu:aD a5 (w.heap.size+2) (.slice (some ⟨am,0,none⟩) (r.length+1) ac) (cf r (v+b).toNat 0):=by unfold aD;rw[show(cf r (v+b).toNat (0:Int)).length=r.length+1 from jr _ _ _ Rr,show(cf r (v+b).toNat (0:Int)).map (Value.int .i64)=cf (r.map (Value.int .i64)) (v+b).toNat (.int .i64 0) by simp[cf,List.map_take,List.map_drop]];exact bv
   have a0:=(HO.o.ext ab.o).put (dU _ _ _ hk).symm cn.o G bu (fun b U=>by simp only[Value.ownBlock,dZ]at U;subst U;exact bi);rw[ix (fun r=>cf r (v+b).toNat 0) rows k r cj.o]at a0;obtain⟨HN,Fw,EN⟩:=dO a0 ((en a5 ⟨g,k,none⟩ D.heap.size (.slice (some ⟨am,0,none⟩) (r.length+1) ac) Sp).trans ((G.block D.heap.size UC bq).trans ((ab.o.block D.heap.size T9).trans ch.o))) (jB (oT (HW.o.trans (ab.o.mono T9)) G UC (fun b U=>(ap b U).1)) (p:=⟨g,k,none⟩) Sp (.slice (some ⟨am,0,none⟩) (r.length+1) ac));clear a0 bu bv G bb;exact Yn
  .skip
   have cB:k=rows.length:=Rr;subst cB;rw[nj _ _ _ (af _)]at EF;have T:=(R.block _ Rr).trans co.o;have ad:=a_ Fs 1;have bc:=aK Fs 1;simp only[cZ,cP]at ad;obtain⟨HO,HW,a9,cF⟩:=fU EF R Fs T;have d5:IntKind.i64.wrap (h+1)=h+1:=Sq;clear EF R Fs T a6 b6;go_upto_region 8 with(fail)
   have a4:=bm wr D.heap.size 1 _ _ (.int .i64 (h+1)) a9.o;simp only[zA]at a4;have T:=(en wr ⟨D.heap.size,1,none⟩ (w.heap.size+1) (.int .i64 (h+1)) Sp).trans cF.o;have b0:=HO.o.kR a9.o (j:=1) (u:=.int .i64 (h+1));have HO:=zH (show aU _ (w.heap.size+2) _ _ from⟨_,b0⟩);have bz:=((cb.o.trans (HW.o.mono Rr)).setCell (p:=⟨D.heap.size,1,none⟩) Sp (.int .i64 (h+1)));have HE:=zH bz;clear b0 bz;obtain⟨ad,bc,cq⟩:=bS a4;obtain⟨cr,ct,cu⟩:=bS T;obtain⟨c7,c8,c9⟩:=bR T;simp only[cZ,cP]at ad bc cq cr ct cu;clear a4 T;go_wp2;refine aE (v:=.agg (ar v (h+1) O rows F)) (by simp[results,results276,go_sem, *]) rfl ⟨_,rfl,?_,?_⟩
   .exact Yp
   .exact X_
end Go.Proofs.YtpieilkmmiopfaaGreatDoor
