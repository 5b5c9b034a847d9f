/- Parts of the walks and laws (SMA, StC). Conditions: as stated with each. -/
import Derived.Test.YtpieilkmmiopfaaGreatDoorPk8
namespace Go.Proofs.YtpieilkmmiopfaaGreatDoor
open Go.RowKit Tryz
set_option linter.all false
set_option maxHeartbeats 8000000
set_option maxRecDepth 100000
variable{J w:aa}{P:iU}{QX QZ R Rc Rh Rj Ro T v:ax}{args:eU}{f:FuncId}{n:Nat}
theorem zgp(p v J a b c:Int)(A:aq)(cap:Nat)(rows:aN)(w:aa)(bp:aq)(n b7:Nat)(br:bk w A rows)(c9:rows.length<=160)(EM:∀r∈rows,r.length<=1000)(c0:0<=a)(c3:a<rows.length)(hb:0<=b)(c5:b<rows.length)(c4:a≠b):aw 96 (iL p (ar v J A rows cap) (qf a b c bp n b7)) w fun e w'=>∃u,e=.returned (.agg (dK v J u))/\aU w' w.heap.size u ((rows.set a.toNat (rows.getD b.toNat [])).set b.toNat (rows.getD a.toNat []))/\ag w w':=by
 obtain⟨a0,Fk⟩:=aB (Rr:a.toNat<rows.length);obtain⟨D,FE⟩:=aB (Rr:b.toNat<rows.length);obtain⟨b8,ca,cb,cc⟩:=fU (TN:rows.getD a.toNat []=a0) (TM:rows.getD b.toNat []=D) (Rr:rows.length<=1048576) (show ∀r∈rows,r.length<=1048576 from fun r hr=>T3);go_enter func96,m6
 go_wp2_with fail
 refine(jl _ _ _ _ _ _ (br.ext (((aj _ _).alloc Rq _ |>.alloc Rq _).alloc Sp _)) cb.o cc.o).mono ?_;rintro e F ⟨u,rfl,⟨us,hu⟩,am⟩;obtain⟨T,I,rfl,_,_,_⟩:=aU.view ⟨us,hu⟩;obtain⟨b4,b5,b6⟩:=cm w (.cells (ar v J A rows cap) 57) (.cells (qf a b c bp n b7) 97) (.cells bj 57);have cz:=am.size;simp only[dt]at cz;go_upto_region 2 with(fail)
 obtain⟨h,EJ⟩:=aM (F.alloc (.cells (ar v J T rows I) 57));rw[<-EJ];have a5:ag F h:=Vj;have db:h.heap.size=F.heap.size+1:=So;have V:=am.trans (a5.mono am.size);have a8:aW h F.heap.size (ar v J T rows I) 57:=Uo;have b1:=cH V b4;have a6:=cH V b5;have b3:=cH V b6;have Fa:bC h (w.heap.size+3) (.slice T rows.length I) rows us:=(hu.ext a5).mono Rq;have b0:∀g',T=some ⟨g',0,none⟩->g'<F.heap.size:=fun g' e=>U8
 have cu:∀(k:Nat) (x:ax),us[k]?=some x->∀b,x.ownBlock=some b->b<F.heap.size:=fun k x hx b hb=>VA
 have bu:ag w h:=(below_alloc3 w _ _ _).trans (V.mono Sp);clear hu am a5 V br EM b4 b5 b6 EJ;obtain⟨g,ct,c6,c7⟩:∃g,T=some ⟨g,0,none⟩/\w.heap.size+3<=g/\g<h.heap.size:=j5 Fa Rr;subst ct;have c8:=b0 g rfl;obtain⟨dr,Fx,bv⟩:=Fa.get Fk;obtain⟨dT,GQ,bz⟩:=Fa.get FE;obtain⟨bd,bq,rfl,_⟩:=bv.view;obtain⟨G,H,rfl,_⟩:=bz.view;obtain⟨a1,O,R,a2,a3⟩:=ez a6;obtain⟨a9,ba,ac⟩:=aG a8;have cA:ae h g a.toNat (.slice bd a0.length bq):=Vg;have bb:ae h g b.toNat (.slice G D.length H):=Vm;have f0:=Fa.outer.frozenAt a.toNat;have f1:=Fa.outer.frozenAt b.toNat;obtain⟨ch,b9,ci,bi,cj,bo⟩:=kE (bC.swap rfl Fa Fx GQ Fk FE) bu b1 a6 b3 a8;clear Fa bu b0 cu b1 a6 b3 a8 Fx GQ bv bz Fk FE;go_upto_region 5 with(fail)
 have bc:(h.setCell ⟨g,a.toNat,none⟩ (.slice G D.length H)).cell? ⟨g,b.toNat,none⟩=some (.slice G D.length H):=by rw[wj _ _ _ _ Sp];exact bb
 go_region_held3 (fun W=>ae W (w.heap.size+1) 1 (.int .i64 a)/\ae W (w.heap.size+1) 2 (.int .i64 b)/\ae W F.heap.size 2 (.slice (some ⟨g,0,none⟩) rows.length I)/\ae W g b.toNat (.slice G D.length H)) (first|exact⟨O,R,ac,bb⟩|exact⟨(bV Sp).trans O,(bV Sp).trans R,(bV Sp).trans ac,bc⟩)
  (fail)
 obtain⟨ad,N⟩:=aM ((h.setCell ⟨g,a.toNat,none⟩ (.slice G D.length H)).drew);rw[<-N];have ap:∀j,j≠g->ad.heap[j]?=h.heap[j]?:=fun j ao=>by rw[N];exact aZ _ _ _ _ ao
 have cB:ae ad g b.toNat (.slice G D.length H):=by rw[N];exact bc
 have f4:ad.frozen? ⟨g,b.toNat,none⟩=false:=by rw[N];simpa using f1
 have Z:=(ap _ Rr).trans bi.o;have ab:=(ap _ Rr).trans bo.o;obtain⟨ce,bg⟩:=bD ap N;clear a1 O R a2 a3 a9 ba ac cA bb f0 f1 bc ap N;obtain⟨a1,O,R,a2,a3⟩:=ez Z;obtain⟨a9,ba,ac⟩:=aG ab;clear Z ab;go_upto_region 21 with(fail)
 obtain⟨a4,U⟩:=aM (ad.setCell ⟨g,b.toNat,none⟩ (.slice bd a0.length bq));rw[<-U];have Y:∀j,j≠g->a4.heap[j]?=h.heap[j]?:=fun j ao=>by rw[U];exact(aZ _ _ _ _ ao).trans (ce.o j ao)
 have b2:=(Y _ Rr).trans ci.o;have Z:=(Y _ Rr).trans bi.o;have ab:=(Y _ Rr).trans bo.o;have a7:=(Y _ Rr).trans cj.o;obtain⟨HO,HE⟩:=bD (by rw[U,bg.o];exact⟨_,ch.o.ext (aj _ _).drew⟩:aU a4 (w.heap.size+3) (.slice (some ⟨g,0,none⟩) rows.length I) ((rows.set a.toNat D).set b.toNat a0)) (by rw[U,bg.o];exact((b9.o.setCell Sp _).drew).setCell Sp _:ag w a4);rw[<-b8.o,<-ca.o]at HO;clear a1 O R a2 a3 a9 ba ac cB f4 Y U;obtain⟨a1,O,R,a2,a3⟩:=ez Z;obtain⟨dc,dl,dq⟩:=aG b2;clear b2 Z;obtain⟨ck,cn,co⟩:=bS ab;obtain⟨cp,cq,cr⟩:=bS a7;obtain⟨cF,cI,cO⟩:=bR a7;simp only[cZ,cP]at ck cn co cp cq cr;clear ab a7;go_wp2;refine aE (v:=.agg (ar v J (some ⟨g,0,none⟩) rows I)) Uy rfl ⟨_,rfl,?_,?_⟩
 .exact Yp
 .exact X_
theorem zfF(p v h a b c:Int)(A:aq)(cap:Nat)(rows:aN)(w:aa)(a0:aq)(n bb:Nat)(a2:bk w A rows)(co:rows.length<=160)(EM:∀r∈rows,r.length<=1000)(b4:1<=p)(b5:p<=1000)(b9:0<=a)(ca:a<rows.length)(b0:0<=c)(b1:c<=1000)(hx:∀r∈rows,∀x∈r,0<=x/\x<=1000):aw 96 (iL p (ar v h A rows cap) (qg a b c a0 n bb)) w fun e w'=>∃u,e=.returned (.agg (dK v h u))/\aU w' w.heap.size u (rows.set a.toNat (iZ p c (rows.getD a.toNat [])))/\ag w w':=by
 obtain⟨D,Fk⟩:=aB (Rr:a.toNat<rows.length);obtain⟨bc,bq⟩:=bD (TN:rows.getD a.toNat []=D) (show ∀x∈D,0<=x/\x<=1000 from hx D (aY Fk));have cq:D.length<=1000:=EM D (aY Fk);clear hx;obtain⟨bg,bi⟩:=bD (Rr:rows.length<=1048576) (show ∀r∈rows,r.length<=1048576 from fun r hr=>T3);go_enter func96,m6
 go_wp2_with fail
 refine(jl _ _ _ _ _ _ (a2.ext (((aj _ _).alloc Rq _ |>.alloc Rq _).alloc Sp _)) bg.o bi.o).mono ?_;rintro e G ⟨u,rfl,⟨us,hu⟩,T⟩;obtain⟨J,Ff,rfl,_,_,_⟩:=aU.view ⟨us,hu⟩;obtain⟨a8,Y,Z⟩:=cm w (.cells (ar v h A rows cap) 57) (.cells (qg a b c a0 n bb) 97) (.cells bj 57);have b6:=T.size;simp only[dt]at b6;go_upto_region 2 with(fail)
 obtain⟨H,EJ⟩:=aM (G.alloc (.cells (ar v h J rows Ff) 57));rw[<-EJ];have ab:ag G H:=Vj;have cr:H.heap.size=G.heap.size+1:=So;have O:=T.trans (ab.mono T.size);have ad:aW H G.heap.size (ar v h J rows Ff) 57:=Uo;have a6:=cH O a8;have ac:=cH O Y;have a7:=cH O Z;have Fa:bC H (w.heap.size+3) (.slice J rows.length Ff) rows us:=(hu.ext ab).mono Rq;have a5:∀g',J=some ⟨g',0,none⟩->g'<G.heap.size:=fun g' e=>U8
 have a4:∀(k:Nat) (x:ax),us[k]?=some x->∀b,x.ownBlock=some b->b<G.heap.size:=fun k x hx b hb=>VA
 have a3:ag w H:=(below_alloc3 w _ _ _).trans (O.mono Sp);clear hu T ab O a2 EM a8 Y Z EJ;obtain⟨ct,Fx,U⟩:=Fa.get Fk;obtain⟨g,b2,ce,cj⟩:∃g,J=some ⟨g,0,none⟩/\w.heap.size+3<=g/\g<H.heap.size:=j5 Fa Rr;subst b2;have ck:=a5 g rfl;obtain⟨R,I,rfl,a1,_⟩:=U.view;have ao:ae H g a.toNat (.slice R D.length I):=Vg;obtain⟨y0,y1,y2,y3,y4⟩:=ez ac;obtain⟨a9,ba,am⟩:=aG ad;obtain⟨bo,bd,bp,GR,b8,b7,br,bu,bv,bz,ap,Ga⟩:=zgw Fa a3 Fx U Fk a1 a6 ac a7 ad (a4 _ _ Fx) (fv Fa.outer U);clear Fa a3 Fx U Fk a1 a5 a4 a6 ac a7 ad;go_wp2;go_loopw [56] (fun i wr=>∃k:Nat,k<=D.length/\i=.int .i64 k/\wr.ownsRow (w.heap.size+3) 3 1 (.slice R D.length I) D.length ((mC p c D k).map (Value.int .i64))/\H.grownBy wr (Value.slice R D.length I).ownBlock)
  (fun i _=>D.length-(intOf i).toNat)
 case atStart=>exact⟨0,aX _,rfl,Tx,⟨rfl,rfl,rfl,af _,fun _ _ _=>rfl⟩⟩
 case round=>
  obtain⟨k,cn,rfl,EF,F⟩:=hrel;by_cases EH:k<D.length
  .obtain⟨x,hx⟩:=aB EH;obtain⟨N,rfl,ch,_⟩:=kh GR.o Rr;have ci:=ap.o N rfl;have cp:g≠N:=Xb;have t1:ae wr (w.heap.size+1) 1 (.int .i64 a):=F.cell y1 Uu;have t3:ae wr (w.heap.size+1) 3 (.int .i64 c):=F.cell y3 Uu;have t5:ae wr G.heap.size 2 (.slice (some ⟨g,0,none⟩) rows.length Ff):=F.cell am Uu;have t6:ae wr g a.toNat (.slice (some ⟨N,0,none⟩) D.length I):=F.cell ao Uu;have cb:ae wr N k (.int .i64 x):=WL;have cc:=EF.frozenAt k;obtain⟨Y,Z⟩:=bq.o x (aY hx);have V:=EF.stored k (.int .i64 (x*c%p));rw[<-fh,xC _ _ _ _ _ hx]at V;obtain⟨HS,HG⟩:=bD V.1 (bN F V.2);clear V hx EF F a9 ba am y0 y1 y2 y3 y4 ao;go_wp2_with fail
   go_region_held3 (fun W=>ae W (w.heap.size+1) 1 (.int .i64 a)/\ae W (w.heap.size+1) 3 (.int .i64 c)/\ae W G.heap.size 2 (.slice (some ⟨g,0,none⟩) rows.length Ff)/\ae W g a.toNat (.slice (some ⟨N,0,none⟩) D.length I))
    (first|exact⟨t1,t3,t5,t6⟩|(refine⟨?_,?_,?_,?_⟩<;>(first|(refine(eV Sp).trans ?_;assumption)|(refine(kO Sp).trans ?_;assumption))))
    ((go_at_call 139;refine(CQ p x c _ b4 b5 Y Z b0 b1).mono ?_;rintro e w' ⟨rfl,rfl⟩))
   exact Ym
  .have GP:∀b,(Value.slice R D.length I).ownBlock=some b->w.heap.size+3<=b/\b<G.heap.size:=fun b hb=>⟨(bL GR.o b hb).1,ap.o b hb⟩
   have Jt:=(F.block G.heap.size Rr (fun e=>Ut)).trans bz.o;have Js:=(F.block w.heap.size Rr (fun e=>Ut)).trans br.o;have Jq:=(F.block (w.heap.size+1) Rr (fun e=>Ut)).trans bu.o;have Jr:=(F.block (w.heap.size+1+1) Rr (fun e=>Ut)).trans bv.o;have b3:k=D.length:=Rr;subst b3;have HO:=zH (show aU wr (w.heap.size+3) (.slice (some ⟨g,0,none⟩) rows.length Ff) (rows.set a.toNat (iZ p c (rows.getD a.toNat []))) from
    ⟨_,bo.o.inner bp.o F (by rw[bc.o,<-xA p c D D.length (af _)];unfold aD;rw[show(mC p c D D.length).length=D.length by simp[mC]];exact EF)⟩)
   have HE:=zH (bd.o.grown F Rr fun b hb=>Ud);clear EF F GP a9 ba am y0 y1 y2 y3 y4 ao;exact ZH
theorem zgq(p v F a b c:Int)(A:aq)(cap:Nat)(rows:aN)(w:aa)(ap:aq)(n bg:Nat)(a1:bk w A rows)(dr:rows.length<=160)(EM:∀r∈rows,r.length<=1000)(cc:0<=a)(c5:a<rows.length):aw 96 (iL p (ar v F A rows cap) (qh a b c ap n bg)) w fun e w'=>∃u,e=.returned (.agg (dK v F u))/\aU w' w.heap.size u (rows.eraseIdx a.toNat)/\ag w w':=by
 obtain⟨bv,bz⟩:=bD (Rr:rows.length<=1048576) (show ∀r∈rows,r.length<=1048576 from fun r hr=>T3);go_enter func96,m6
 go_wp2_with fail
 refine(jl _ _ _ _ _ _ (a1.ext (((aj _ _).alloc Rq _ |>.alloc Rq _).alloc Sp _)) bv.o bz.o).mono ?_;rintro e h ⟨u,rfl,⟨us,hu⟩,T⟩;obtain⟨H,Ff,rfl,_,_,_⟩:=aU.view ⟨us,hu⟩;obtain⟨a9,ba,bb⟩:=cm w (.cells (ar v F A rows cap) 57) (.cells (qh a b c ap n bg) 97) (.cells bj 57);have cn:=T.size;simp only[dt]at cn;go_upto_region 2 with(fail)
 obtain⟨W2,EJ⟩:=aM (h.alloc (.cells (ar v F H rows Ff) 57));rw[<-EJ];have Y:ag h W2:=Vj;have dT:W2.heap.size=h.heap.size+1:=So;have I:=T.trans (Y.mono T.size);have ac:aW W2 h.heap.size (ar v F H rows Ff) 57:=Uo;have a6:=cH I a9;have Z:=cH I ba;have a8:=cH I bb;have J:bC W2 (w.heap.size+3) (.slice H rows.length Ff) rows us:=(hu.ext Y).mono Rq;have a5:∀g',H=some ⟨g',0,none⟩->g'<h.heap.size:=fun g' e=>U8
 have ci:∀(k:Nat) (x:ax),us[k]?=some x->∀b,x.ownBlock=some b->b<h.heap.size:=fun k x hx b hb=>VA
 have a3:ag w W2:=(below_alloc3 w _ _ _).trans (I.mono Sp);clear hu T Y I a1 EM a9 ba bb EJ;obtain⟨j,rfl⟩:=fY cc;obtain⟨g,ce,c6,c7⟩:∃g,H=some ⟨g,0,none⟩/\w.heap.size+3<=g/\g<W2.heap.size:=j5 J Rr;subst ce;have c8:=a5 g rfl;obtain⟨cr,ch,d2,cq,d3⟩:=de jV;obtain⟨Gb,FG⟩:=aM (us.drop (j+1));obtain⟨GW,⟨cp,_⟩|⟨g',cI,Fm,co,a0,Jv,cj,a4,GU,GS⟩⟩:=J.outer
 .cases cp
 cases co
 simp only[eG]at GW GU GS;have ES:Gb.length=rows.length-(j+1):=TY;have Fe:∀t,t<rows.length->Fm.toList[t]?=us[t]?:=fun t ht=>Uc
 obtain⟨O,c4,ck⟩:∃O:dk,(if Ff=j+1 then some (⟨g,0,none⟩:dk) else some ⟨g,j+1,none⟩)=some O/\Hd (∀t u,Gb[t]?=some u->W2.drew.cell? (O.add t)=some u):=Zr;have bc:Hd (Gb.length=(rows.length-(j+1))*1):=Ti;have bd:Hd (∀u∈Gb,u.oneCell'=true):=by intro u hu;rw[FG]at hu;exact oA J u (ko hu)
 have ct:Hd (∀t,t<Gb.length->(W2.drew.cell? ⟨g,0+j*1+t,none⟩).isSome=true/\W2.drew.frozen? ⟨g,0+j*1+t,none⟩=false):=Ys;obtain⟨D,V⟩:=aM (W2.drew.setCells g (0+j*1) Gb);have U:=dA g 26 Gb (0+j*1) W2.drew Fm Jv SF;rw[<-V]at U;have G:=zH (show W2.grownBy D (some g) from bN (dP W2 (some g)) U.2);have b0:=zH (show D.ownsRow (w.heap.size+3) 26 1 (.slice (some ⟨g,0,none⟩) (rows.length-1) Ff) (rows.length-1) (us.eraseIdx j) by
  refine⟨TR,an ⟨g,Ff,_,rfl,a0,U.1,Rr,a4,?_,?_⟩⟩
  .exact WM
  .simp only[eG,iO];rw[show rows.length-1=j+Gb.length by omega,iy _ _ _ RS,FG,zg,<-GS,lk,gR Rr])
 have b2:=zH V;have c9:j<=Ff:=Rr;have db:j+1<=Ff:=Rr;have dq:j+1<=rows.length:=Rr;have d1:IntKind.i64.wrap ((j:Int)+1)=(j:Int)+1:=Sq;have d0:((j:Int)+1).toNat=j+1:=Rr;have dc:(0:Int)<=(j:Int)+1:=Rr;have dl:(j:Int)+1<=(rows.length:Int):=Rr;clear GW GU GS Jv FG ES V U Fe a0 cj a4;obtain⟨bi,bo,bp,bq,br⟩:=ez Z;obtain⟨cu,cz,cA⟩:=aG ac;obtain⟨b1,bu,b3,ao,b4,b5⟩:=kE J a3 a6 Z a8 ac;clear J a3 a5 ci a6 Z a8 ac;go_upto_region 22 with(fail)
 refine cR (S:=fun W=>ae W (w.heap.size+1) 1 (.int .i64 j)/\ae W h.heap.size 2 (.slice (some ⟨g,0,none⟩) rows.length Ff)) 13 RP Rz (fun hHeld=>?_);refine aP 0 ?_;simp only[Act.put,zA];refine aP 1 ?_;simp only[Act.put,zA];refine aP 2 ?_;simp only[Act.put,zA];refine aP 3 ?_;simp only[Act.put,zA];refine aP 4 ?_;simp only[Act.put,zA];refine aP 5 ?_;simp only[Act.put,zA];refine aP 6 ?_;simp only[Act.put,zA];refine aP 7 ?_;simp only[Act.put,zA];refine aP 8 ?_;simp only[Act.put,zA];refine aP 9 ?_;simp only[Act.put,zA];refine aP 10 ?_;simp only[Act.put,zA];refine cw 11 fun K hK=>?_
 refine sD rfl (.tmp 140) (.tmp 146) 55 rfl 26 cr 1 gF ch cq g 0 j Ff rfl O (rows.length-(j+1)) (Ff-(j+1)) Gb rfl bc.o ck.o bd.o Rr ct.o ?_;rw[<-b2.o,show j+(rows.length-(j+1))=rows.length-1 by omega];have R:D.heap[h.heap.size]?=_:=(G.o.block _ Rr Sp).trans b5.o;have N:D.heap[w.heap.size+1]?=_:=(G.o.block _ Rr Sp).trans ao.o;have am:=zH R;have f2:=aK R 2;obtain⟨cB,cF,z2⟩:=aG R;obtain⟨t0,t1,t2,t3,t4⟩:=ez N;clear R N bi bo bp bq br cu cz cA;refine hK.out _ _ (fun _=>⟨t1,z2⟩) (fun hHeld=>?_);clear hK K;try simp only[Act.put,zA]
 have hHeld:=hHeld Rs;refine cw 12 fun K hK=>?_
 go_simp;refine hK.out _ _ (fun _=>⟨t1,z2⟩) (fun hHeld=>?_);clear hK K;try simp only[Act.put,zA]
 have hHeld:=hHeld Rs;refine cw 13 fun K hK=>?_
 go_simp;refine hK.out _ _ (fun F=>absurd F Rs) (fun _=>?_);clear hK K;try simp only[Act.put,zA]
 refine gN RP ?_ _;have ad:=bm D h.heap.size 2 _ _ (.slice (some ⟨g,0,none⟩) (rows.length-1) Ff) am.o;simp only[zA]at ad;have a7:=(en D ⟨h.heap.size,2,none⟩ w.heap.size (.slice (some ⟨g,0,none⟩) (rows.length-1) Ff) Sp).trans ((G.o.block _ Rr Sp).trans b3.o);have N:=(en D ⟨h.heap.size,2,none⟩ (w.heap.size+1) (.slice (some ⟨g,0,none⟩) (rows.length-1) Ff) Sp).trans ((G.o.block _ Rr Sp).trans ao.o);have ab:=(en D ⟨h.heap.size,2,none⟩ (w.heap.size+1+1) (.slice (some ⟨g,0,none⟩) (rows.length-1) Ff) Sp).trans ((G.o.block _ Rr Sp).trans b4.o);have a2:=b1.o.erase Rr b0.o G.o;obtain⟨HO,HE⟩:=bD (show aU _ (w.heap.size+3) _ _ from⟨_,a2.kR am.o (j:=2) (u:=.slice (some ⟨g,0,none⟩) (rows.length-1) Ff)⟩) ((bu.o.grown G.o Rr fun b hb=>Sx).setCell (p:=⟨h.heap.size,2,none⟩) Sp (.slice (some ⟨g,0,none⟩) (rows.length-1) Ff));clear a2 cB cF z2 t0 t1 t2 t3 t4 f2;obtain⟨bi,bo,bp,bq,br⟩:=ez N;obtain⟨d4,bc,bd⟩:=aG a7;clear a7 N;obtain⟨b6,b7,b8⟩:=bS ad;obtain⟨b9,ca,cb⟩:=bS ab;obtain⟨cO,c0,c3⟩:=bR ab;simp only[cZ,cP]at b6 b7 b8 b9 ca cb;clear ad ab;go_wp2;refine aE (v:=.agg (fy v F (some ⟨g,0,none⟩) (rows.length-1) Ff)) Uy rfl ⟨_,rfl,?_,?_⟩
 .exact Yp
 .exact X_
theorem zhC(p v h a b c:Int)(A:aq)(cap:Nat)(rows:aN)(w:aa)(a9:aq)(n b3:Nat)(ba:bk w A rows)(dT:rows.length<=160)(EM:∀r∈rows,r.length<=1000)(ct:0<=a)(cu:a<=rows.length)(d1:0<=v)(d2:v<=1000)(dq:0<=h)(dr:h<=1000):aw 96 (iL p (ar v h A rows cap) (qi a b c a9 n b3)) w fun e w'=>∃u,e=.returned (.agg (dK v h u))/\aU w' w.heap.size u (cf rows a.toNat (List.replicate (v+h).toNat 0))/\ag w w':=by
 obtain⟨b9,ca⟩:=bD (Rr:rows.length<=1048576) (show ∀r∈rows,r.length<=1048576 from fun r hr=>T3);go_enter func96,m6
 go_wp2_with fail
 refine(jl _ _ _ _ _ _ (ba.ext (((aj _ _).alloc Rq _ |>.alloc Rq _).alloc Sp _)) b9.o ca.o).mono ?_;rintro e D ⟨u,rfl,⟨us,hu⟩,U⟩;obtain⟨I,N,rfl,_,_,_⟩:=aU.view ⟨us,hu⟩;obtain⟨bv,bz,b0⟩:=cm w (.cells (ar v h A rows cap) 57) (.cells (qi a b c a9 n b3) 97) (.cells bj 57);have cB:=U.size;simp only[dt]at cB;go_upto_region 2 with(fail)
 obtain⟨F,EJ⟩:=aM (D.alloc (.cells (ar v h I rows N) 57));rw[<-EJ];have Y:ag D F:=Vj;have cF:F.heap.size=D.heap.size+1:=So;have O:=U.trans (Y.mono U.size);have a0:aW F D.heap.size (ar v h I rows N) 57:=Uo;have am:=cH O bv;have ao:=cH O bz;have bu:=cH O b0;have bp:bC F (w.heap.size+3) (.slice I rows.length N) rows us:=(hu.ext Y).mono Rq;have cI:∀g',I=some ⟨g',0,none⟩->g'<D.heap.size:=fun g' e=>U8
 have cA:∀(k:Nat) (x:ax),us[k]?=some x->∀b,x.ownBlock=some b->b<D.heap.size:=fun k x hx b hb=>VA
 have bc:ag w F:=(below_alloc3 w _ _ _).trans (O.mono Sp);clear hu U Y O ba EM bv bz b0 EJ;obtain⟨b4,a6,b5,b6,b7⟩:=ez ao;obtain⟨c4,c5,b2⟩:=aG a0;obtain⟨a2,a3,b1⟩:=aG am;have d3:IntKind.i64.wrap (v+h)=v+h:=Sq;have bo:((v+h).toNat:Int)=v+h:=Rr;have a8:=zH bo;clear bo;obtain⟨V,b8,ce,ch,ci,cj⟩:=kE bp bc am ao bu a0;clear bp bc cI cA am ao bu a0;go_upto_region 20 with(fail)
 have R:=zH (show ∀a5,ag F a5->(fun W:World=>ae W D.heap.size 2 (.slice I rows.length N)/\ae W (w.heap.size+1) 1 (.int .i64 a)/\ae W w.heap.size 0 (.int .i64 v)/\ae W w.heap.size 1 (.int .i64 h)) a5 from fun a5 hb=>⟨al hb b2,al hb a6,al hb a2,al hb a3⟩);refine cR (S:=(fun W:World=>ae W D.heap.size 2 (.slice I rows.length N)/\ae W (w.heap.size+1) 1 (.int .i64 a)/\ae W w.heap.size 0 (.int .i64 v)/\ae W w.heap.size 1 (.int .i64 h))) 12 RP (R.o _ (aj _ _).drew) (fun hHeld=>?_);refine aP 0 ?_;simp only[Act.put,zA];refine aP 1 ?_;simp only[Act.put,zA];refine aP 2 ?_;simp only[Act.put,zA];refine aP 3 ?_;simp only[Act.put,zA];refine aP 4 ?_;simp only[Act.put,zA];refine aP 5 ?_;simp only[Act.put,zA];refine aP 6 ?_;simp only[Act.put,zA];refine aP 7 ?_;simp only[Act.put,zA];refine aP 8 ?_;simp only[Act.put,zA];refine cw 9 fun K hK=>?_
 obtain⟨c3,cz,cO,c0,EK⟩:=de fT;refine CP _ rfl (.tmp 124) (.tmp 124) 26 rfl F.heap.size 3 c3 (.int .i64 0) 1 dY cz cO c0 .i64 .i64 (v+h) (v+h) (v+h).toNat rfl rfl a8.o.symm a8.o.symm SA TD Rq ?_;intro a4 ac bi;have bg:ag F a4:=(aj _ _).drew.trans (cD bi);rw[jo]at ac;have ad:aD a4 F.heap.size (.slice (some ⟨F.drew.heap.size,0,none⟩) (v+h).toNat (v+h).toNat) (List.replicate (v+h).toNat 0):=by simpa[aD]using ac
 rw[show F.drew.heap.size=D.heap.size+1 from cF]at ad;obtain⟨J,cc⟩:=bD bg ad;clear bg ad ac bi;refine hK.out _ _ (fun _=>R.o _ J.o) (fun hHeld=>?_);clear hK K;try simp only[Act.put,zA]
 have hHeld:=hHeld Rs;refine cw 10 fun K hK=>?_
 go_simp;refine(vD (w.heap.size+3) _ a us rows.length _ _ _ a4 (V.o.ext J.o).outer (oA V.o) ct cu Rr).mono ?_;rintro e wc ⟨v9,rfl,ab,Z⟩;obtain⟨g,H,rfl,dc,dl⟩:=kn ab Rr;have bd:=ai J.o Z;have d0:=J.o.size;have bb:=V.o.insert J.o cc.o Rr (Rr:a.toNat<=rows.length) (vE ab Rr) (fu Z);obtain⟨G,cb⟩:=bD bd bb;clear bd bb ab Z;go_simp;refine hK.out _ _ (fun _=>R.o _ G.o) (fun hHeld=>?_);clear hK K;try simp only[Act.put,zA]
 have hHeld:=hHeld Rs;refine cw 11 fun K hK=>?_
 go_simp;refine hK.out _ _ (fun _=>R.o _ G.o) (fun hHeld=>?_);clear hK K;try simp only[Act.put,zA]
 have hHeld:=hHeld Rs;have T:=(G.o.block D.heap.size Rr).trans cj.o;have a7:=zH T;have f2:=aK T 2;obtain⟨c6,c7,z2⟩:=aG T;clear T;refine cw 12 fun K hK=>?_
 go_simp;refine hK.out _ _ (fun h=>absurd h Rs) (fun _=>?_);clear hK K;try simp only[Act.put,zA]
 refine gN RP ?_ _;have a1:=bm wc D.heap.size 2 _ _ (.slice (some ⟨g,0,none⟩) (rows.length+1) H) a7.o;simp only[zA]at a1;have bq:=(en wc ⟨D.heap.size,2,none⟩ w.heap.size (.slice (some ⟨g,0,none⟩) (rows.length+1) H) Sp).trans ((G.o.block _ Rr).trans ce.o);have br:=(en wc ⟨D.heap.size,2,none⟩ (w.heap.size+1) (.slice (some ⟨g,0,none⟩) (rows.length+1) H) Sp).trans ((G.o.block _ Rr).trans ch.o);have ap:=(en wc ⟨D.heap.size,2,none⟩ (w.heap.size+1+1) (.slice (some ⟨g,0,none⟩) (rows.length+1) H) Sp).trans ((G.o.block _ Rr).trans ci.o);obtain⟨HO,HE⟩:=bD (show aU _ (w.heap.size+3) _ (cf rows a.toNat (List.replicate (v+h).toNat 0)) from⟨_,cb.o.kR a7.o (j:=2) (u:=.slice (some ⟨g,0,none⟩) (rows.length+1) H)⟩) ((ai b8.o G.o).setCell (p:=⟨D.heap.size,2,none⟩) Sp (.slice (some ⟨g,0,none⟩) (rows.length+1) H));clear c6 c7 z2 b4 a6 b5 b6 b7 c4 c5 b2 a2 a3 b1 f2;obtain⟨b4,a6,b5,b6,b7⟩:=ez br;obtain⟨a2,a3,b1⟩:=aG bq;clear bq br;obtain⟨ck,cn,co⟩:=bS a1;obtain⟨cp,cq,cr⟩:=bS ap;obtain⟨c8,c9,db⟩:=bR ap;simp only[cZ,cP]at ck cn co cp cq cr;clear a1 ap;go_wp2;refine aE (v:=.agg (fy v h (some ⟨g,0,none⟩) (rows.length+1) H)) Uy rfl ⟨_,rfl,?_,?_⟩
 .exact Yp
 .exact X_
theorem bH(h:Calls P f args (w.drewN n) fun e w'=>e=.returned v/\w.drewN n=w'):Calls P f args (w.drewN n) fun e G=>e=.returned v/\∃m,G=w.drewN m:=h.mono fun _ _ ⟨D,F⟩=>⟨D,n,F.symm⟩
theorem cv{a:Nat}(h:Calls P f args (w.drewN (a+n)) fun e w'=>e=.returned v/\w.drewN (a+n)=w'):Calls P f args (w.drewN (a+n)) fun e G=>e=.returned v/\∃m,G=w.drewN (a+m):=h.mono fun _ _ ⟨D,F⟩=>⟨D,n,F.symm⟩
theorem ew{t1 t2:du}(Y:Below (((w.alloc (.cells #[R,T,Ro] t1)).alloc (.cells #[Rj,Rh,Rc,QZ,QX] t2)).drewN n).heap.size (((w.alloc (.cells #[R,T,Ro] t1)).alloc (.cells #[Rj,Rh,Rc,QZ,QX] t2)).drewN n) J):ag w J/\(ae J w.heap.size 0 R/\ae J w.heap.size 1 T/\ae J w.heap.size 2 Ro)/\(ae J (w.heap.size+1) 0 Rj/\ae J (w.heap.size+1) 1 Rh/\ae J (w.heap.size+1) 2 Rc/\ae J (w.heap.size+1) 3 QZ/\ae J (w.heap.size+1) 4 QX):=by have D:=rW ((w.alloc (.cells #[R,T,Ro] t1)).alloc (.cells #[Rj,Rh,Rc,QZ,QX] t2)) n;have h:=D.trans (Y.mono D.size);have Z:((w.alloc (.cells #[R,T,Ro] t1)).alloc (.cells #[Rj,Rh,Rc,QZ,QX] t2)).heap[w.heap.size]?=some (.cells #[R,T,Ro] t1 (0,0)):=(bJ _ _ Rq).trans (aC _ _ rfl);have ab:((w.alloc (.cells #[R,T,Ro] t1)).alloc (.cells #[Rj,Rh,Rc,QZ,QX] t2)).heap[w.heap.size+1]?=some (.cells #[Rj,Rh,Rc,QZ,QX] t2 (0,0)):=aC _ _ Rq;obtain⟨F,G,H,_⟩:=zgc h Z;obtain⟨⟨I,N,O,U,V⟩,_⟩:=zdE h ab;exact⟨(((aj w.heap.size w).alloc Rq _).alloc Rq _).trans (h.mono Sp),⟨F,G,H⟩,⟨I,N,O,U,V⟩⟩
theorem gK(n:Nat):decide ((n:Int)<160)=decide (n<160):=by rw[jz];simp;omega
theorem zb5(p v h a b c:Int)(A:aq)(cap:Nat)(rows:aN)(w:aa)(D:aq)(row:aH)(I:Nat)(F:bk w A rows)(G:aJ w D row)(H:row.length<=1048576)(s:Sys p v h rows):aw 95 #[p,.agg (ar v h A rows cap),.agg #[.int .i64 1,a,b,c,.slice D row.length I]] w (dM w (lC p v h rows 1 a b c row)):=by
 have V:=s.n;have Y:=s.p2;have Z:=s.p97;have ab:=s.v0;have ac:=s.v24;have T:=s.h0;have U:=s.h100;obtain⟨S,N,R,EU,J,O⟩:=kE s F G H (TD:rows.length<=maxLen) (TD:row.length<=maxLen);clear s F G H;cases he:mu 1 a b c row.length with
 |false=>
  exact ZD
 |true=>
  exact ZE
theorem zaQ(p v h a b c:Int)(A:aq)(cap:Nat)(rows:aN)(w:aa)(D:aq)(row:aH)(I:Nat)(F:bk w A rows)(G:aJ w D row)(H:row.length<=1048576)(s:Sys p v h rows):aw 95 #[p,.agg (ar v h A rows cap),.agg #[.int .i64 2,a,b,c,.slice D row.length I]] w (dM w (lC p v h rows 2 a b c row)):=by
 have V:=s.n;have Y:=s.p2;have Z:=s.p97;have ab:=s.v0;have ac:=s.v24;have T:=s.h0;have U:=s.h100;obtain⟨S,N,R,EU,J,O⟩:=kE s F G H (TD:rows.length<=maxLen) (TD:row.length<=maxLen);clear s F G H;cases he:mu 2 a b c row.length with
 |false=>
  exact ZD
 |true=>
  exact ZE
theorem zd3(p v h a b c:Int)(A:aq)(cap:Nat)(rows:aN)(w:aa)(D:aq)(row:aH)(I:Nat)(F:bk w A rows)(G:aJ w D row)(H:row.length<=1048576)(s:Sys p v h rows):aw 95 #[p,.agg (ar v h A rows cap),.agg #[.int .i64 3,a,b,c,.slice D row.length I]] w (dM w (lC p v h rows 3 a b c row)):=by
 have V:=s.n;have Y:=s.p2;have Z:=s.p97;have ab:=s.v0;have ac:=s.v24;have T:=s.h0;have U:=s.h100;obtain⟨S,N,R,EU,J,O⟩:=kE s F G H (TD:rows.length<=maxLen) (TD:row.length<=maxLen);clear s F G H;cases he:mu 3 a b c row.length with
 |false=>
  exact ZD
 |true=>
  exact ZE
theorem zb6(p v h a b c:Int)(A:aq)(cap:Nat)(rows:aN)(w:aa)(D:aq)(row:aH)(ab:Nat)(F:bk w A rows)(G:aJ w D row)(N:row.length<=1048576)(s:Sys p v h rows):aw 95 #[p,.agg (ar v h A rows cap),.agg #[.int .i64 4,a,b,c,.slice D row.length ab]] w (dM w (lC p v h rows 4 a b c row)):=by
 have a6:=s.n;have a7:=s.p2;have a8:=s.p97;have a9:=s.v0;have ba:=s.v24;have a4:=s.h0;have a5:=s.h100;obtain⟨S,Y,ao,EU,ad,am⟩:=kE s F G N (TD:rows.length<=maxLen) (TD:row.length<=maxLen);clear s F G N;cases he:mu 4 a b c row.length with
 |false=>
  exact ZD
 |true=>
  have HE:=zH he;clear he;cases Z:et a 0 ((rows.length:Int)-1)
  .skip
   exact ZB
  .obtain⟨ap,a0⟩:=cX.1 Z;obtain⟨r,hr⟩:=aB (Rr:a.toNat<rows.length);obtain⟨a1,o,rfl,H⟩:=Y.o.here (Rr:a.toNat<rows.length);obtain⟨ac,a2,I,J⟩:=H _ r hr;obtain⟨R,V,O,U⟩:=fU (To:rows.getD a.toNat []=r) (show r.length<=maxLen by have:=S.o.len r (aY hr);unfold maxLen;omega) I J;clear H I J hr;go_enter fm,fp
   go_wp2;go_quiet ((go_at_call 92;exact bH (aS _ _ _ _)))
   go_wp2;go_quiet ((go_at_call 92;first|exact bH (aS _ _ _ _)|exact cv (aS _ _ _ _)))
   go_wp2_with (first|(go_at_call 92;refine(aS _ _ _ _).mono ?_;rintro e w' ⟨rfl,rfl⟩)|(go_at_call 136;refine(Calls.be (c_ _ _ _ _ _ _ _ _ EU.o) HE.o).mono ?_;rintro e w1 ⟨rfl,EG⟩;obtain⟨ER,⟨c0,c1,c2⟩,⟨d0,d1,d2,d3,d4⟩⟩:=ew EG;have a3:=al ER O.o;have T:=zH (U.o.ext ER);have EV:=zH ER;clear ER EG)|(go_at_call 114;refine(lB _ _ _ _ _ _ T.o V.o).mono ?_;rintro e w' ⟨rfl,rfl⟩))
   all_goals
    go_ret
    exact⟨aL (by rw[lC,HE.o,R.o];simp[*]),EV.o⟩
theorem zd4(p v h a b c:Int)(A:aq)(cap:Nat)(rows:aN)(w:aa)(D:aq)(row:aH)(I:Nat)(F:bk w A rows)(G:aJ w D row)(H:row.length<=1048576)(s:Sys p v h rows):aw 95 #[p,.agg (ar v h A rows cap),.agg #[.int .i64 5,a,b,c,.slice D row.length I]] w (dM w (lC p v h rows 5 a b c row)):=by
 have V:=s.n;have Y:=s.p2;have Z:=s.p97;have ab:=s.v0;have ac:=s.v24;have T:=s.h0;have U:=s.h100;obtain⟨S,N,R,EU,J,O⟩:=kE s F G H (TD:rows.length<=maxLen) (TD:row.length<=maxLen);clear s F G H;cases he:mu 5 a b c row.length with
 |false=>
  exact ZD
 |true=>
  exact ZE
theorem zaR(p v D a b c:Int)(A:aq)(cap:Nat)(rows:aN)(w:aa)(F:aq)(row:aH)(ad:Nat)(H:bk w A rows)(I:aJ w F row)(J:row.length<=1048576)(s:Sys p v D rows):aw 95 #[p,.agg (ar v D A rows cap),.agg #[.int .i64 6,a,b,c,.slice F row.length ad]] w (dM w (lC p v D rows 6 a b c row)):=by
 have a4:=s.n;have a5:=s.p2;have a6:=s.p97;have ab:=s.v0;have ac:=s.v24;have a3:=s.h0;have Z:=s.h100;obtain⟨S,T,ap,EU,R,ao⟩:=kE s H I J (TD:rows.length<=maxLen) (TD:row.length<=maxLen);clear s H I J;cases he:mu 6 a b c row.length with
 |false=>
  exact ZD
 |true=>
  have HE:=zH he;clear he;cases a2:et a 0 ((rows.length:Int)-1)
  .skip
   exact ZG
  .cases Y:et b 0 (D-1)
   .skip
    exact ZG
   .obtain⟨V,a0⟩:=cX.1 Y;go_enter fm,fp
    go_wp2;go_quiet ((go_at_call 92;exact bH (aS _ _ _ _)))
    go_wp2;go_quiet ((go_at_call 92;first|exact bH (aS _ _ _ _)|exact cv (aS _ _ _ _)))
    go_wp2_with (first|(go_at_call 92;refine(aS _ _ _ _).mono ?_;rintro e w' ⟨rfl,rfl⟩)|(go_at_call 136;refine(Calls.be (c_ _ _ _ _ _ _ _ _ EU.o) HE.o).mono ?_;rintro e w1 ⟨rfl,EG⟩;obtain⟨ER,⟨c0,c1,c2⟩,⟨d0,d1,d2,d3,d4⟩⟩:=ew EG;have U:=zH (T.o.ext ER);have EV:=zH ER;clear ER EG))
    all_goals
     go_region_held3 (fun w'=>ae w' w.heap.size 0 (.int .i64 v)/\ae w' w.heap.size 1 (.int .i64 D)/\ae w' w.heap.size 2 (.slice A rows.length cap)/\ae w' (w.heap.size+1) 1 (.int .i64 a)/\ae w' (w.heap.size+1) 2 (.int .i64 b)) (first|exact⟨c0,c1,c2,d1,d2⟩|exact⟨al h c0,al h c1,al h c2,al h d1,al h d2⟩)
      (first|(go_at_call 138;refine(uq _ _ _ _ _ _ _ (U.o.ext ?_) Rr ab ac Z V Rr S.o.len).mono ?_;exact(aj _ _).drew;rintro e a7 ⟨u,rfl,N,h⟩;obtain⟨am,a1,rfl,G,_,_⟩:=N.view)|(go_at_call 137;refine(zaY _ _ _ _ _ G (by simp[my];exact R.o)).mono ?_;rintro e w' ⟨rfl,rfl⟩))
     have O:=zH (ai EV.o ((aj _ _).drew.trans h));clear h N G;go_wp2
    all_goals
     go_ret
     exact⟨aL (by simp[lC,HE.o,gK, *]),O.o⟩
theorem zaS(p v D a b c:Int)(A:aq)(cap:Nat)(rows:aN)(w:aa)(O:aq)(row:aH)(am:Nat)(R:bk w A rows)(T:aJ w O row)(Z:row.length<=1048576)(s:Sys p v D rows):aw 95 #[p,.agg (ar v D A rows cap),.agg #[.int .i64 7,a,b,c,.slice O row.length am]] w (dM w (lC p v D rows 7 a b c row)):=by
 have a7:=s.n;have J:=s.p2;have N:=s.p97;have a8:=s.v0;have a9:=s.v24;have a4:=s.h0;have a5:=s.h100;obtain⟨S,ap,H,EU,ao,I⟩:=kE s R T Z (TD:rows.length<=maxLen) (TD:row.length<=maxLen);clear s R T Z;cases he:mu 7 a b c row.length with
 |false=>
  exact ZD
 |true=>
  have HE:=zH he;clear he;by_cases h:(row.length:Int)=v+D+1
  .cases ad:et b 0 D
   .have V:((row.length:Int)==v+D+1)=true:=by simp[h]
    have G:=zH h;clear h;go_enter fm,fp
    go_wp2;go_quiet ((go_at_call 92;exact bH (aS _ _ _ _)))
    go_wp2;go_quiet ((go_at_call 92;first|exact bH (aS _ _ _ _)|exact cv (aS _ _ _ _)))
    go_wp2_with (first|(go_at_call 92;refine(aS _ _ _ _).mono ?_;rintro e w' ⟨rfl,rfl⟩)|(go_at_call 136;refine(Calls.be (c_ _ _ _ _ _ _ _ _ EU.o) HE.o).mono ?_;rintro e w1 ⟨rfl,EG⟩;obtain⟨ER,⟨c0,c1,c2⟩,⟨d0,d1,d2,d3,d4⟩⟩:=ew EG;have F:=zH (H.o.ext ER);have EV:=zH ER;clear ER EG)|(go_at_call 78;refine(Ao _ _ _ _ _ F.o I.o J N).mono ?_;rintro e w' ⟨rfl,rfl⟩))
    all_goals
     go_ret
     exact⟨aL (by simp[lC,HE.o,gK, *]),EV.o⟩
   .obtain⟨a0,a1⟩:=cX.1 ad;have Y:(v+b).toNat<row.length:=Rr;have a6:v+b<row.length:=Rr;obtain⟨x,hx⟩:=aB Y;obtain⟨a2,o,rfl,U⟩:=H.o.here Y;obtain⟨ab,ac⟩:=bD (U _ _ hx) (Tn:row.getD (v+b).toNat 0=x);have V:((row.length:Int)==v+D+1)=true:=by simp[h]
    have G:=zH h;clear h hx U;go_enter fm,fp
    go_wp2;go_quiet ((go_at_call 92;exact bH (aS _ _ _ _)))
    go_wp2;go_quiet ((go_at_call 92;first|exact bH (aS _ _ _ _)|exact cv (aS _ _ _ _)))
    go_wp2_with (first|(go_at_call 92;refine(aS _ _ _ _).mono ?_;rintro e w' ⟨rfl,rfl⟩)|(go_at_call 136;refine(Calls.be (c_ _ _ _ _ _ _ _ _ EU.o) HE.o).mono ?_;rintro e w1 ⟨rfl,EG⟩;obtain⟨ER,⟨c0,c1,c2⟩,⟨d0,d1,d2,d3,d4⟩⟩:=ew EG;have F:=zH (H.o.ext ER);have a3:=al ER ab.o;have EV:=zH ER;clear ER EG)|(go_at_call 78;refine(Ao _ _ _ _ _ F.o I.o J N).mono ?_;rintro e w' ⟨rfl,rfl⟩))
    all_goals
     go_ret
     exact⟨aL (by rw[lC,HE.o,ac.o];simp[G.o,gK, *]<;>(intros;omega)),EV.o⟩
  .have V:((row.length:Int)==v+D+1)=false:=by simp[h]
   have G:=zH h;clear h;go_enter fm,fp
   go_wp2;go_quiet ((go_at_call 92;exact bH (aS _ _ _ _)))
   go_wp2;go_quiet ((go_at_call 92;first|exact bH (aS _ _ _ _)|exact cv (aS _ _ _ _)))
   go_wp2_with (first|(go_at_call 92;refine(aS _ _ _ _).mono ?_;rintro e w' ⟨rfl,rfl⟩)|(go_at_call 136;refine(Calls.be (c_ _ _ _ _ _ _ _ _ EU.o) HE.o).mono ?_;rintro e w1 ⟨rfl,EG⟩;obtain⟨ER,⟨c0,c1,c2⟩,⟨d0,d1,d2,d3,d4⟩⟩:=ew EG;have F:=zH (H.o.ext ER);have EV:=zH ER;clear ER EG)|(go_at_call 78;refine(Ao _ _ _ _ _ F.o I.o J N).mono ?_;rintro e w' ⟨rfl,rfl⟩))
   all_goals
    go_ret
    exact⟨aL (by simp[lC,HE.o,G.o, *]),EV.o⟩
theorem Dz(p v h a b c:Int)(A:aq)(cap:Nat)(rows:aN)(w:aa)(D:aq)(row:aH)(am:Nat)(G:bk w A rows)(H:aJ w D row)(J:row.length<=1048576)(s:Sys p v h rows):aw 95 #[p,.agg (ar v h A rows cap),.agg #[.int .i64 8,a,b,c,.slice D row.length am]] w (dM w (lC p v h rows 8 a b c row)):=by
 have a4:=s.n;have a5:=s.p2;have a6:=s.p97;have ac:=s.v0;have ad:=s.v24;have a3:=s.h0;have ab:=s.h100;obtain⟨S,U,a0,EU,T,ap⟩:=kE s G H J (TD:rows.length<=maxLen) (TD:row.length<=maxLen);clear s G H J;cases he:mu 8 a b c row.length with
 |false=>
  exact ZD
 |true=>
  have HE:=zH he;clear he;cases Z:et b 0 (h-1)
  .skip
   exact ZB
  .obtain⟨Y,a1⟩:=cX.1 Z;go_enter fm,fp
   go_wp2;go_quiet ((go_at_call 92;exact bH (aS _ _ _ _)))
   go_wp2;go_quiet ((go_at_call 92;first|exact bH (aS _ _ _ _)|exact cv (aS _ _ _ _)))
   go_wp2_with (first|(go_at_call 92;refine(aS _ _ _ _).mono ?_;rintro e w' ⟨rfl,rfl⟩)|(go_at_call 136;refine(Calls.be (c_ _ _ _ _ _ _ _ _ EU.o) HE.o).mono ?_;rintro e w1 ⟨rfl,EG⟩;obtain⟨ER,⟨c0,c1,c2⟩,⟨d0,d1,d2,d3,d4⟩⟩:=ew EG;have V:=zH (U.o.ext ER);have EV:=zH ER;clear ER EG)|(go_at_call 138;refine(uq _ _ _ _ _ _ _ V.o Rr ac ad ab Y Rr S.o.len).mono ?_;rintro e a7 ⟨u,rfl,N,I⟩;obtain⟨ao,a2,rfl,F,_,_⟩:=N.view;have R:=zH F;have O:=zH (ai EV.o I);clear N F I)|(go_at_call 114;refine(lB _ _ _ _ _ _ R.o (by simp[my];exact T.o)).mono ?_;rintro e w' ⟨rfl,rfl⟩))
   all_goals
    go_ret
    exact⟨aL (by simp[lC,HE.o, *]),O.o⟩
theorem DA(p v h a b c:Int)(A:aq)(cap:Nat)(rows:aN)(w:aa)(D:aq)(row:aH)(I:Nat)(F:bk w A rows)(G:aJ w D row)(H:row.length<=1048576)(s:Sys p v h rows):aw 95 #[p,.agg (ar v h A rows cap),.agg #[.int .i64 9,a,b,c,.slice D row.length I]] w (dM w (lC p v h rows 9 a b c row)):=by
 have V:=s.n;have Y:=s.p2;have Z:=s.p97;have ab:=s.v0;have ac:=s.v24;have T:=s.h0;have U:=s.h100;obtain⟨S,N,R,EU,J,O⟩:=kE s F G H (TD:rows.length<=maxLen) (TD:row.length<=maxLen);clear s F G H;cases he:mu 9 a b c row.length with
 |false=>
  exact ZD
 |true=>
  exact ZE
theorem zaT(p v h k a b c:Int)(A:aq)(cap:Nat)(rows:aN)(w:aa)(D:aq)(row:aH)(R:Nat)(I:bk w A rows)(J:aJ w D row)(N:row.length<=1048576)(s:Sys p v h rows)(h1:k≠1)(h2:k≠2)(h3:k≠3)(h4:k≠4)(h5:k≠5)(F:k≠6)(h7:k≠7)(G:k≠8)(H:k≠9):aw 95 (iK p (ar v h A rows cap) (fO k a b c D row.length R)) w (dM w (lC p v h rows k a b c row)):=by
 have a4:=s.n;have a5:=s.p2;have a6:=s.p97;have a7:=s.v0;have a8:=s.v24;have a2:=s.h0;have a3:=s.h100;obtain⟨S,U,Y,EU,T,V⟩:=kE s I J N (TD:rows.length<=maxLen) (TD:row.length<=maxLen);clear s I J N;have Z:(k==1)=false:=Sl;have ab:(k==2)=false:=Sm;have ac:(k==3)=false:=Sg;have ad:(k==4)=false:=Sf;have am:(k==5)=false:=Se;have ao:(k==6)=false:=by simpa using F
 have ap:(k==7)=false:=Si;have a0:(k==8)=false:=by simpa using G
 have a1:(k==9)=false:=by simpa using H
 have O:=zH (by simp[lC, *]:lC p v h rows k a b c row=false);clear h1 h2 h3 h4 h5 F h7 G H;cases he:mu k a b c row.length with
 |false=>
  exact ZD
 |true=>
  have HE:=zH he;clear he;go_enter fm,fp
  go_wp2;go_quiet ((go_at_call 92;exact bH (aS _ _ _ _)))
  go_wp2;go_quiet ((go_at_call 92;first|exact bH (aS _ _ _ _)|exact cv (aS _ _ _ _)))
  go_wp2_with (first|(go_at_call 92;refine(aS _ _ _ _).mono ?_;rintro e w' ⟨rfl,rfl⟩)|(go_at_call 136;refine(Calls.be (c_ _ _ _ _ _ _ _ _ EU.o) HE.o).mono ?_;rintro e w1 ⟨rfl,EG⟩;obtain⟨ER,⟨c0,c1,c2⟩,⟨d0,d1,d2,d3,d4⟩⟩:=ew EG;have EV:=zH ER;clear ER EG))
  all_goals
   go_ret
   exact⟨aL (by rw[O.o]),EV.o⟩
theorem CO(p v h k a b c:Int)(A:aq)(cap:Nat)(rows:aN)(w:aa)(D:aq)(row:aH)(F:Nat)(G:bk w A rows)(H:aJ w D row)(I:row.length<=1048576)(s:Sys p v h rows):aw 95 (iK p (ar v h A rows cap) (fO k a b c D row.length F)) w (dM w (lC p v h rows k a b c row)):=by
 by_cases J:k=1
 .subst J;exact zb5 p v h a b c A cap rows w D row F G H I s
 by_cases N:k=2
 .subst N;exact zaQ p v h a b c A cap rows w D row F G H I s
 by_cases O:k=3
 .subst O;exact zd3 p v h a b c A cap rows w D row F G H I s
 by_cases R:k=4
 .subst R;exact zb6 p v h a b c A cap rows w D row F G H I s
 by_cases T:k=5
 .subst T;exact zd4 p v h a b c A cap rows w D row F G H I s
 by_cases U:k=6
 .subst U;exact zaR p v h a b c A cap rows w D row F G H I s
 by_cases V:k=7
 .subst V;exact zaS p v h a b c A cap rows w D row F G H I s
 by_cases Y:k=8
 .subst Y;exact Dz p v h a b c A cap rows w D row F G H I s
 by_cases Z:k=9
 .subst Z;exact DA p v h a b c A cap rows w D row F G H I s
 exact zaT p v h k a b c A cap rows w D row F G H I s J N O R T U V Y Z
end Go.Proofs.YtpieilkmmiopfaaGreatDoor
