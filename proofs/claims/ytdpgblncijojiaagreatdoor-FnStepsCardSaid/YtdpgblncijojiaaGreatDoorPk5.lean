/- Parts of the walks. Conditions: as stated with each. -/
import Derived.Test.YtdpgblncijojiaaGreatDoorPk4
namespace Go.Proofs.YtdpgblncijojiaaGreatDoor
open Go.RowKit Tryz
set_option linter.all false
set_option maxHeartbeats 4000000
variable{RK h h' p:Int}{Y:aE}{c k:Nat}{xs:aG}
def Cm(b p v h:Int)(A:an)(cap:Nat)(rows:aE)(w:aa)(ab:aX w A rows)(ap:rows.length<=160)(a0:∀r∈rows,r.length<=1000)(a2:0<=v)(a3:v<=1000)(ac:0<=b)(ad:b<=1000)(am:1<=h)(ao:h<=1000)(H:∀r∈rows,v+b<r.length):aw 247 (eQ (bg b) p (ae v h A rows cap)) w fun e w'=>∃u,e=.returned (.agg (dE v (h-1) u))/\aJ w' w u (rows.map (fun r=>r.eraseIdx (v+b).toNat))/\ai w w':=by
 have J:=zH H;clear H;have O:=zH a0;go_enter func247,ntmps247
 go_wp2_with fail
 refine(w_ b v h A cap rows _ (ab.ext (below_alloc3 w _ _ _)) ap O a2 a3 ac ad am ao J.o).mono ?_;rintro e a9 ⟨u,rfl,D,z⟩;obtain⟨Y,Z,F,_,_,_⟩:=aJ.view D;simp only[bt]at F;subst F;obtain⟨a4,a5,I⟩:=cA w (.cells (bg b) 142) (.cells (ae v h A rows cap) 26) (.cells aQ 26);have a1:=z.size;simp only[cg]at a1;have E:=cD z I;obtain⟨Q,R,U⟩:=bT E;obtain⟨a6,a7,a8⟩:=bU E;simp only[dt,cZ]at Q R U;obtain⟨HO,HE⟩:=bS (D.mono (B':=(w:Nat)+3) RS) ((below_alloc3 w _ _ _).trans (z.mono (B':=w.heap.size) SJ));clear D z a4 a5 I E;go_wp2;refine ax (v:=.agg (ae v (h-1) Y rows Z)) (by simp[results,results247,go_sem, *]) rfl ⟨_,rfl,?_,?_⟩
 .exact YD
 .exact Yq
def Cn(b p v h:Int)(A:an)(cap:Nat)(rows:aE)(w:aa)(ab:aX w A rows)(ap:rows.length<=160)(a0:∀r∈rows,r.length<=1000)(a2:0<=v)(a3:v<=1000)(ac:0<=b)(ad:b<=1000)(am:0<=h)(ao:h<=1000)(H:∀r∈rows,v+b<=r.length):aw 250 (eQ (bg b) p (ae v h A rows cap)) w fun e w'=>∃u,e=.returned (.agg (dE v (h+1) u))/\aJ w' w u (rows.map (fun r=>bK r (v+b).toNat 0))/\ai w w':=by
 have J:=zH H;clear H;have O:=zH a0;go_enter func250,ntmps250
 go_wp2_with fail
 refine(D4 b v h A cap rows _ (ab.ext (below_alloc3 w _ _ _)) ap O a2 a3 ac ad am ao J.o).mono ?_;rintro e a9 ⟨u,rfl,D,z⟩;obtain⟨Y,Z,F,_,_,_⟩:=aJ.view D;simp only[bt]at F;subst F;obtain⟨a4,a5,I⟩:=cA w (.cells (bg b) 143) (.cells (ae v h A rows cap) 26) (.cells aQ 26);have a1:=z.size;simp only[cg]at a1;have E:=cD z I;obtain⟨Q,R,U⟩:=bT E;obtain⟨a6,a7,a8⟩:=bU E;simp only[dt,cZ]at Q R U;obtain⟨HO,HE⟩:=bS (D.mono (B':=(w:Nat)+3) RS) ((below_alloc3 w _ _ _).trans (z.mono (B':=w.heap.size) SJ));clear D z a4 a5 I E;go_wp2;refine ax (v:=.agg (ae v (h+1) Y rows Z)) (by simp[results,results250,go_sem, *]) rfl ⟨_,rfl,?_,?_⟩
 .exact YD
 .exact Yq
def DN(a b p v h:Int)(A:an)(cap:Nat)(rows:aE)(w:aa)(a0:aX w A rows)(ca:rows.length<=160)(a4:∀r∈rows,r.length<=1000)(b5:0<=a)(cn:a<rows.length)(cc:0<=v)(ce:v<=1000)(hb:0<=b)(b6:b<=1000)(b8:1<=h)(b9:h<=1000)(a3:∀r∈rows,v+b<r.length):aw 231 (eQ (bP a b) p (ae v h A rows cap)) w fun e w'=>∃u,e=.returned (.agg (dE v (h-1) u))/\aJ w' w u ((rows.map (fun r=>r.eraseIdx (v+b).toNat)).eraseIdx a.toNat)/\ai w w':=by
 have bm:=zH a3;clear a3;have bo:=zH a4;go_enter func231,ntmps231
 go_wp2_with fail
 refine(w_ b v h A cap rows _ (a0.ext (below_alloc3 w _ _ _)) ca bo cc ce hb b6 b8 b9 bm).mono ?_;rintro e E ⟨u,rfl,a5,U⟩;obtain⟨z,O⟩:=aO (rows.map (fun r=>r.eraseIdx (v+b).toNat));rw[<-O]at a5;obtain⟨FR,bp⟩:=bS (by rw[O];simp:z.length=rows) O;clear O;obtain⟨us,hu⟩:=a5;obtain⟨H,D,rfl,_,_,_⟩:=aJ.view ⟨us,hu⟩;obtain⟨ba,ch,bb⟩:=cA w (.cells (bP a b) 138) (.cells (ae v h A rows cap) 26) (.cells aQ 26);have cb:=U.size;simp only[cg]at cb;go_upto_region 2 with(fail)
 obtain⟨F,En⟩:=aO (E.alloc (.cells (ae v (h-1) H z D) 26));rw[<-En];have Y:ai E F:=Wc;have cu:(F:Nat)=E+1:=SH;have J:=cC U Y;have am:aU F E (ae v (h-1) H z D) 26:=UF;have a8:=cD J ba;have a9:=cD J bb;have ac:bh F ((w:Nat)+3) (.slice H z D) z us:=(hu.ext Y).mono RS;have a7:∀g',H=some ⟨g',0,none⟩->g' < (E:Nat):=fun g' e=>VT
 have a2:ai w F:=(below_alloc3 w _ _ _).trans (J.mono SJ);clear hu U Y J a4 ba ch bb En;obtain⟨g,b7,co,cr⟩:∃g,H=some ⟨g,0,none⟩/\(w:Nat)+3<=g/\g < (F:Nat):=ks ac TT;subst b7;have ct:=a7 g rfl;have bd:=aW a8 0;have be:=aW am 2;simp only[dt,cZ]at bd be;obtain⟨R,bi,br,bv⟩:=fU ac a2 a9 am;clear ac a2 a7 a8 a9 am a0;go_upto_region 3 with(go_at_call 220;refine(qN ((w:Nat)+3) g z D a us _ R.o.outer (oh R.o) b5 TT TT).mono ?_;rintro e wr ⟨rfl,a6,Z⟩;have I:=(Z.block E RU Sk).trans bv;have Q:=zH Z;have HO:=zH a6;have f2:=aP I 2;have c2:=aW I 2;simp only[dt,cZ]at c2;have ap:=zH I;clear I Z a6)
 have ao:=bs wr E 2 _ _ (.slice (aY g) (z.length-1) D) ap;simp only[zA]at ao;have ad:=(cm wr ⟨E,2,none⟩ ((w:Nat)+1+1) (.slice (aY g) (z.length-1) D) SJ).trans ((Q.o.block _ RU Sk).trans br);have a1:=R.o.erase TT HO Q.o;have ab:=a1.jd ap (j:=2) (u:=.slice (aY g) (z.length-1) D);rw[show z.eraseIdx a.toNat=(rows.map (fun r=>r.eraseIdx (v+b).toNat)).eraseIdx a.toNat by rw[bp.o]]at ab;obtain⟨HO,HE⟩:=bS (show aJ _ ((w:Nat)+3) _ _ from⟨_,ab⟩) ((bi.grown Q.o RU fun b hb=>SU).setCell (p:=⟨E,2,none⟩) SJ (.slice (aY g) (z.length-1) D));clear a1 ab c2 f2 bd be;obtain⟨bz,b0,b1⟩:=bT ao;obtain⟨b2,b3,b4⟩:=bT ad;obtain⟨ci,cj,ck⟩:=bU ad;simp only[dt,cZ]at bz b0 b1 b2 b3 b4;clear ao ad;go_wp2;refine ax (v:=.agg (dj v (h-1) (aY g) (z.length-1) D)) (by simp[results,results231,go_sem, *]) rfl ⟨_,rfl,?_,?_⟩
 .exact YD
 .exact Yq
def C_(a b p v h:Int)(A A2:an)(cap R:Nat)(xs:aG)(rows:aE)(w:aa)(bo:aX w A rows)(cR:rows.length<=160)(b0:∀r∈rows,r.length<=1000)(br:aT w A2 xs)(d2:xs.length<=1000)(cy:0<=a)(dl:a<=rows.length)(c4:0<=v)(c5:v<=1000)(E:0<=b)(cF:b<=1000)(cI:0<=h)(cO:h<=1000)(bz:∀r∈rows,v+b<=r.length):aw 238 (eQ (ae a b A2 xs R) p (ae v h A rows cap)) w fun e w'=>∃u,e=.returned (.agg (dE v (h+1) u))/\aJ w' w u (bK (rows.map (fun r=>bK r (v+b).toNat 0)) a.toNat xs)/\ai w w':=by
 obtain⟨b9,ce⟩:=bS bz br;clear bz br;have ca:=zH b0;go_enter func238,ntmps238
 go_wp2_with fail
 refine(D4 b v h A cap rows _ (bo.ext (below_alloc3 w _ _ _)) cR ca c4 c5 E cF cI cO b9).mono ?_;rintro e D ⟨u,rfl,b1,a4⟩;obtain⟨z,ao⟩:=aO (rows.map (fun r=>bK r (v+b).toNat 0));rw[<-ao]at b1;obtain⟨FR,cb⟩:=bS (by rw[ao];simp:z.length=rows) ao;clear ao;obtain⟨us,hu⟩:=b1;obtain⟨H,I,rfl,_,_,_⟩:=aJ.view ⟨us,hu⟩;obtain⟨b7,c7,b8⟩:=cA w (.cells (ae a b A2 xs R) 140) (.cells (ae v h A rows cap) 26) (.cells aQ 26);have c0:=a4.size;simp only[cg]at c0;go_upto_region 2 with(fail)
 obtain⟨F,En⟩:=aO (D.alloc (.cells (ae v (h+1) H z I) 26));rw[<-En];have a5:ai D F:=Wc;have d0:(F:Nat)=D+1:=SH;have ac:=cC a4 a5;have a9:aU F D (ae v (h+1) H z I) 26:=UF;have a7:=cD ac b7;have b6:=cD ac b8;have b3:bh F ((w:Nat)+3) (.slice H z I) z us:=(hu.ext a5).mono RS;have b4:∀g',H=some ⟨g',0,none⟩->g' < (D:Nat):=fun g' e=>VT
 have bv:ai w F:=(below_alloc3 w _ _ _).trans (ac.mono SJ);clear hu a4 a5 ac b0 b7 c7 b8 En;have cz:a<=z.length:=TT;have dT:z.length<=160:=TT;have ap:=aW a7 0;have bd:=aW a7 2;have a0:=aW a9 2;simp only[dt,cZ]at ap bd a0;obtain⟨Z,be,ci,cj,cc⟩:=lv b3 bv b6 a9 b4;clear b3 bv b4 a7 b6 a9 bo;refine bJ (S:=fun w'=>ah w' w 0 (zI a)/\ah w' w 2 (.slice A2 xs R)/\ah w' D 2 (.slice H z I)) 10 Si ⟨ap,bd,a0⟩ (fun hHeld=>?_);refine aC 0 ?_;refine aC 1 ?_;refine aC 2 ?_;refine aC 3 ?_;refine aC 4 ?_;refine aC 5 ?_;have bm:∀bb,ai F bb->(fun w':World=>ah w' w 0 (zI a)/\ah w' w 2 (.slice A2 xs R)/\ah w' D 2 (.slice H z I)) bb:=fun bb E=>
  ⟨av E ap,av E bd,av E a0⟩
 refine bM 6 fun K hK=>?_
 go_simp;refine(rO A2 R xs _ ((ce.ext be).ext (aj _ _).drew) RU).mono ?_;rintro e Y ⟨d3,rfl,a6,J⟩;have J:ai F Y:=(aj _ _).drew.trans J;obtain⟨a1,a2,b5,_⟩:=a6.view;try simp only[kj]at b5
 subst b5;dsimp only;refine hK.out _ _ (fun _=>bm Y J) (fun hHeld=>?_);clear hK K;try simp only[Act.put,zA]
 have hHeld:=hHeld RX;have ch:=zH a6;clear a6;refine bM 7 fun K hK=>?_
 go_simp;have O:Below F F (Y.alloc (.cells (bL a1 xs a2) 27)):=J.alloc J.size _;refine hK.out _ _ (fun _=>bm _ O) (fun hHeld=>?_);clear hK K;try simp only[Act.put,zA]
 have hHeld:=hHeld RX;refine bM 8 fun K hK=>?_
 go_simp;have d1:=J.size;have a3:=Z.o.ext O;have ED:∀b,(Value.slice H z I).ownBlock=some b->(w:Nat)+3<=b/\b < (D:Nat):=fun b E=>⟨(bZ Z.o.outer b E).1,by
  rcases Z.o.outer.2 with⟨h1,_⟩|⟨g',c8,c9,h1,_⟩
  .rw[h1]at E;cases E
  .rw[h1]at E;cases E;exact cc g' U3⟩
 refine(qI ((w:Nat)+3) z Y a (.slice H z I) us (.slice a1 xs a2) _ a3.outer (oh a3) rfl (az _ _ rfl) (fun e=>by have:=ED _ e;omega) cy cz RU SJ).mono ?_;rintro e wr ⟨g,U,rfl,b2,Q,_⟩;dsimp only;have ad:∀p:dD,p.block=(w:Nat)∨p.block=(w:Nat)+1∨p.block=(D:Nat)->∀x,(Y.alloc (.cells (bL a1 xs a2) 27)).cell? p=some x->wr.cell? p=some x:=fun p am x c6=>Q.cell c6 (fun e=>by have:=ED _ e.symm;rcases am with am|am|am <;>omega)
 refine hK.out _ _ (fun _=>⟨ad _ (aF rfl) _ hHeld.1,ad _ (aF rfl) _ hHeld.2.1,ad _ (aA (aA rfl)) _ hHeld.2.2⟩) (fun hHeld=>?_);clear hK K;try simp only[Act.put,zA]
 have hHeld:=hHeld RX;refine bM 9 fun K hK=>?_
 go_simp;refine hK.out _ _ (fun _=>hHeld) (fun hHeld=>?_);clear hK K;try simp only[Act.put,zA]
 have ab:wr.heap[D.heap.size]?=_:=(Q.block D SJ (fun e=>UI)).trans ((O.block D RU).trans cj);have bi:=zH ab;have f2:=aP ab 2;have c2:=aW ab 2;simp only[dt,cZ]at c2;clear ab ad hHeld;refine bM 10 fun K hK=>?_
 go_simp;refine hK.out _ _ (fun h=>absurd h RX) (fun _=>?_);clear hK K;try simp only[Act.put,zA]
 refine eC Si ?_ _;have ba:=bs wr D 2 _ _ (.slice (aY g) (z.length+1) U) bi;simp only[zA]at ba;have a8:=(cm wr ⟨D,2,none⟩ ((w:Nat)+1+1) (.slice (aY g) (z.length+1) U) SJ).trans ((Q.block _ SJ (fun e=>UI)).trans ((O.block _ RU).trans ci));have bp:=Z.o.insert O (ch.ext ((aj _ _).alloc (ag _) _)) RU RU b2 Q;obtain⟨HO,HE⟩:=bS (show aJ _ ((w:Nat)+3) _ _ from⟨_,bp.jd bi (j:=2) (u:=.slice (aY g) (z.length+1) U)⟩) ((pU (be.trans (O.mono RU)) Q SJ fun b E=>by have:=ED b E;omega).setCell (p:=⟨D,2,none⟩) SJ (.slice (aY g) (z.length+1) U));clear bp c2 f2 ap a0 Q b2 J O a3 ED;rw[show z.take a.toNat++xs::z.drop a.toNat=bK (rows.map (fun r=>bK r (v+b).toNat 0)) a.toNat xs by rw[cb.o];rfl]at HO;obtain⟨ck,cn,co⟩:=bT ba;obtain⟨cr,ct,cu⟩:=bT a8;obtain⟨da,db,dc⟩:=bU a8;simp only[dt,cZ]at ck cn co cr ct cu;clear ba a8;go_wp2;refine ax (v:=.agg (dj v (h+1) (aY g) (z.length+1) U)) (by simp[results,results238,go_sem, *]) rfl ⟨_,rfl,?_,?_⟩
 .exact YD
 .exact Yq
def zdm(a b c p v h:Int)(n:Nat)(A:an)(cap:Nat)(rows:aE)(w:aa)(bb:aX w A rows)(d4:rows.length<=160)(Et:∀r∈rows,r.length<=1000)(cz:1<=p)(cF:p<=1000)(c8:0<=a)(c9:a<rows.length)(hb:0<=b)(db:b<rows.length)(da:a≠b)(dc:0<=c)(dl:c<=1000)(hx:∀r∈rows,∀x∈r,0<=x/\x<=1000)(d5:1<=n)(a3:∀r∈rows,r.length=n):aw 214 (eQ (fB a b c) p (ae v h A rows cap)) w fun e w'=>∃u,e=.returned (.agg (dE v h u))/\aJ w' w u (rows.set b.toNat (dw p c (rows.getD b.toNat []) (rows.getD a.toNat [])))/\ai w w':=by
 obtain⟨E,EU⟩:=aB (RU:a.toNat<rows.length);obtain⟨H,Fa⟩:=aB (RU:b.toNat<rows.length);obtain⟨b6,b8,ce,ch,Y,Z⟩:=mA (T1:rows.getD a.toNat []=E) (T0:rows.getD b.toNat []=H) (show ∀x∈E,0<=x/\x<=1000 from hx E (a_ EU)) (show ∀x∈H,0<=x/\x<=1000 from hx H (a_ Fa)) (a3 E (a_ EU)) (a3 H (a_ Fa));have d7:E.length<=1000:=Et E (a_ EU);clear hx a3;obtain⟨b9,ca⟩:=bS (RU:rows.length<=1048576) (show ∀r∈rows,r.length<=1048576 from fun r hr=>Uf);go_enter func214,ntmps214
 go_wp2_with fail
 refine(lp _ _ _ _ _ _ (bb.ext (((aj _ _).alloc RS _ |>.alloc RS _).alloc SJ _)) b9 ca).mono ?_;rintro e I ⟨u,rfl,⟨us,hu⟩,a1⟩;obtain⟨O,R,rfl,_,_,_⟩:=aJ.view ⟨us,hu⟩;obtain⟨bv,cR,bz⟩:=cA w (.cells (fB a b c) 134) (.cells (ae v h A rows cap) 26) (.cells aQ 26);have cI:=a1.size;simp only[cg]at cI;go_upto_region 2 with(fail)
 obtain⟨F,En⟩:=aO (I.alloc (.cells (ae v h O rows R) 26));rw[<-En];have a2:ai I F:=Wc;have d8:(F:Nat)=I+1:=SH;have ab:=cC a1 a2;have a6:aU F I (ae v h O rows R) 26:=UF;have bo:=cD ab bv;have bp:=cD ab bz;have E5:bh F ((w:Nat)+3) (.slice O rows R) rows us:=(hu.ext a2).mono RS;have cO:∀g',O=some ⟨g',0,none⟩->g' < (I:Nat):=fun g' e=>VT
 have J:∀(k:Nat) (x:au),us[k]?=some x->∀b,x.ownBlock=some b->b < (I:Nat):=fun k x hx b hb=>Wy
 have be:ai w F:=(below_alloc3 w _ _ _).trans (ab.mono SJ);clear hu a1 a2 ab bb Et bv cR bz En;obtain⟨d9,E6,a4⟩:=E5.get EU;obtain⟨ea,FZ,U⟩:=E5.get Fa;obtain⟨g,cy,dT,d3⟩:∃g,O=some ⟨g,0,none⟩/\(w:Nat)+3<=g/\g < (F:Nat):=ks E5 RU;subst cy;obtain⟨c0,ap,rfl,ba,_⟩:=a4.view;obtain⟨c4,a0,rfl,_,_⟩:=U.view;obtain⟨Q,rfl,d0,_⟩:=kD a4 (by have:=Y.o;omega);obtain⟨D,rfl,d1,_⟩:=kD U (by have:=Z.o;omega);have d2:=J _ _ FZ D rfl;have d6:Q≠D:=fun e=>by have:=E5.apart _ _ _ _ Q E6 FZ rfl (by rw[e];rfl);omega
 have bi:g≠D:=by
  rcases fA E5.outer U with h1|h1
  .cases h1
  .exact W8
 obtain⟨ac,ad,am⟩:=bT bo;have ao:=aW a6 2;simp only[dt,cZ]at ac ad am ao;have a7:ah F g a.toNat (.slice (aY Q) E ap):=VW;have a8:ah F g b.toNat (.slice (aY D) H a0):=Wd;obtain⟨cb,b7,cc,ci,cj,a9⟩:=mA E5 be FZ bp a6 (um p c ((w:Nat)+3) D a0 ap (some ⟨Q,0,none⟩) H E F.drew cz cF RU RU (vE U) (ba.ext (aj _ _).drew) (fun b o e=>by simp only[dX,su]at e;omega) (by rw[Y.o,Z.o]) (by have:=Z.o;have:=Y.o;omega) ch ce);clear E5 be E6 FZ a4 U EU Fa ba cO J bo bp a6;go_region_held3 (fun w'=>ah w' w 0 (zI a)/\ah w' w 1 (zI b)/\ah w' w 2 (zI c)/\ah w' I 2 (.slice (aY g) rows R)/\ah w' g a.toNat (.slice (aY Q) E ap)/\ah w' g b.toNat (.slice (aY D) H a0))
  (first|exact bd|exact⟨ac,ad,am,ao,a7,a8⟩)
  ((go_at_call 147;refine a9.mono ?_;rintro e wr ⟨rfl,bm,z⟩;have b0:=oq z (a:=⟨w,0,none⟩) ac (RU:w.heap.size≠D);have b1:=oq z (a:=⟨w,1,none⟩) ad (RU:w.heap.size≠D);have b2:=oq z (a:=⟨w,2,none⟩) am (RU:w.heap.size≠D);have b3:=oq z (a:=⟨I,2,none⟩) ao (RU:I.heap.size≠D);have b4:=oq z (a:=⟨g,a.toNat,none⟩) a7 bi;have b5:=oq z (a:=⟨g,b.toNat,none⟩) a8 bi;have bd:=bn b0 (bn b1 (bn b2 (bn b3 (bn b4 b5))))))
 have z:=bx (dP F (some D)) z;have br:=(z.block I RU Sk).trans cj;have a5:=(z.block ((w:Nat)+1+1) RU Sk).trans ci;have J:=cb.inner (r':=dw p c H E) cc z (by
  unfold ar;rw[show(dw p c H E).length=H by simp[dw,Y.o,Z.o]];exact bm)
 rw[<-b6.o,<-b8.o]at J;obtain⟨HO,HE⟩:=bS (show aJ wr ((w:Nat)+3) _ _ from⟨_,J⟩) (b7.grown z RU fun b hb=>SU);clear bm z J b0 b1 b2 b3 b4 b5 bd ac ad am ao a7 a8 a9;obtain⟨ck,cn,co⟩:=bT br;obtain⟨cr,ct,cu⟩:=bT a5;obtain⟨c5,c6,c7⟩:=bU a5;simp only[dt,cZ]at ck cn co cr ct cu;clear br a5;go_wp2;refine ax (v:=.agg (ae v h (aY g) rows R)) VM rfl ⟨_,rfl,?_,?_⟩
 .exact YD
 .exact Yq
def eL(k:Int):Bool:=!(k==8||k==9)
def eN(k:Int):Bool:=k==1||k==6||k==3||k==7||k==8||k==9
def eO(k:Int):Bool:=k==2||k==3
def eP(k:Int):Bool:=k==7
def bY(k:Int)(w:aa):aw 108 (bg k) w fun e w'=>e=.returned (.agg #[.bool (eL k),.bool (eN k),.bool (eO k),.bool (eP k)])/\ai w w':=by
 by_cases z:k=1
 .subst z;go_enter oL,oM;go_wp2;exact ax (v:=.agg #[.bool true,.bool true,.bool false,.bool false]) Uv rfl ⟨rfl,(aj _ _).alloc (ag _) _⟩
 by_cases F:k=6
 .subst F;go_enter oL,oM;go_wp2;exact ax (v:=.agg #[.bool true,.bool true,.bool false,.bool false]) Uv rfl ⟨rfl,(aj _ _).alloc (ag _) _⟩
 by_cases D:k=2
 .subst D;go_enter oL,oM;go_wp2;exact ax (v:=.agg #[.bool true,.bool false,.bool true,.bool false]) Uv rfl ⟨rfl,(aj _ _).alloc (ag _) _⟩
 by_cases E:k=3
 .subst E;go_enter oL,oM;go_wp2;exact ax (v:=.agg #[.bool true,.bool true,.bool true,.bool false]) Uv rfl ⟨rfl,(aj _ _).alloc (ag _) _⟩
 by_cases H:k=7
 .subst H;go_enter oL,oM;go_wp2;exact ax (v:=.agg #[.bool true,.bool true,.bool false,.bool true]) Uv rfl ⟨rfl,(aj _ _).alloc (ag _) _⟩
 by_cases I:k=8
 .subst I;go_enter oL,oM;go_wp2;exact ax (v:=.agg #[.bool false,.bool true,.bool false,.bool false]) Uv rfl ⟨rfl,(aj _ _).alloc (ag _) _⟩
 by_cases J:k=9
 .subst J;go_enter oL,oM;go_wp2;exact ax (v:=.agg #[.bool false,.bool true,.bool false,.bool false]) Uv rfl ⟨rfl,(aj _ _).alloc (ag _) _⟩
 go_enter oL,oM
 go_wp2;exact ax (v:=.agg #[.bool true,.bool false,.bool false,.bool false]) Uv rfl ⟨by simp[eL,eN,eO,eP, *],(aj _ _).alloc (ag _) _⟩
def cY(p v h:Int)(A:an)(cap:Nat)(rows:aE)(w:aa)(ap:dm w)(a0:aX w A rows)(I:rows.length<=maxLen)(J:∀r∈rows,r.length<=maxLen):aw 68 #[p,.agg (ae v h A rows cap)] w fun e w'=>(fZ p v h rows=true->e=.returned (.tuple (dN (ae v h A rows cap))))/\(fZ p v h rows=false->e=.returned (.tuple (dy aQ)))/\ai w w':=by
 obtain⟨Y,U⟩:=bS J I;clear J I;go_enter func68,ntmps68
 go_wp2_with fail
 have z:Below w w ((w.alloc (.cells (ae v h A rows cap) 26)).alloc (.cells aQ 26)):=((aj w w).alloc RS _).alloc RS _;refine(jV p v h A cap rows _ (ap.ext z) (a0.ext z) U.o Y.o).mono ?_;rintro e a4 ⟨rfl,D⟩;have Q:((w.alloc (.cells (ae v h A rows cap) 26)).alloc (.cells aQ 26)).heap[w.heap.size]?=some (.cells (ae v h A rows cap) 26 (0,0)):=(b_ _ _ RS).trans (az _ _ rfl);have R:((w.alloc (.cells (ae v h A rows cap) 26)).alloc (.cells aQ 26)).heap[(w:Nat)+1]?=some (.cells aQ 26 (0,0)):=az _ _ RS;have O:=cD D Q;have H:=cD D R;obtain⟨Z,ab,ac⟩:=bT O;obtain⟨ad,am,ao⟩:=bT H;obtain⟨a1,a2,a3⟩:=bU H;simp only[dt,cZ]at Z ab ac ad am ao;have HE:=zH (z.trans (D.mono (B':=w.heap.size) SJ));clear z D Q R O H;cases E:fZ p v h rows
 .have F:=zH E;clear E;go_wp2;refine ax (v:=.tuple (dy aQ)) Vs rfl ⟨fun h=>(by rw[F.o]at h;cases h),fun _=>rfl,?_⟩;exact Yq
 .have F:=zH E;clear E;go_wp2;refine ax (v:=.tuple (dN (ae v h A rows cap))) Vs rfl ⟨fun _=>rfl,fun h=>(by rw[F.o]at h;cases h),?_⟩;exact Yq
structure Sys(p v h:Int)(rows:aE):Prop where
 f:dr p=true
 p2:2<=p
 p97:p<=97
 v0:0<=v
 v24:v<=24
 h0:0<=h
 h100:h<=100
 n:rows.length<=160
 len:∀r∈rows,(r.length:Int)=v+h
 el:∀r∈rows,∀x∈r,0<=x/\x<p
def bk{n lo hi:Int}:eX n lo hi=true↔lo<=n/\n<=hi:=by simp[eX]
def fE{a:Int}:jr p a=true↔0<=a/\a<p:=by simp[jr]
def jH{n:Int}:oX p xs n=true↔(xs:Int)=n/\∀x∈xs,0<=x/\x<p:=by simp[oX,jr]
def zcW{n:Int}{rows:aE}:sM p rows n=true↔∀r∈rows,(r.length:Int)=n/\∀x∈r,0<=x/\x<p:=by simp[sM,jH]
def eY(h:dr p=true):2<=p/\p<=97:=by unfold dr at h;rw[bC]at h;exact bk.1 h.1
def jI{v:Int}{rows:aE}:fZ p v h rows=true↔Sys p v h rows:=by
 unfold fZ;simp only[bC,bk,zcW,cK];constructor
 .rintro⟨a,⟨D,E⟩,⟨c1,c2⟩,d,e⟩;exact⟨a,(eY a).1,(eY a).2,D,E,c1,c2,d,fun r z=>(e r z).1,fun r z=>(e r z).2⟩
 .intro s;exact⟨s.f,⟨s.v0,s.v24⟩,⟨s.h0,s.h100⟩,s.n,fun r z=>⟨s.len r z,s.el r z⟩⟩
def nw{a b:Bool}(h:a=true↔b=true):a=b:=by cases a<;>cases b<;>simp_all
def iY(k a b c:Int)(n:Nat):Bool:=
 ((k !=8&&k !=9)||a==0)&&(((k !=2&&(k !=4&&k !=5))||b==0)&&((k==2||(k==3||c==0))&&(k==7||n==0)))
def ja(p v h:Int)(rows:aE)(k a b c:Int)(row:aG):Bool:=
 iY k a b c row&&
 (if k=1 then eX a 0 ((rows:Int)-1)&&(eX b 0 ((rows:Int)-1)&&(a !=b))
 else if k=2 then eX a 0 ((rows:Int)-1)&&eX c 1 (p-1)
 else if k=3 then(eX a 0 ((rows:Int)-1)&&(eX b 0 ((rows:Int)-1)&&(a !=b)))&&eX c 0 (p-1)
 else if k=4 then eX a 0 ((rows:Int)-1)&&(rows.getD a.toNat []).all (fun x=>eX x 0 0)
 else if k=5 then eX a 0 (rows:Int)&&decide (rows.length<160)
 else if k=6 then eX a 0 ((rows:Int)-1)&&(eX b 0 (h-1)&&nB (fF rows (v+b).toNat) a)
 else if k=7 then eX a 0 (rows:Int)&&(eX b 0 h&&(decide (rows.length<160)&&(decide (h<100)&&(decide ((row:Int)=v+h+1)&&(row.all (jr p)&&(row.getD (v+b).toNat 0 !=0))))))
 else if k=8 then eX b 0 (h-1)&&(fF rows (v+b).toNat).all (fun x=>eX x 0 0)
 else if k=9 then eX b 0 h&&decide (h<100)
 else false)
def kq(p v h:Int)(rows:aE)(k a b c:Int)(row:aG):Bool:=
 if k=1 then eX a 0 ((rows:Int)-1)&&(eX b 0 ((rows:Int)-1)&&(a !=b))
 else if k=2 then eX a 0 ((rows:Int)-1)&&(jr p c&&(c !=0))
 else if k=3 then eX a 0 ((rows:Int)-1)&&(eX b 0 ((rows:Int)-1)&&((a !=b)&&jr p c))
 else if k=4 then eX a 0 ((rows:Int)-1)&&wU (rows.getD a.toNat [])
 else if k=5 then eX a 0 (rows:Int)
 else if k=6 then eX a 0 ((rows:Int)-1)&&(eX b 0 (h-1)&&(((rows.getD a.toNat []).getD (v+b).toNat 0 !=0)&&oZ rows (v+b).toNat a))
 else if k=7 then eX a 0 (rows:Int)&&(eX b 0 h&&(oX p row (v+h+1)&&(row.getD (v+b).toNat 0 !=0)))
 else if k=8 then eX b 0 (h-1)&&oZ rows (v+b).toNat (-1)
 else if k=9 then eX b 0 h
 else false
def dO(k h:Int):Int:=if k=6∨k=8 then h-1 else if k=7∨k=9 then h+1 else h
def bE(p v:Int)(rows:aE)(k a b c:Int)(row:aG)(n:Nat):List (List Int):=
 if k=1 then(rows.set a.toNat (rows.getD b.toNat [])).set b.toNat (rows.getD a.toNat [])
 else if k=2 then rows.set a.toNat (gz p c (rows.getD a.toNat []))
 else if k=3 then rows.set b.toNat (dw p c (rows.getD b.toNat []) (rows.getD a.toNat []))
 else if k=4 then rows.eraseIdx a.toNat
 else if k=5 then bK rows a.toNat (List.replicate n 0)
 else if k=6 then(rows.map (fun r=>r.eraseIdx (v+b).toNat)).eraseIdx a.toNat
 else if k=7 then bK (rows.map (fun r=>bK r (v+b).toNat 0)) a.toNat row
 else if k=8 then rows.map (fun r=>r.eraseIdx (v+b).toNat)
 else if k=9 then rows.map (fun r=>bK r (v+b).toNat 0)
 else rows
def ziD(x:Int):eX x 0 0=decide (x=0):=by apply nw;rw[bk,cK];omega
def zb4(xs:aG):xs.all (fun x=>eX x 0 0)=wU xs:=by simp only[ziD];rfl
def rB{a:Int}:nB xs a=true↔∀(k:Nat) (x:Int),xs[k]?=some x->((k:Int)=a↔x≠0):=by
 unfold nB;simp only[fp,pZ];constructor
 .intro E k x z;have:=E (x,k) (by rw[e_];exact⟨k,by simp[z]⟩);exact decide_eq_decide.1 this
 .intro E y F;obtain⟨k,D⟩:=e_.1 F;rw[CP]at D;cases z:xs[k]? with
  |none=>simp[z]at D
  |some x=>simp[z]at D;subst D;exact decide_eq_decide.2 (E k x z)
def Dm{rows:aE}:oZ rows c RK=true↔∀(k:Nat) (r:aG),rows[k]?=some r->(k:Int)=RK∨r.getD c 0=0:=by
 unfold oZ;simp only[fp,lQ,cK];constructor
 .intro D k r F;exact D (r,k) (by rw[e_];exact⟨k,by simp[F]⟩)
 .intro D y H;obtain⟨k,z⟩:=e_.1 H;rw[CP]at z;cases E:rows[k]? with
  |none=>simp[E]at z
  |some x=>simp[E]at z;subst z;exact D k x E
def nW{rows:aE}{x:Int}:(fF rows c)[k]?=some x↔∃r,rows[k]?=some r/\r.getD c 0=x:=by unfold fF;rw[cp];cases rows[k]? <;>simp
def wI{rows:aE}{a:Int}(Y:0<=a)(Z:a<=(rows:Int)-1):(((rows.getD a.toNat []).getD c 0 !=0)&&oZ rows c a)=nB (fF rows c) a:=by
 apply nw;rw[bC,Dm,rB];have O:a.toNat<rows.length:=RU;have D:rows[a.toNat]?=some rows[a.toNat]:=dA O;have I:rows.getD a.toNat []=rows[a.toNat]:=by simp[List.getD,D]
 rw[I];constructor
 .rintro⟨Q,J⟩ k x R;obtain⟨r,z,rfl⟩:=nW.1 R;constructor
  .intro E;have:k=a.toNat:=RU;subst this;rw[D]at z;cases z
   simpa using Q
  .intro U;rcases J k r z with h|h
   .exact h
   .exact absurd h U
 .intro F;constructor
  .have:=(F a.toNat _ (nW.2 ⟨_,D,rfl⟩)).1 RU;simpa using this
  .intro k r z;have:=F k _ (nW.2 ⟨r,z,rfl⟩);by_cases E:(k:Int)=a
   .exact aF E
   .right;by_cases H:r.getD c 0=0
    .exact H
    .exact absurd (this.2 H) E
def wJ(rows:aE)(c:Nat):oZ rows c (-1)=wU (fF rows c):=by
 apply nw;rw[Dm];unfold wU;simp only[fp,cK];constructor
 .intro z x F;obtain⟨k,E⟩:=e_.1 F;obtain⟨r,D,rfl⟩:=nW.1 E;rcases z k r D with h|h
  .omega
  .exact h
 .intro z k r D;exact aA (z _ (e_.2 ⟨k,nW.2 ⟨r,D,rfl⟩⟩))
def gT{rows:aE}(h:k<rows.length):rows.getD k []∈rows:=by rw[bu,dA h];exact oz h
def mem_set{z:Type}{l:List z}{x y:z}(h:y∈l.set k x):y∈l∨y=x:=vD h
def oU{z:Type}{l:List z}{x y:z}(h:y∈bK l k x):y∈l∨y=x:=by
 unfold bK at h;rcases fc.1 h with h|h
 .exact aF (p_ h)
 .rcases jh.1 h with h|h
  .exact aA h
  .exact aF (km h)
def lD{z:Type}(l:List z)(k:Nat)(x:z):(bK l k x).length=l+1:=by unfold bK;simp;omega
def zeQ{v:Int}{rows:aE}(s:Sys p v h rows)(a:0<=h')(D:∀r∈Y,(r.length:Int)=v+h'/\∀x∈r,0<=x/\x<p):fZ p v h' Y=(decide (h'<=100)&&decide (Y.length<=160)):=by apply nw;rw[jI,bC,cK,cK];exact⟨fun t=>⟨t.h100,t.n⟩,fun t=>⟨s.f,s.p2,s.p97,s.v0,s.v24,a,t.1,t.2,fun r z=>(D r z).1,fun r z=>(D r z).2⟩⟩
def yr{x:Int}(h:2<=p):0<=x%p/\x%p<p:=⟨ir _ RU,iu _ RU⟩
def yt(p b:Int)(xs ys:aG):(dw p b xs ys).length=min xs.length ys.length:=by simp[dw]
def zcX{b:Int}{ys:aG}(h:2<=p):∀x∈dw p b xs ys,0<=x/\x<p:=by
 intro x D;unfold dw at D;obtain⟨k,z⟩:=e_.1 D;rw[vu]at z;cases E:xs[k]? <;>cases F:ys[k]? <;>simp[E,F]at z
 subst z;exact yr h
def zcY{b:Int}(h:2<=p):∀x∈gz p b xs,0<=x/\x<p:=by intro x z;obtain⟨y,_,rfl⟩:=cf.1 z;exact yr h
abbrev Good(p n:Int)(r:aG):Prop:=(r:Int)=n/\∀x∈r,0<=x/\x<p
def yu{n:Int}{r:aG}(g:Good p n r)(z:k<r.length):Good p (n-1) (r.eraseIdx k):=by refine⟨?_,fun x D=>g.2 x (sh D)⟩;rw[mW z];have:=g.1;omega
def Dn{n:Int}{r:aG}(D:2<=p)(g:Good p n r):Good p (n+1) (bK r k 0):=by
 refine⟨?_,fun x z=>?_⟩
 .rw[lD];have:=g.1;omega
 .rcases oU z with h|rfl
  .exact g.2 x h
  .omega
def Sys.zja{v:Int}{rows:aE}(s:Sys p v h rows):∀r∈rows,Good p (v+h) r:=fun r z=>⟨s.len r z,s.el r z⟩
def gj{v:Int}{rows:aE}(s:Sys p v h rows){k a b c:Int}{row:aG}(D:kq p v h rows k a b c row=true):(∀r∈bE p v rows k a b c row (v+h).toNat,Good p (v+dO k h) r)/\0<=dO k h/\(bE p v rows k a b c row (v+h).toNat).length<=161:=by
 have ap:=s.n;have h0:=s.h0;have a0:=s.v0;have G:=s.zja;have J:∀i:Int,0<=i->i<=(rows:Int)-1->Good p (v+h) (rows.getD i.toNat []):=fun i R U=>G _ (gT RU)
 unfold kq at D;unfold bE dO;by_cases R:k=1
 .subst R;simp only[jf,bC,bk]at D;obtain⟨⟨E,F⟩,⟨H,I⟩,_⟩:=D;refine⟨?_,Sx,Sk⟩;simp;intro r z;rcases mem_set z with z|rfl
  .rcases mem_set z with z|rfl
   .exact G r z
   .exact J b H I
  .exact J a E F
 by_cases U:k=2
 .subst U;simp[bk,fE]at D;obtain⟨⟨E,F⟩,_⟩:=D;refine⟨?_,Sx,Sk⟩;simp;intro r z;rcases mem_set z with z|rfl
  .exact G r z
  .exact⟨by have:=(J a E F).1;simpa[gz]using this,zcY s.p2⟩
 by_cases Y:k=3
 .subst Y;simp[bk,fE]at D;obtain⟨⟨E,F⟩,⟨H,I⟩,_⟩:=D;refine⟨?_,Sx,Sk⟩;simp;intro r z;rcases mem_set z with z|rfl
  .exact G r z
  .refine⟨?_,zcX s.p2⟩;rw[yt];have O:=(J a E F).1;have Q:=(J b H I).1;simp only[bu]at O Q;omega
 by_cases Z:k=4
 .subst Z;refine⟨?_,Sx,by simp[m6];split<;>omega⟩;simp;intro r z;exact G r (sh z)
 by_cases O:k=5
 .subst O;refine⟨?_,Sx,by simp[lD];omega⟩;simp;intro r z;rcases oU z with z|rfl
  .exact G r z
  .exact⟨Sk,fun x am=>by rw[List.eq_of_mem_replicate am];have:=s.p2;omega⟩
 by_cases Q:k=6
 .subst Q;simp[bk]at D;obtain⟨⟨E,F⟩,⟨H,I⟩,_⟩:=D;refine⟨?_,Sk,by simp[m6];split<;>omega⟩;simp;intro r z;obtain⟨q,hq,rfl⟩:=cf.1 (sh z);exact Yy
 by_cases ab:k=7
 .subst ab;simp[bk,jH]at D;obtain⟨⟨E,F⟩,⟨H,I⟩,⟨a1,ao⟩,_⟩:=D;refine⟨?_,Sk,by simp[lD];omega⟩;simp;intro r z;rcases oU z with z|rfl
  .obtain⟨q,hq,rfl⟩:=cf.1 z;exact X8
  .exact⟨RU,ao⟩
 by_cases ac:k=8
 .subst ac;simp[bk]at D;obtain⟨⟨H,I⟩,_⟩:=D;refine⟨?_,Sk,Sk⟩;simp;intro q hq;exact Yy
 by_cases ad:k=9
 .subst ad;simp[bk]at D;refine⟨?_,Sk,Sk⟩;simp;intro q hq;exact X8
 simp[*]at D
def oO{v:Int}{rows:aE}(s:Sys p v h rows)(k a b c:Int)(row:aG):ja p v h rows k a b c row=(iY k a b c row&&(kq p v h rows k a b c row&&fZ p v (dO k h) (bE p v rows k a b c row (v+h).toNat))):=by
 unfold ja;congr 1
 cases z:kq p v h rows k a b c row with
 |false=>
  rw[ic];unfold kq at z;by_cases J:k=1
  .subst J;simpa using z
  by_cases O:k=2
  .subst O;simp only[show(2:Int)=1↔False by decide,ki,jf]at z ⊢;rw[<-z];congr 1;apply nw;simp[bk,fE];omega
  by_cases Q:k=3
  .subst Q;simp only[show(3:Int)=1↔False by decide,show(3:Int)=2↔False by decide,ki,jf]at z ⊢;rw[<-z,Bool.and_assoc,Bool.and_assoc];congr 3;apply nw;simp[bk,fE];omega
  by_cases R:k=4
  .subst R;simp[zb4]at z ⊢;exact z
  by_cases U:k=5
  .subst U;simp at z ⊢;intro h;rw[h]at z;cases z
  by_cases Y:k=6
  .subst Y;simp only[show(6:Int)=1↔False by decide,show(6:Int)=2↔False by decide,show(6:Int)=3↔False by decide,show(6:Int)=4↔False by decide,show(6:Int)=5↔False by decide,ki,jf]at z ⊢;cases ao:eX a 0 ((rows:Int)-1)with
   |false=>rfl
   |true=>obtain⟨D,H⟩:=bk.1 ao;rw[ao,wI D H]at z;exact z
  by_cases Z:k=7
  .subst Z;simp only[show(7:Int)=1↔False by decide,show(7:Int)=2↔False by decide,show(7:Int)=3↔False by decide,show(7:Int)=4↔False by decide,show(7:Int)=5↔False by decide,show(7:Int)=6↔False by decide,ki,jf]at z ⊢;rw[show oX p row (v+h+1)=(decide ((row:Int)=v+h+1)&&row.all (jr p)) from rfl]at z;cases a2:eX a 0 (rows:Int) <;>cases a3:eX b 0 h <;>cases a4:decide ((row:Int)=v+h+1) <;>cases a5:row.all (jr p) <;>cases a6:(row.getD (v+b).toNat 0 !=0) <;>simp_all
  by_cases ab:k=8
  .subst ab;simp[zb4,wJ]at z ⊢;exact z
  by_cases ac:k=9
  .subst ac;simp at z ⊢;intro h;rw[h]at z;cases z
  simp[*]
 |true=>
  obtain⟨ad,am,a1⟩:=gj s z;rw[qc,zeQ s am ad];clear ad am a1;have F:=s.n;have E:=s.h100;unfold kq at z;unfold bE dO;by_cases J:k=1
  .subst J;simp at z ⊢;simp[z,F,E]
  by_cases O:k=2
  .subst O;simp[bk,fE]at z;simp[F,E];exact⟨bk.2 z.1,bk.2 RU⟩
  by_cases Q:k=3
  .subst Q;simp[bk,fE]at z;simp[F,E];exact⟨⟨bk.2 z.1,bk.2 z.2.1,z.2.2.1⟩,bk.2 RU⟩
  by_cases R:k=4
  .subst R;simp at z;simp[E,zb4,z,m6];split <;>omega
  by_cases U:k=5
  .subst U;simp at z;simp[E,z,lD];omega
  by_cases Y:k=6
  .subst Y;simp only[show(6:Int)=1↔False by decide,show(6:Int)=2↔False by decide,show(6:Int)=3↔False by decide,show(6:Int)=4↔False by decide,show(6:Int)=5↔False by decide,ki,jf,bC]at z ⊢;obtain⟨D,I,c1⟩:=z;obtain⟨H,ap⟩:=bk.1 D;rw[D,I,<-wI H ap];have c2:=c1.1;have c3:=c1.2;rw[c2,c3];simp[m6];refine⟨RU,?_⟩;split <;>omega
  by_cases Z:k=7
  .subst Z;simp only[show(7:Int)=1↔False by decide,show(7:Int)=2↔False by decide,show(7:Int)=3↔False by decide,show(7:Int)=4↔False by decide,show(7:Int)=5↔False by decide,show(7:Int)=6↔False by decide,ki,jf]at z ⊢;rw[show oX p row (v+h+1)=(decide ((row:Int)=v+h+1)&&row.all (jr p)) from rfl]at z;simp only[bC]at z;obtain⟨D,I,⟨c1,d1⟩,a0⟩:=z;rw[D,I,c1,d1,a0];apply nw;simp[lD];omega
  by_cases ab:k=8
  .subst ab;simp[wJ]at z;simp[zb4,z,F];omega
  by_cases ac:k=9
  .subst ac;simp at z;simp[z,F];omega
  simp[*]at z
end Go.Proofs.YtdpgblncijojiaaGreatDoor
