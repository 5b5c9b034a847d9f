/- Parts of the walks. Conditions: as stated with each. -/
import Derived.Test.YtdpgblncijojiaaGreatDoorPk3
namespace Go.Proofs.YtdpgblncijojiaaGreatDoor
open Go.RowKit Tryz
set_option linter.all false
set_option maxHeartbeats 4000000
variable{Rg h h' p:Int}{U:aC}{c k:Nat}{xs:aH}
def C4(b p v h:Int)(A:aq)(cap:Nat)(rows:aC)(w:aa)(Z:aL w A rows)(ao:rows.length<=160)(ap:∀r∈rows,r.length<=1000)(a1:0<=v)(a2:v<=1000)(ab:0<=b)(ac:b<=1000)(ad:1<=h)(am:h<=1000)(F:∀r∈rows,v+b<r.length):ax 247 (eL (bc b) p (ae v h A rows cap)) w fun e w'=>∃u,e=.returned (.agg (dz v (h-1) u))/\aI w' w u (rows.map (fun r=>r.eraseIdx (v+b).toNat))/\aj w w':=by
 have I:=zH F;clear F;have J:=zH ap;go_enter func247,ntmps247
 go_wp2_with fail
 refine(yh b v h A cap rows _ (Z.ext (below_alloc3 w _ _ _)) ao J.o a1 a2 ab ac ad am I).mono ?_;rintro e a8 ⟨u,rfl,B,z⟩;obtain⟨T,U,E,_,_,_⟩:=aI.view B;simp only[bl]at E;subst E;obtain⟨a3,a4,H⟩:=cv w (.cells (bc b) 142) (.cells (ae v h A rows cap) 26) (.cells aQ 26);have a0:=z.size;simp only[cx]at a0;have D:=cp z H;obtain⟨O,Q,R⟩:=bU D;obtain⟨a5,a6,a7⟩:=bt D;simp only[dg,cT]at O Q R;obtain⟨HO,HE⟩:=bL (B.mono (B':=(w:Nat)+3) Rx) ((below_alloc3 w _ _ _).trans (z.mono (B':=w.heap.size) Sn));clear B z a3 a4 H D;go_wp2;refine az (v:=.agg (ae v (h-1) T rows U)) (by simp[results,results247,go_sem, *]) rfl ⟨_,rfl,?_,?_⟩
 .exact Yr
 .exact Yf
def C5(b p v h:Int)(A:aq)(cap:Nat)(rows:aC)(w:aa)(Z:aL w A rows)(ao:rows.length<=160)(ap:∀r∈rows,r.length<=1000)(a1:0<=v)(a2:v<=1000)(ab:0<=b)(ac:b<=1000)(ad:0<=h)(am:h<=1000)(F:∀r∈rows,v+b<=r.length):ax 250 (eL (bc b) p (ae v h A rows cap)) w fun e w'=>∃u,e=.returned (.agg (dz v (h+1) u))/\aI w' w u (rows.map (fun r=>bK r (v+b).toNat 0))/\aj w w':=by
 have I:=zH F;clear F;have J:=zH ap;go_enter func250,ntmps250
 go_wp2_with fail
 refine(zas b v h A cap rows _ (Z.ext (below_alloc3 w _ _ _)) ao J.o a1 a2 ab ac ad am I).mono ?_;rintro e a8 ⟨u,rfl,B,z⟩;obtain⟨T,U,E,_,_,_⟩:=aI.view B;simp only[bl]at E;subst E;obtain⟨a3,a4,H⟩:=cv w (.cells (bc b) 143) (.cells (ae v h A rows cap) 26) (.cells aQ 26);have a0:=z.size;simp only[cx]at a0;have D:=cp z H;obtain⟨O,Q,R⟩:=bU D;obtain⟨a5,a6,a7⟩:=bt D;simp only[dg,cT]at O Q R;obtain⟨HO,HE⟩:=bL (B.mono (B':=(w:Nat)+3) Rx) ((below_alloc3 w _ _ _).trans (z.mono (B':=w.heap.size) Sn));clear B z a3 a4 H D;go_wp2;refine az (v:=.agg (ae v (h+1) T rows U)) (by simp[results,results250,go_sem, *]) rfl ⟨_,rfl,?_,?_⟩
 .exact Yr
 .exact Yf
def zah(a b p v h:Int)(A:aq)(cap:Nat)(rows:aC)(w:aa)(ap:aL w A rows)(b9:rows.length<=160)(a3:∀r∈rows,r.length<=1000)(b4:0<=a)(cn:a<rows.length)(cb:0<=v)(cc:v<=1000)(hb:0<=b)(b5:b<=1000)(b7:1<=h)(b8:h<=1000)(a2:∀r∈rows,v+b<r.length):ax 231 (eL (bI a b) p (ae v h A rows cap)) w fun e w'=>∃u,e=.returned (.agg (dz v (h-1) u))/\aI w' w u ((rows.map (fun r=>r.eraseIdx (v+b).toNat)).eraseIdx a.toNat)/\aj w w':=by
 have bi:=zH a2;clear a2;have bm:=zH a3;go_enter func231,ntmps231
 go_wp2_with fail
 refine(yh b v h A cap rows _ (ap.ext (below_alloc3 w _ _ _)) b9 bm cb cc hb b5 b7 b8 bi).mono ?_;rintro e D ⟨u,rfl,a4,R⟩;obtain⟨z,J⟩:=aK (rows.map (fun r=>r.eraseIdx (v+b).toNat));rw[<-J]at a4;obtain⟨Gc,bo⟩:=bL (by rw[J];simp:z.length=rows) J;clear J;obtain⟨us,hu⟩:=a4;obtain⟨F,B,rfl,_,_,_⟩:=aI.view ⟨us,hu⟩;obtain⟨a9,ce,ba⟩:=cv w (.cells (bI a b) 138) (.cells (ae v h A rows cap) 26) (.cells aQ 26);have ca:=R.size;simp only[cx]at ca;go_upto_region 2 with(fail)
 obtain⟨E,Er⟩:=aK (D.alloc (.cells (ae v (h-1) F z B) 26));rw[<-Er];have T:aj D E:=VH;have cu:(E:Nat)=D+1:=So;have I:=bQ R T;have ad:aW E D (ae v (h-1) F z B) 26:=Um;have a7:=cp I a9;have a8:=cp I ba;have ab:a_ E ((w:Nat)+3) (.slice F z B) z us:=(hu.ext T).mono Rx;have a6:∀g',F=some ⟨g',0,none⟩->g' < (D:Nat):=fun g' e=>Vy
 have a1:aj w E:=(below_alloc3 w _ _ _).trans (I.mono Sn);clear hu R T I a3 a9 ce ba Er;obtain⟨g,b6,co,cr⟩:∃g,F=some ⟨g,0,none⟩/\(w:Nat)+3<=g/\g < (E:Nat):=kH ab TC;subst b6;have ct:=a6 g rfl;have bb:=aV a7 0;have bd:=aV ad 2;simp only[dg,cT]at bb bd;obtain⟨Q,be,bp,br⟩:=fS ab a1 a8 ad;clear ab a1 a6 a7 a8 ad ap;go_upto_region 3 with(go_at_call 220;refine(rE ((w:Nat)+3) g z B a us _ Q.o.outer (oO Q.o) b4 TC TC).mono ?_;rintro e wr ⟨rfl,a5,U⟩;have H:=(U.block D Ry RX).trans br;have O:=zH U;have HO:=zH a5;have f2:=aS H 2;have c2:=aV H 2;simp only[dg,cT]at c2;have ao:=zH H;clear H U a5)
 have am:=bw wr D 2 _ _ (.slice (aX g) (z.length-1) B) ao;simp only[zA]at am;have ac:=(dh wr ⟨D,2,none⟩ ((w:Nat)+1+1) (.slice (aX g) (z.length-1) B) Sn).trans ((O.block _ Ry RX).trans bp);have a0:=Q.o.erase TC HO O;have Z:=a0.jk ao (j:=2) (u:=.slice (aX g) (z.length-1) B);rw[show z.eraseIdx a.toNat=(rows.map (fun r=>r.eraseIdx (v+b).toNat)).eraseIdx a.toNat by rw[bo.o]]at Z;obtain⟨HO,HE⟩:=bL (show aI _ ((w:Nat)+3) _ _ from⟨_,Z⟩) ((be.grown O Ry fun b hb=>Sz).setCell (p:=⟨D,2,none⟩) Sn (.slice (aX g) (z.length-1) B));clear a0 Z c2 f2 bb bd;obtain⟨bv,bz,b0⟩:=bU am;obtain⟨b1,b2,b3⟩:=bU ac;obtain⟨ch,ci,cj⟩:=bt ac;simp only[dg,cT]at bv bz b0 b1 b2 b3;clear am ac;go_wp2;refine az (v:=.agg (dp v (h-1) (aX g) (z.length-1) B)) (by simp[results,results231,go_sem, *]) rfl ⟨_,rfl,?_,?_⟩
 .exact Yr
 .exact Yf
def DV(a b p v h:Int)(A A2:aq)(cap Q:Nat)(xs:aH)(rows:aC)(w:aa)(bm:aL w A rows)(cR:rows.length<=160)(bz:∀r∈rows,r.length<=1000)(bp:aU w A2 xs)(d2:xs.length<=1000)(cz:0<=a)(dl:a<=rows.length)(c4:0<=v)(c5:v<=1000)(D:0<=b)(cI:b<=1000)(cK:0<=h)(cO:h<=1000)(bv:∀r∈rows,v+b<=r.length):ax 238 (eL (ae a b A2 xs Q) p (ae v h A rows cap)) w fun e w'=>∃u,e=.returned (.agg (dz v (h+1) u))/\aI w' w u (bK (rows.map (fun r=>bK r (v+b).toNat 0)) a.toNat xs)/\aj w w':=by
 obtain⟨b8,cc⟩:=bL bv bp;clear bv bp;have b9:=zH bz;go_enter func238,ntmps238
 go_wp2_with fail
 refine(zas b v h A cap rows _ (bm.ext (below_alloc3 w _ _ _)) cR b9 c4 c5 D cI cK cO b8).mono ?_;rintro e B ⟨u,rfl,b0,a3⟩;obtain⟨z,am⟩:=aK (rows.map (fun r=>bK r (v+b).toNat 0));rw[<-am]at b0;obtain⟨Gc,ca⟩:=bL (by rw[am];simp:z.length=rows) am;clear am;obtain⟨us,hu⟩:=b0;obtain⟨F,H,rfl,_,_,_⟩:=aI.view ⟨us,hu⟩;obtain⟨b6,c7,b7⟩:=cv w (.cells (ae a b A2 xs Q) 140) (.cells (ae v h A rows cap) 26) (.cells aQ 26);have c0:=a3.size;simp only[cx]at c0;go_upto_region 2 with(fail)
 obtain⟨E,Er⟩:=aK (B.alloc (.cells (ae v (h+1) F z H) 26));rw[<-Er];have a4:aj B E:=VH;have d0:(E:Nat)=B+1:=So;have ab:=bQ a3 a4;have a8:aW E B (ae v (h+1) F z H) 26:=Um;have a6:=cp ab b6;have b5:=cp ab b7;have b2:a_ E ((w:Nat)+3) (.slice F z H) z us:=(hu.ext a4).mono Rx;have b3:∀g',F=some ⟨g',0,none⟩->g' < (B:Nat):=fun g' e=>Vy
 have br:aj w E:=(below_alloc3 w _ _ _).trans (ab.mono Sn);clear hu a3 a4 ab bz b6 c7 b7 Er;have cF:a<=z.length:=TC;have dT:z.length<=160:=TC;have ao:=aV a6 0;have bb:=aV a6 2;have ap:=aV a8 2;simp only[dg,cT]at ao bb ap;obtain⟨U,bd,ch,ci,cb⟩:=l_ b2 br b5 a8 b3;clear b2 br b3 a6 b5 a8 bm;refine bk (S:=fun w'=>af w' w 0 (zI a)/\af w' w 2 (.slice A2 xs Q)/\af w' B 2 (.slice F z H)) 10 RU ⟨ao,bb,ap⟩ (fun hHeld=>?_);refine ay 0 ?_;refine ay 1 ?_;refine ay 2 ?_;refine ay 3 ?_;refine ay 4 ?_;refine ay 5 ?_;have bi:∀ba,aj E ba->(fun w':World=>af w' w 0 (zI a)/\af w' w 2 (.slice A2 xs Q)/\af w' B 2 (.slice F z H)) ba:=fun ba D=>
  ⟨ag D ao,ag D bb,ag D ap⟩
 refine bu 6 fun K hK=>?_
 go_simp;refine(xN A2 Q xs _ ((cc.ext bd).ext (ai _ _).drew) Ry).mono ?_;rintro e T ⟨d3,rfl,a5,I⟩;have I:aj E T:=(ai _ _).drew.trans I;obtain⟨a0,a1,b4,_⟩:=a5.view;try simp only[iU]at b4
 subst b4;dsimp only;refine hK.out _ _ (fun _=>bi T I) (fun hHeld=>?_);clear hK K;try simp only[Act.put,zA]
 have hHeld:=hHeld RC;have ce:=zH a5;clear a5;refine bu 7 fun K hK=>?_
 go_simp;have J:Below E E (T.alloc (.cells (bJ a0 xs a1) 27)):=I.alloc I.size _;refine hK.out _ _ (fun _=>bi _ J) (fun hHeld=>?_);clear hK K;try simp only[Act.put,zA]
 have hHeld:=hHeld RC;refine bu 8 fun K hK=>?_
 go_simp;have d1:=I.size;have a2:=U.o.ext J;have EH:∀b,(Value.slice F z H).ownBlock=some b->(w:Nat)+3<=b/\b < (B:Nat):=fun b D=>⟨(b_ U.o.outer b D).1,by
  rcases U.o.outer.2 with⟨h1,_⟩|⟨g',c8,c9,h1,_⟩
  .rw[h1]at D;cases D
  .rw[h1]at D;cases D;exact cb g' UI⟩
 refine(rA ((w:Nat)+3) z T a (.slice F z H) us (.slice a0 xs a1) _ a2.outer (oO a2) rfl (aD _ _ rfl) (fun e=>by have:=EH _ e;omega) cz cF Ry Sn).mono ?_;rintro e wr ⟨g,R,rfl,b1,O,_⟩;dsimp only;have ac:∀p:dw,p.block=(w:Nat)∨p.block=(w:Nat)+1∨p.block=(B:Nat)->∀x,(T.alloc (.cells (bJ a0 xs a1) 27)).cell? p=some x->wr.cell? p=some x:=fun p ad x c6=>O.cell c6 (fun e=>by have:=EH _ e.symm;rcases ad with ad|ad|ad <;>omega)
 refine hK.out _ _ (fun _=>⟨ac _ (aG rfl) _ hHeld.1,ac _ (aG rfl) _ hHeld.2.1,ac _ (aB (aB rfl)) _ hHeld.2.2⟩) (fun hHeld=>?_);clear hK K;try simp only[Act.put,zA]
 have hHeld:=hHeld RC;refine bu 9 fun K hK=>?_
 go_simp;refine hK.out _ _ (fun _=>hHeld) (fun hHeld=>?_);clear hK K;try simp only[Act.put,zA]
 have Z:wr.heap[B.heap.size]?=_:=(O.block B Sn (fun e=>Up)).trans ((J.block B Ry).trans ci);have be:=zH Z;have f2:=aS Z 2;have c2:=aV Z 2;simp only[dg,cT]at c2;clear Z ac hHeld;refine bu 10 fun K hK=>?_
 go_simp;refine hK.out _ _ (fun h=>absurd h RC) (fun _=>?_);clear hK K;try simp only[Act.put,zA]
 refine dS RU ?_ _;have a9:=bw wr B 2 _ _ (.slice (aX g) (z.length+1) R) be;simp only[zA]at a9;have a7:=(dh wr ⟨B,2,none⟩ ((w:Nat)+1+1) (.slice (aX g) (z.length+1) R) Sn).trans ((O.block _ Sn (fun e=>Up)).trans ((J.block _ Ry).trans ch));have bo:=U.o.insert J (ce.ext ((ai _ _).alloc (ah _) _)) Ry Ry b1 O;obtain⟨HO,HE⟩:=bL (show aI _ ((w:Nat)+3) _ _ from⟨_,bo.jk be (j:=2) (u:=.slice (aX g) (z.length+1) R)⟩) ((qC (bd.trans (J.mono Ry)) O Sn fun b D=>by have:=EH b D;omega).setCell (p:=⟨B,2,none⟩) Sn (.slice (aX g) (z.length+1) R));clear bo c2 f2 ao ap O b1 I J a2 EH;rw[show z.take a.toNat++xs::z.drop a.toNat=bK (rows.map (fun r=>bK r (v+b).toNat 0)) a.toNat xs by rw[ca.o];rfl]at HO;obtain⟨cj,cn,co⟩:=bU a9;obtain⟨cr,ct,cu⟩:=bU a7;obtain⟨da,db,dc⟩:=bt a7;simp only[dg,cT]at cj cn co cr ct cu;clear a9 a7;go_wp2;refine az (v:=.agg (dp v (h+1) (aX g) (z.length+1) R)) (by simp[results,results238,go_sem, *]) rfl ⟨_,rfl,?_,?_⟩
 .exact Yr
 .exact Yf
def zdX(a b c p v h:Int)(n:Nat)(A:aq)(cap:Nat)(rows:aC)(w:aa)(ba:aL w A rows)(d4:rows.length<=160)(Ew:∀r∈rows,r.length<=1000)(cF:1<=p)(cI:p<=1000)(c8:0<=a)(c9:a<rows.length)(hb:0<=b)(db:b<rows.length)(da:a≠b)(dc:0<=c)(dl:c<=1000)(hx:∀r∈rows,∀x∈r,0<=x/\x<=1000)(d5:1<=n)(a2:∀r∈rows,r.length=n):ax 214 (eL (fe a b c) p (ae v h A rows cap)) w fun e w'=>∃u,e=.returned (.agg (dz v h u))/\aI w' w u (rows.set b.toNat (cV p c (rows.getD b.toNat []) (rows.getD a.toNat [])))/\aj w w':=by
 obtain⟨D,EW⟩:=aw (Ry:a.toNat<rows.length);obtain⟨F,Fm⟩:=aw (Ry:b.toNat<rows.length);obtain⟨b5,b7,cc,ce,T,U⟩:=lq (TI:rows.getD a.toNat []=D) (TH:rows.getD b.toNat []=F) (show ∀x∈D,0<=x/\x<=1000 from hx D (aR EW)) (show ∀x∈F,0<=x/\x<=1000 from hx F (aR Fm)) (a2 D (aR EW)) (a2 F (aR Fm));have d7:D.length<=1000:=Ew D (aR EW);clear hx a2;obtain⟨b8,b9⟩:=bL (Ry:rows.length<=1048576) (show ∀r∈rows,r.length<=1048576 from fun r hr=>TZ);go_enter func214,ntmps214
 go_wp2_with fail
 refine(lL _ _ _ _ _ _ (ba.ext (((ai _ _).alloc Rx _ |>.alloc Rx _).alloc Sn _)) b8 b9).mono ?_;rintro e H ⟨u,rfl,⟨us,hu⟩,a0⟩;obtain⟨J,Q,rfl,_,_,_⟩:=aI.view ⟨us,hu⟩;obtain⟨br,cR,bv⟩:=cv w (.cells (fe a b c) 134) (.cells (ae v h A rows cap) 26) (.cells aQ 26);have cK:=a0.size;simp only[cx]at cK;go_upto_region 2 with(fail)
 obtain⟨E,Er⟩:=aK (H.alloc (.cells (ae v h J rows Q) 26));rw[<-Er];have a1:aj H E:=VH;have d8:(E:Nat)=H+1:=So;have Z:=bQ a0 a1;have a5:aW E H (ae v h J rows Q) 26:=Um;have bm:=cp Z br;have bo:=cp Z bv;have E9:a_ E ((w:Nat)+3) (.slice J rows Q) rows us:=(hu.ext a1).mono Rx;have cO:∀g',J=some ⟨g',0,none⟩->g' < (H:Nat):=fun g' e=>Vy
 have I:∀(k:Nat) (x:av),us[k]?=some x->∀b,x.ownBlock=some b->b < (H:Nat):=fun k x hx b hb=>Wi
 have bd:aj w E:=(below_alloc3 w _ _ _).trans (Z.mono Sn);clear hu a0 a1 Z ba Ew br cR bv Er;obtain⟨d9,E_,a3⟩:=E9.get EW;obtain⟨ea,Gl,R⟩:=E9.get Fm;obtain⟨g,cz,dT,d3⟩:∃g,J=some ⟨g,0,none⟩/\(w:Nat)+3<=g/\g < (E:Nat):=kH E9 Ry;subst cz;obtain⟨c0,ao,rfl,a9,_⟩:=a3.view;obtain⟨c4,ap,rfl,_,_⟩:=R.view;obtain⟨O,rfl,d0,_⟩:=kU a3 (by have:=T.o;omega);obtain⟨B,rfl,d1,_⟩:=kU R (by have:=U.o;omega);have d2:=I _ _ Gl B rfl;have d6:O≠B:=fun e=>by have:=E9.apart _ _ _ _ O E_ Gl rfl (by rw[e];rfl);omega
 have be:g≠B:=by
  rcases fv E9.outer R with h1|h1
  .cases h1
  .exact WI
 obtain⟨ab,ac,ad⟩:=bU bm;have am:=aV a5 2;simp only[dg,cT]at ab ac ad am;have a6:af E g a.toNat (.slice (aX O) D ao):=VD;have a7:af E g b.toNat (.slice (aX B) F ap):=VJ;obtain⟨ca,b6,cb,ch,ci,a8⟩:=lq E9 bd Gl bo a5 (vw p c ((w:Nat)+3) B ap ao (some ⟨O,0,none⟩) F D E.drew cF cI Ry Ry (wJ R) (a9.ext (ai _ _).drew) (fun b o e=>by simp only[dt,pg]at e;omega) (by rw[T.o,U.o]) (by have:=U.o;have:=T.o;omega) ce cc);clear E9 bd E_ Gl a3 R EW Fm a9 cO I bm bo a5;go_region_held3 (fun w'=>af w' w 0 (zI a)/\af w' w 1 (zI b)/\af w' w 2 (zI c)/\af w' H 2 (.slice (aX g) rows Q)/\af w' g a.toNat (.slice (aX O) D ao)/\af w' g b.toNat (.slice (aX B) F ap))
  (first|exact bb|exact⟨ab,ac,ad,am,a6,a7⟩)
  ((go_at_call 147;refine a8.mono ?_;rintro e wr ⟨rfl,bi,z⟩;have bz:=oP z (a:=⟨w,0,none⟩) ab (Ry:w.heap.size≠B);have b0:=oP z (a:=⟨w,1,none⟩) ac (Ry:w.heap.size≠B);have b1:=oP z (a:=⟨w,2,none⟩) ad (Ry:w.heap.size≠B);have b2:=oP z (a:=⟨H,2,none⟩) am (Ry:H.heap.size≠B);have b3:=oP z (a:=⟨g,a.toNat,none⟩) a6 be;have b4:=oP z (a:=⟨g,b.toNat,none⟩) a7 be;have bb:=aY bz (aY b0 (aY b1 (aY b2 (aY b3 b4))))))
 have z:=bq (dG E (some B)) z;have bp:=(z.block H Ry RX).trans ci;have a4:=(z.block ((w:Nat)+1+1) Ry RX).trans ch;have I:=ca.inner (r':=cV p c F D) cb z (by
  unfold au;rw[show(cV p c F D).length=F by simp[cV,T.o,U.o]];exact bi)
 rw[<-b5.o,<-b7.o]at I;obtain⟨HO,HE⟩:=bL (show aI wr ((w:Nat)+3) _ _ from⟨_,I⟩) (b6.grown z Ry fun b hb=>Sz);clear bi z I bz b0 b1 b2 b3 b4 bb ab ac ad am a6 a7 a8;obtain⟨cj,cn,co⟩:=bU bp;obtain⟨cr,ct,cu⟩:=bU a4;obtain⟨c5,c6,c7⟩:=bt a4;simp only[dg,cT]at cj cn co cr ct cu;clear bp a4;go_wp2;refine az (v:=.agg (ae v h (aX g) rows Q)) Vr rfl ⟨_,rfl,?_,?_⟩
 .exact Yr
 .exact Yf
def eH(k:Int):Bool:=!(k==8||k==9)
def eI(k:Int):Bool:=k==1||k==6||k==3||k==7||k==8||k==9
def eJ(k:Int):Bool:=k==2||k==3
def eK(k:Int):Bool:=k==7
def bY(k:Int)(w:aa):ax 108 (bc k) w fun e w'=>e=.returned (.agg #[.bool (eH k),.bool (eI k),.bool (eJ k),.bool (eK k)])/\aj w w':=by
 by_cases z:k=1
 .subst z;go_enter po,pq;go_wp2;exact az (v:=.agg #[.bool true,.bool true,.bool false,.bool false]) Uf rfl ⟨rfl,(ai _ _).alloc (ah _) _⟩
 by_cases E:k=6
 .subst E;go_enter po,pq;go_wp2;exact az (v:=.agg #[.bool true,.bool true,.bool false,.bool false]) Uf rfl ⟨rfl,(ai _ _).alloc (ah _) _⟩
 by_cases B:k=2
 .subst B;go_enter po,pq;go_wp2;exact az (v:=.agg #[.bool true,.bool false,.bool true,.bool false]) Uf rfl ⟨rfl,(ai _ _).alloc (ah _) _⟩
 by_cases D:k=3
 .subst D;go_enter po,pq;go_wp2;exact az (v:=.agg #[.bool true,.bool true,.bool true,.bool false]) Uf rfl ⟨rfl,(ai _ _).alloc (ah _) _⟩
 by_cases F:k=7
 .subst F;go_enter po,pq;go_wp2;exact az (v:=.agg #[.bool true,.bool true,.bool false,.bool true]) Uf rfl ⟨rfl,(ai _ _).alloc (ah _) _⟩
 by_cases H:k=8
 .subst H;go_enter po,pq;go_wp2;exact az (v:=.agg #[.bool false,.bool true,.bool false,.bool false]) Uf rfl ⟨rfl,(ai _ _).alloc (ah _) _⟩
 by_cases I:k=9
 .subst I;go_enter po,pq;go_wp2;exact az (v:=.agg #[.bool false,.bool true,.bool false,.bool false]) Uf rfl ⟨rfl,(ai _ _).alloc (ah _) _⟩
 go_enter po,pq
 go_wp2;exact az (v:=.agg #[.bool true,.bool false,.bool false,.bool false]) Uf rfl ⟨by simp[eH,eI,eJ,eK, *],(ai _ _).alloc (ah _) _⟩
def cS(p v h:Int)(A:aq)(cap:Nat)(rows:aC)(w:aa)(ao:cU w)(ap:aL w A rows)(H:rows.length<=maxLen)(I:∀r∈rows,r.length<=maxLen):ax 68 (iH p (ae v h A rows cap)) w fun e w'=>(gg p v h rows=true->e=.returned (.tuple (eh (ae v h A rows cap))))/\(gg p v h rows=false->e=.returned (.tuple (dP aQ)))/\aj w w':=by
 obtain⟨T,R⟩:=bL I H;clear I H;go_enter func68,ntmps68
 go_wp2_with fail
 have z:Below w w ((w.alloc (.cells (ae v h A rows cap) 26)).alloc (.cells aQ 26)):=((ai w w).alloc Rx _).alloc Rx _;refine(jg p v h A cap rows _ (ao.ext z) (ap.ext z) R.o T).mono ?_;rintro e a3 ⟨rfl,B⟩;have O:((w.alloc (.cells (ae v h A rows cap) 26)).alloc (.cells aQ 26)).heap[w.heap.size]?=some (.cells (ae v h A rows cap) 26 (0,0)):=(bZ _ _ Rx).trans (aD _ _ rfl);have Q:((w.alloc (.cells (ae v h A rows cap) 26)).alloc (.cells aQ 26)).heap[(w:Nat)+1]?=some (.cells aQ 26 (0,0)):=aD _ _ Rx;have J:=cp B O;have F:=cp B Q;obtain⟨U,Z,ab⟩:=bU J;obtain⟨ac,ad,am⟩:=bU F;obtain⟨a0,a1,a2⟩:=bt F;simp only[dg,cT]at U Z ab ac ad am;have HE:=zH (z.trans (B.mono (B':=w.heap.size) Sn));clear z B O Q J F;cases D:gg p v h rows
 .have E:=zH D;clear D;go_wp2;refine az (v:=.tuple (dP aQ)) Va rfl ⟨fun h=>(by rw[E.o]at h;cases h),fun _=>rfl,?_⟩;exact Yf
 .have E:=zH D;clear D;go_wp2;refine az (v:=.tuple (eh (ae v h A rows cap))) Va rfl ⟨fun _=>rfl,fun h=>(by rw[E.o]at h;cases h),?_⟩;exact Yf
structure Sys(p v h:Int)(rows:aC):Prop where
 f:cP p=true
 p2:2<=p
 p97:p<=97
 v0:0<=v
 v24:v<=24
 h0:0<=h
 h100:h<=100
 n:rows.length<=160
 len:∀r∈rows,(r.length:Int)=v+h
 el:∀r∈rows,∀x∈r,0<=x/\x<p
def bh{n lo hi:Int}:eW n lo hi=true↔lo<=n/\n<=hi:=by simp[eW]
def fC{a:Int}:jD p a=true↔0<=a/\a<p:=by simp[jD]
def jQ{n:Int}:pE p xs n=true↔(xs:Int)=n/\∀x∈xs,0<=x/\x<p:=by simp[pE,jD]
def zdA{n:Int}{rows:aC}:tI p rows n=true↔∀r∈rows,(r.length:Int)=n/\∀x∈r,0<=x/\x<p:=by simp[tI,jQ]
def et(h:cP p=true):2<=p/\p<=97:=by unfold cP at h;rw[bn]at h;exact bh.1 h.1
def il{v:Int}{rows:aC}:gg p v h rows=true↔Sys p v h rows:=by
 unfold gg;simp only[bn,bh,zdA,cw];constructor
 .rintro⟨a,⟨B,D⟩,⟨c1,c2⟩,d,e⟩;exact⟨a,(et a).1,(et a).2,B,D,c1,c2,d,fun r z=>(e r z).1,fun r z=>(e r z).2⟩
 .intro s;exact⟨s.f,⟨s.v0,s.v24⟩,⟨s.h0,s.h100⟩,s.n,fun r z=>⟨s.len r z,s.el r z⟩⟩
def nX{a b:Bool}(h:a=true↔b=true):a=b:=by cases a<;>cases b<;>simp_all
def jb(k a b c:Int)(n:Nat):Bool:=
 ((k !=8&&k !=9)||a==0)&&(((k !=2&&(k !=4&&k !=5))||b==0)&&((k==2||(k==3||c==0))&&(k==7||n==0)))
def jO(p v h:Int)(rows:aC)(k a b c:Int)(row:aH):Bool:=
 jb k a b c row&&
 (if k=1 then eW a 0 ((rows:Int)-1)&&(eW b 0 ((rows:Int)-1)&&(a !=b))
 else if k=2 then eW a 0 ((rows:Int)-1)&&eW c 1 (p-1)
 else if k=3 then(eW a 0 ((rows:Int)-1)&&(eW b 0 ((rows:Int)-1)&&(a !=b)))&&eW c 0 (p-1)
 else if k=4 then eW a 0 ((rows:Int)-1)&&(rows.getD a.toNat []).all (fun x=>eW x 0 0)
 else if k=5 then eW a 0 (rows:Int)&&decide (rows.length<160)
 else if k=6 then eW a 0 ((rows:Int)-1)&&(eW b 0 (h-1)&&oc (fD rows (v+b).toNat) a)
 else if k=7 then eW a 0 (rows:Int)&&(eW b 0 h&&(decide (rows.length<160)&&(decide (h<100)&&(decide ((row:Int)=v+h+1)&&(row.all (jD p)&&(row.getD (v+b).toNat 0 !=0))))))
 else if k=8 then eW b 0 (h-1)&&(fD rows (v+b).toNat).all (fun x=>eW x 0 0)
 else if k=9 then eW b 0 h&&decide (h<100)
 else false)
def kF(p v h:Int)(rows:aC)(k a b c:Int)(row:aH):Bool:=
 if k=1 then eW a 0 ((rows:Int)-1)&&(eW b 0 ((rows:Int)-1)&&(a !=b))
 else if k=2 then eW a 0 ((rows:Int)-1)&&(jD p c&&(c !=0))
 else if k=3 then eW a 0 ((rows:Int)-1)&&(eW b 0 ((rows:Int)-1)&&((a !=b)&&jD p c))
 else if k=4 then eW a 0 ((rows:Int)-1)&&x_ (rows.getD a.toNat [])
 else if k=5 then eW a 0 (rows:Int)
 else if k=6 then eW a 0 ((rows:Int)-1)&&(eW b 0 (h-1)&&(((rows.getD a.toNat []).getD (v+b).toNat 0 !=0)&&pF rows (v+b).toNat a))
 else if k=7 then eW a 0 (rows:Int)&&(eW b 0 h&&(pE p row (v+h+1)&&(row.getD (v+b).toNat 0 !=0)))
 else if k=8 then eW b 0 (h-1)&&pF rows (v+b).toNat (-1)
 else if k=9 then eW b 0 h
 else false
def dK(k h:Int):Int:=if k=6∨k=8 then h-1 else if k=7∨k=9 then h+1 else h
def bH(p v:Int)(rows:aC)(k a b c:Int)(row:aH)(n:Nat):List (List Int):=
 if k=1 then(rows.set a.toNat (rows.getD b.toNat [])).set b.toNat (rows.getD a.toNat [])
 else if k=2 then rows.set a.toNat (fU p c (rows.getD a.toNat []))
 else if k=3 then rows.set b.toNat (cV p c (rows.getD b.toNat []) (rows.getD a.toNat []))
 else if k=4 then rows.eraseIdx a.toNat
 else if k=5 then bK rows a.toNat (List.replicate n 0)
 else if k=6 then(rows.map (fun r=>r.eraseIdx (v+b).toNat)).eraseIdx a.toNat
 else if k=7 then bK (rows.map (fun r=>bK r (v+b).toNat 0)) a.toNat row
 else if k=8 then rows.map (fun r=>r.eraseIdx (v+b).toNat)
 else if k=9 then rows.map (fun r=>bK r (v+b).toNat 0)
 else rows
def zi0(x:Int):eW x 0 0=decide (x=0):=by apply nX;rw[bh,cw];omega
def zcF(xs:aH):xs.all (fun x=>eW x 0 0)=x_ xs:=by simp only[zi0];rfl
def si{a:Int}:oc xs a=true↔∀(k:Nat) (x:Int),xs[k]?=some x->((k:Int)=a↔x≠0):=by
 unfold oc;simp only[eD,qF];constructor
 .intro D k x z;have:=D (x,k) (by rw[eN];exact⟨k,by simp[z]⟩);exact decide_eq_decide.1 this
 .intro D y E;obtain⟨k,B⟩:=eN.1 E;rw[DE]at B;cases z:xs[k]? with
  |none=>simp[z]at B
  |some x=>simp[z]at B;subst B;exact decide_eq_decide.2 (D k x z)
def D6{rows:aC}:pF rows c Rg=true↔∀(k:Nat) (r:aH),rows[k]?=some r->(k:Int)=Rg∨r.getD c 0=0:=by
 unfold pF;simp only[eD,mg,cw];constructor
 .intro B k r E;exact B (r,k) (by rw[eN];exact⟨k,by simp[E]⟩)
 .intro B y F;obtain⟨k,z⟩:=eN.1 F;rw[DE]at z;cases D:rows[k]? with
  |none=>simp[D]at z
  |some x=>simp[D]at z;subst z;exact B k x D
def oH{rows:aC}{x:Int}:(fD rows c)[k]?=some x↔∃r,rows[k]?=some r/\r.getD c 0=x:=by unfold fD;rw[bR];cases rows[k]? <;>simp
def xT{rows:aC}{a:Int}(T:0<=a)(U:a<=(rows:Int)-1):(((rows.getD a.toNat []).getD c 0 !=0)&&pF rows c a)=oc (fD rows c) a:=by
 apply nX;rw[bn,D6,si];have J:a.toNat<rows.length:=Ry;have B:rows[a.toNat]?=some rows[a.toNat]:=dq J;have H:rows.getD a.toNat []=rows[a.toNat]:=by simp[List.getD,B]
 rw[H];constructor
 .rintro⟨O,I⟩ k x Q;obtain⟨r,z,rfl⟩:=oH.1 Q;constructor
  .intro D;have:k=a.toNat:=Ry;subst this;rw[B]at z;cases z
   simpa using O
  .intro R;rcases I k r z with h|h
   .exact h
   .exact absurd h R
 .intro E;constructor
  .have:=(E a.toNat _ (oH.2 ⟨_,B,rfl⟩)).1 Ry;simpa using this
  .intro k r z;have:=E k _ (oH.2 ⟨r,z,rfl⟩);by_cases D:(k:Int)=a
   .exact aG D
   .right;by_cases F:r.getD c 0=0
    .exact F
    .exact absurd (this.2 F) D
def xU(rows:aC)(c:Nat):pF rows c (-1)=x_ (fD rows c):=by
 apply nX;rw[D6];unfold x_;simp only[eD,cw];constructor
 .intro z x E;obtain⟨k,D⟩:=eN.1 E;obtain⟨r,B,rfl⟩:=oH.1 D;rcases z k r B with h|h
  .omega
  .exact h
 .intro z k r B;exact aB (z _ (eN.2 ⟨k,oH.2 ⟨r,B,rfl⟩⟩))
def gT{rows:aC}(h:k<rows.length):rows.getD k []∈rows:=by rw[bg,dq h];exact oX h
def mem_set{z:Type}{l:List z}{x y:z}(h:y∈l.set k x):y∈l∨y=x:=wI h
def pA{z:Type}{l:List z}{x y:z}(h:y∈bK l k x):y∈l∨y=x:=by
 unfold bK at h;rcases eO.1 h with h|h
 .exact aG (qG h)
 .rcases jq.1 h with h|h
  .exact aB h
  .exact aG (ky h)
def lW{z:Type}(l:List z)(k:Nat)(x:z):(bK l k x).length=l+1:=by unfold bK;simp;omega
def zfm{v:Int}{rows:aC}(s:Sys p v h rows)(a:0<=h')(B:∀r∈U,(r.length:Int)=v+h'/\∀x∈r,0<=x/\x<p):gg p v h' U=(decide (h'<=100)&&decide (U.length<=160)):=by apply nX;rw[il,bn,cw,cw];exact⟨fun t=>⟨t.h100,t.n⟩,fun t=>⟨s.f,s.p2,s.p97,s.v0,s.v24,a,t.1,t.2,fun r z=>(B r z).1,fun r z=>(B r z).2⟩⟩
def zE{x:Int}(h:2<=p):0<=x%p/\x%p<p:=⟨gI _ Ry,gJ _ Ry⟩
def zF(p b:Int)(xs ys:aH):(cV p b xs ys).length=min xs.length ys.length:=by simp[cV]
def zdB{b:Int}{ys:aH}(h:2<=p):∀x∈cV p b xs ys,0<=x/\x<p:=by
 intro x B;unfold cV at B;obtain⟨k,z⟩:=eN.1 B;rw[wC]at z;cases D:xs[k]? <;>cases E:ys[k]? <;>simp[D,E]at z
 subst z;exact zE h
def zdC{b:Int}(h:2<=p):∀x∈fU p b xs,0<=x/\x<p:=by intro x z;obtain⟨y,_,rfl⟩:=cd.1 z;exact zE h
abbrev Good(p n:Int)(r:aH):Prop:=(r:Int)=n/\∀x∈r,0<=x/\x<p
def zG{n:Int}{r:aH}(g:Good p n r)(z:k<r.length):Good p (n-1) (r.eraseIdx k):=by refine⟨?_,fun x B=>g.2 x (te B)⟩;rw[mj z];have:=g.1;omega
def D7{n:Int}{r:aH}(B:2<=p)(g:Good p n r):Good p (n+1) (bK r k 0):=by
 refine⟨?_,fun x z=>?_⟩
 .rw[lW];have:=g.1;omega
 .rcases pA z with h|rfl
  .exact g.2 x h
  .omega
def Sys.zjw{v:Int}{rows:aC}(s:Sys p v h rows):∀r∈rows,Good p (v+h) r:=fun r z=>⟨s.len r z,s.el r z⟩
def gu{v:Int}{rows:aC}(s:Sys p v h rows){k a b c:Int}{row:aH}(B:kF p v h rows k a b c row=true):(∀r∈bH p v rows k a b c row (v+h).toNat,Good p (v+dK k h) r)/\0<=dK k h/\(bH p v rows k a b c row (v+h).toNat).length<=161:=by
 have ao:=s.n;have h0:=s.h0;have ap:=s.v0;have G:=s.zjw;have I:∀i:Int,0<=i->i<=(rows:Int)-1->Good p (v+h) (rows.getD i.toNat []):=fun i Q R=>G _ (gT Ry)
 unfold kF at B;unfold bH dK;by_cases Q:k=1
 .subst Q;simp only[jo,bn,bh]at B;obtain⟨⟨D,E⟩,⟨F,H⟩,_⟩:=B;refine⟨?_,Se,RX⟩;simp;intro r z;rcases mem_set z with z|rfl
  .rcases mem_set z with z|rfl
   .exact G r z
   .exact I b F H
  .exact I a D E
 by_cases R:k=2
 .subst R;simp[bh,fC]at B;obtain⟨⟨D,E⟩,_⟩:=B;refine⟨?_,Se,RX⟩;simp;intro r z;rcases mem_set z with z|rfl
  .exact G r z
  .exact⟨by have:=(I a D E).1;simpa[fU]using this,zdC s.p2⟩
 by_cases T:k=3
 .subst T;simp[bh,fC]at B;obtain⟨⟨D,E⟩,⟨F,H⟩,_⟩:=B;refine⟨?_,Se,RX⟩;simp;intro r z;rcases mem_set z with z|rfl
  .exact G r z
  .refine⟨?_,zdB s.p2⟩;rw[zF];have J:=(I a D E).1;have O:=(I b F H).1;simp only[bg]at J O;omega
 by_cases U:k=4
 .subst U;refine⟨?_,Se,by simp[np];split<;>omega⟩;simp;intro r z;exact G r (te z)
 by_cases J:k=5
 .subst J;refine⟨?_,Se,by simp[lW];omega⟩;simp;intro r z;rcases pA z with z|rfl
  .exact G r z
  .exact⟨RX,fun x ad=>by rw[List.eq_of_mem_replicate ad];have:=s.p2;omega⟩
 by_cases O:k=6
 .subst O;simp[bh]at B;obtain⟨⟨D,E⟩,⟨F,H⟩,_⟩:=B;refine⟨?_,RX,by simp[np];split<;>omega⟩;simp;intro r z;obtain⟨q,hq,rfl⟩:=cd.1 (te z);exact Ym
 by_cases Z:k=7
 .subst Z;simp[bh,jQ]at B;obtain⟨⟨D,E⟩,⟨F,H⟩,⟨a0,am⟩,_⟩:=B;refine⟨?_,RX,by simp[lW];omega⟩;simp;intro r z;rcases pA z with z|rfl
  .obtain⟨q,hq,rfl⟩:=cd.1 z;exact XQ
  .exact⟨Ry,am⟩
 by_cases ab:k=8
 .subst ab;simp[bh]at B;obtain⟨⟨F,H⟩,_⟩:=B;refine⟨?_,RX,RX⟩;simp;intro q hq;exact Ym
 by_cases ac:k=9
 .subst ac;simp[bh]at B;refine⟨?_,RX,RX⟩;simp;intro q hq;exact XQ
 simp[*]at B
def pt{v:Int}{rows:aC}(s:Sys p v h rows)(k a b c:Int)(row:aH):jO p v h rows k a b c row=(jb k a b c row&&(kF p v h rows k a b c row&&gg p v (dK k h) (bH p v rows k a b c row (v+h).toNat))):=by
 unfold jO;congr 1
 cases z:kF p v h rows k a b c row with
 |false=>
  rw[kz];unfold kF at z;by_cases I:k=1
  .subst I;simpa using z
  by_cases J:k=2
  .subst J;simp only[show(2:Int)=1↔False by decide,ku,jo]at z ⊢;rw[<-z];congr 1;apply nX;simp[bh,fC];omega
  by_cases O:k=3
  .subst O;simp only[show(3:Int)=1↔False by decide,show(3:Int)=2↔False by decide,ku,jo]at z ⊢;rw[<-z,Bool.and_assoc,Bool.and_assoc];congr 3;apply nX;simp[bh,fC];omega
  by_cases Q:k=4
  .subst Q;simp[zcF]at z ⊢;exact z
  by_cases R:k=5
  .subst R;simp at z ⊢;intro h;rw[h]at z;cases z
  by_cases T:k=6
  .subst T;simp only[show(6:Int)=1↔False by decide,show(6:Int)=2↔False by decide,show(6:Int)=3↔False by decide,show(6:Int)=4↔False by decide,show(6:Int)=5↔False by decide,ku,jo]at z ⊢;cases am:eW a 0 ((rows:Int)-1)with
   |false=>rfl
   |true=>obtain⟨B,F⟩:=bh.1 am;rw[am,xT B F]at z;exact z
  by_cases U:k=7
  .subst U;simp only[show(7:Int)=1↔False by decide,show(7:Int)=2↔False by decide,show(7:Int)=3↔False by decide,show(7:Int)=4↔False by decide,show(7:Int)=5↔False by decide,show(7:Int)=6↔False by decide,ku,jo]at z ⊢;rw[show pE p row (v+h+1)=(decide ((row:Int)=v+h+1)&&row.all (jD p)) from rfl]at z;cases a1:eW a 0 (rows:Int) <;>cases a2:eW b 0 h <;>cases a3:decide ((row:Int)=v+h+1) <;>cases a4:row.all (jD p) <;>cases a5:(row.getD (v+b).toNat 0 !=0) <;>simp_all
  by_cases Z:k=8
  .subst Z;simp[zcF,xU]at z ⊢;exact z
  by_cases ab:k=9
  .subst ab;simp at z ⊢;intro h;rw[h]at z;cases z
  simp[*]
 |true=>
  obtain⟨ac,ad,a0⟩:=gu s z;rw[wF,zfm s ad ac];clear ac ad a0;have E:=s.n;have D:=s.h100;unfold kF at z;unfold bH dK;by_cases I:k=1
  .subst I;simp at z ⊢;simp[z,E,D]
  by_cases J:k=2
  .subst J;simp[bh,fC]at z;simp[E,D];exact⟨bh.2 z.1,bh.2 Ry⟩
  by_cases O:k=3
  .subst O;simp[bh,fC]at z;simp[E,D];exact⟨⟨bh.2 z.1,bh.2 z.2.1,z.2.2.1⟩,bh.2 Ry⟩
  by_cases Q:k=4
  .subst Q;simp at z;simp[D,zcF,z,np];split <;>omega
  by_cases R:k=5
  .subst R;simp at z;simp[D,z,lW];omega
  by_cases T:k=6
  .subst T;simp only[show(6:Int)=1↔False by decide,show(6:Int)=2↔False by decide,show(6:Int)=3↔False by decide,show(6:Int)=4↔False by decide,show(6:Int)=5↔False by decide,ku,jo,bn]at z ⊢;obtain⟨B,H,c1⟩:=z;obtain⟨F,ao⟩:=bh.1 B;rw[B,H,<-xT F ao];have c2:=c1.1;have c3:=c1.2;rw[c2,c3];simp[np];refine⟨Ry,?_⟩;split <;>omega
  by_cases U:k=7
  .subst U;simp only[show(7:Int)=1↔False by decide,show(7:Int)=2↔False by decide,show(7:Int)=3↔False by decide,show(7:Int)=4↔False by decide,show(7:Int)=5↔False by decide,show(7:Int)=6↔False by decide,ku,jo]at z ⊢;rw[show pE p row (v+h+1)=(decide ((row:Int)=v+h+1)&&row.all (jD p)) from rfl]at z;simp only[bn]at z;obtain⟨B,H,⟨c1,d1⟩,ap⟩:=z;rw[B,H,c1,d1,ap];apply nX;simp[lW];omega
  by_cases Z:k=8
  .subst Z;simp[xU]at z;simp[zcF,z,E];omega
  by_cases ab:k=9
  .subst ab;simp at z;simp[z,E];omega
  simp[*]at z
end Go.Proofs.YtdpgblncijojiaaGreatDoor
