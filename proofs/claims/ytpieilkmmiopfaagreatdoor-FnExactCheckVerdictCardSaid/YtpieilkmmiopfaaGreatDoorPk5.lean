/- Parts of the walks. Conditions: as stated with each. -/
import Derived.Test.YtpieilkmmiopfaaGreatDoorPk3
namespace Go.Proofs.YtpieilkmmiopfaaGreatDoor
open Go.RowKit Tryz
set_option linter.all false
set_option maxHeartbeats 4000000
variable{c k:Nat}{p:Int}{rows:aP}{xs ys:aL}
def zbs(b p v h:Int)A ε rows w(ad:bt w A rows)(ap:rows.length<=160)(av:∀r∈rows,r.length<=1000)(a1:0<=v)(a2:v<=1000)(ah:0<=b)(am:b<=1000)(an:1<=h)(ao:h<=1000)(I:∀r∈rows,v+b<r.length):az 283 (je (bK b) p (aA v h A rows ε)) w fun e w'=>∃u,e=.returned (.agg (en v (h-1) u))/\aY w' w u (rows.map (fun r=>r.eraseIdx (v+b).toNat))/\ag w w':=by
 have O:=zH I;have T:=zH av;go_enter func283,ntmps283
 go_wp2_with fail
 refine(BR b v h A ε rows _ (ad.ext (ζ w _ _ _)) ap T.o a1 a2 ah am an ao O).x ?_;rintro e a8 ⟨u,rfl,F,D⟩;have⟨ab,ac,H,_,_,_⟩:=aY.p F;simp only[bs]at H;subst H;have⟨a3,a4,J⟩:=cD w (.cells (bK b) 241) (.cells (aA v h A rows ε) 57) (.cells bx 57);have a0:=D.size;simp only[dV]at a0;have G:=dg D J;have⟨U,Y,Z⟩:=cC G;have⟨a5,a6,a7⟩:=cd G;simp only[dA,dm]at U Y Z;have⟨HO,HE⟩:=bJ (F.x (B':=(w:Nat)+3) Qt) ((ζ w _ _ _).t (D.x (B':=w.heap.size) Rs));go_wp2;refine aI (v:=.agg (aA v (h-1) ab rows ac)) (by simp[results,results283,go_sem, *]) rfl ⟨_,rfl,?_,?_⟩
 .exact Ym
 .exact X7
def zbt(b p v h:Int)A ε rows w(ad:bt w A rows)(ap:rows.length<=160)(av:∀r∈rows,r.length<=1000)(a1:0<=v)(a2:v<=1000)(ah:0<=b)(am:b<=1000)(an:0<=h)(ao:h<=1000)(I:∀r∈rows,v+b<=r.length):az 286 (je (bK b) p (aA v h A rows ε)) w fun e w'=>∃u,e=.returned (.agg (en v (h+1) u))/\aY w' w u (rows.map (fun r=>cT r (v+b).toNat 0))/\ag w w':=by
 have O:=zH I;have T:=zH av;go_enter func286,ntmps286
 go_wp2_with fail
 refine(zds b v h A ε rows _ (ad.ext (ζ w _ _ _)) ap T.o a1 a2 ah am an ao O).x ?_;rintro e a8 ⟨u,rfl,F,D⟩;have⟨ab,ac,H,_,_,_⟩:=aY.p F;simp only[bs]at H;subst H;have⟨a3,a4,J⟩:=cD w (.cells (bK b) 242) (.cells (aA v h A rows ε) 57) (.cells bx 57);have a0:=D.size;simp only[dV]at a0;have G:=dg D J;have⟨U,Y,Z⟩:=cC G;have⟨a5,a6,a7⟩:=cd G;simp only[dA,dm]at U Y Z;have⟨HO,HE⟩:=bJ (F.x (B':=(w:Nat)+3) Qt) ((ζ w _ _ _).t (D.x (B':=w.heap.size) Rs));go_wp2;refine aI (v:=.agg (aA v (h+1) ab rows ac)) (by simp[results,results286,go_sem, *]) rfl ⟨_,rfl,?_,?_⟩
 .exact Ym
 .exact X7
def zdf(a b p v F:Int)A ε rows w(av:bt w A rows)(b4:rows.length<=160)(a3:∀r∈rows,r.length<=1000)(bz:0<=a)(cc:a<rows.length)(b6:0<=v)(b7:v<=1000)(hb:0<=b)(b0:b<=1000)(b2:1<=F)(b3:F<=1000)(a2:∀r∈rows,v+b<r.length):az 267 (je (bC a b) p (aA v F A rows ε)) w fun e w'=>∃u,e=.returned (.agg (en v (F-1) u))/\aY w' w u ((rows.map (fun r=>r.eraseIdx (v+b).toNat)).eraseIdx a.toNat)/\ag w w':=by
 have be:=zH a2;clear a2;have bg:=zH a3;go_enter func267,ntmps267
 go_wp2_with fail
 refine(BR b v F A ε rows _ (av.ext (ζ w _ _ _)) b4 bg b6 b7 hb b0 b2 b3 be).x ?_;rintro e G ⟨u,rfl,a4,Z⟩;have⟨h,T⟩:=aR (rows.map (fun r=>r.eraseIdx (v+b).toNat));rw[<-T]at a4;have⟨Ii,bh⟩:=bJ (by rw[T];simp:h.length=rows) T;clear T;obtain⟨us,hu⟩:=a4;obtain⟨I,D,rfl,_,_,_⟩:=aY.p ⟨us,hu⟩;have⟨a9,b8,ba⟩:=cD w (.cells (bC a b) 237) (.cells (aA v F A rows ε) 57) (.cells bx 57);have b5:=Z.size;simp only[dV]at b5;go_upto_region 2 with(fail)
 have⟨H,FY⟩:=aR (G.alloc (.cells (aA v (F-1) I h D) 57));rw[<-FY];have ab:ag G H:=UP;have cj:(H:Nat)=G+1:=Rr;have O:=aT Z ab;have an:bA H G (aA v (F-1) I h D) 57:=TK;have a7:=dg O a9;have a8:=dg O ba;have ah:bL H ((w:Nat)+3) (.slice I h D) h us:=(hu.ext ab).x Qt;have a6:∀g',I=some ⟨g',0,none⟩->g' < (G:Nat):=fun g' e=>UB
 have a1:ag w H:=(ζ w _ _ _).t (O.x Rs);clear hu Z ab O a3 a9 b8 ba FY;obtain⟨g,b1,ce,ch⟩:∃g,I=some ⟨g,0,none⟩/\(w:Nat)+3<=g/\g < (H:Nat):=mh ah Su;subst b1;have ci:=a6 g rfl;have bb:=bB a7 0;have bc:=bB an 2;simp only[dA,dm]at bb bc;have⟨Y,bd,bi,bn⟩:=gG ah a1 a8 an;clear ah a1 a6 a7 a8 an av;go_upto_region 3 with(go_at_call 257;refine(vl ((w:Nat)+3) g h D a us _ Y.η (rp Y) bz Su Su).x ?_;rintro e wr ⟨rfl,a5,ac⟩;have J:=(ac.block G Qu QW).t bn;have U:=zH ac;have HO:=zH a5;have f2:=aK J 2;have c2:=bB J 2;simp only[dA,dm]at c2;have ap:=zH J;clear J ac a5)
 have ao:=bE wr G 2 _ _ (.slice (bH g) (h.length-1) D) ap;simp only[zA]at ao;have am:=(eX wr ⟨G,2,none⟩ ((w:Nat)+1+1) (.slice (bH g) (h.length-1) D) Rs).t ((U.block _ Qu QW).t bi);have a0:=Y.γ Su HO U;have ad:=a0.m9 ap (j:=2) (u:=.slice (bH g) (h.length-1) D);rw[show h.eraseIdx a.toNat=(rows.map (fun r=>r.eraseIdx (v+b).toNat)).eraseIdx a.toNat by rw[bh.o]]at ad;have⟨HO,HE⟩:=bJ (show aY _ ((w:Nat)+3) _ _ from⟨_,ad⟩) ((bd.grown U Qu fun b hb=>RD).setCell (p:=⟨G,2,none⟩) Rs (.slice (bH g) (h.length-1) D));clear a0 ad c2 f2 bb bc;have⟨bo,bp,bq⟩:=cC ao;have⟨br,bu,bv⟩:=cC am;have⟨b9,ca,cb⟩:=cd am;simp only[dA,dm]at bo bp bq br bu bv;clear ao am;go_wp2;refine aI (v:=.agg (eO v (F-1) (bH g) (h.length-1) D)) (by simp[results,results267,go_sem, *]) rfl ⟨_,rfl,?_,?_⟩
 .exact Ym
 .exact X7
def zd1(a b p v h:Int)A U ε Z xs rows w(bh:bt w A rows)(ct:rows.length<=160)(bq:∀r∈rows,r.length<=1000)(bn:aO w U xs)(c5:xs.length<=1000)(cn:0<=a)(cW:a<=rows.length)(cz:0<=v)(cA:v<=1000)(G:0<=b)(cp:b<=1000)(cq:0<=h)(cr:h<=1000)(bp:∀r∈rows,v+b<=r.length):az 274 (je (aA a b U xs Z) p (aA v h A rows ε)) w fun e w'=>∃u,e=.returned (.agg (en v (h+1) u))/\aY w' w u (cT (rows.map (fun r=>cT r (v+b).toNat 0)) a.toNat xs)/\ag w w':=by
 have⟨b4,b8⟩:=bJ bp bn;clear bp bn;have b5:=zH bq;go_enter func274,ntmps274
 go_wp2_with fail
 refine(zds b v h A ε rows _ (bh.ext (ζ w _ _ _)) ct b5 cz cA G cp cq cr b4).x ?_;rintro e F ⟨u,rfl,br,a4⟩;have⟨D,ap⟩:=aR (rows.map (fun r=>cT r (v+b).toNat 0));rw[<-ap]at br;have⟨Ii,b6⟩:=bJ (by rw[ap];simp:D.length=rows) ap;clear ap;obtain⟨us,hu⟩:=br;obtain⟨I,J,rfl,_,_,_⟩:=aY.p ⟨us,hu⟩;have⟨b2,cF,b3⟩:=cD w (.cells (aA a b U xs Z) 239) (.cells (aA v h A rows ε) 57) (.cells bx 57);have cu:=a4.size;simp only[dV]at cu;go_upto_region 2 with(fail)
 have⟨H,FY⟩:=aR (F.alloc (.cells (aA v (h+1) I D J) 57));rw[<-FY];have a5:ag F H:=UP;have c3:(H:Nat)=F+1:=Rr;have am:=aT a4 a5;have a9:bA H F (aA v (h+1) I D J) 57:=TK;have a7:=dg am b2;have b1:=dg am b3;have bv:bL H ((w:Nat)+3) (.slice I D J) D us:=(hu.ext a5).x Qt;have bz:∀g',I=some ⟨g',0,none⟩->g' < (F:Nat):=fun g' e=>UB
 have bo:ag w H:=(ζ w _ _ _).t (am.x Rs);clear hu a4 a5 am bq b2 cF b3 FY;have co:a<=D.length:=Su;have c0:D.length<=160:=Su;have av:=bB a7 0;have bc:=bB a7 2;have a0:=bB a9 2;simp only[dA,dm]at av bc a0;have⟨ad,bd,ca,cb,b7⟩:=pD bv bo b1 a9 bz;clear bv bo bz a7 b1 a9 bh;refine cU (S:=fun w'=>af w' w 0 (zI a)/\af w' w 2 (.slice U xs Z)/\af w' F 2 (.slice I D J)) 10 QT ⟨av,bc,a0⟩ (fun hHeld=>?_);refine Qi ?_;have bg:∀bb,ag H bb->(fun w':World=>af w' w 0 (zI a)/\af w' w 2 (.slice U xs Z)/\af w' F 2 (.slice I D J)) bb:=fun bb G=>
  ⟨ar G av,ar G bc,ar G a0⟩
 refine cm 6 fun K hK=>?_
 go_simp;refine(qg U Z xs _ ((b8.ext bd).ext (al _ _).drew) Qu).x ?_;rintro e ac ⟨c6,rfl,a6,O⟩;have O:ag H ac:=(al _ _).drew.t O;obtain⟨a1,a2,b0,_⟩:=a6.p;try simp only[fA]at b0
 subst b0;dsimp only;refine hK.out _ _ (fun _=>bg ac O) (fun hHeld=>?_);refine Mr fun hHeld=>?_;clear K hK
 have b9:=zH a6;clear a6;refine Ny fun K hK=>?_
 have T:Below H H (ac.alloc (.cells (aV a1 xs a2) 26)):=O.alloc O.size _;refine hK.out _ _ (fun _=>bg _ T) (fun hHeld=>?_);refine Mr fun hHeld=>?_;clear K hK
 refine cm 8 fun K hK=>?_
 go_simp;have c4:=O.size;have a3:=ad.ext T;have F0:∀b,(Value.slice I D J).ownBlock=some b->(w:Nat)+3<=b/\b < (F:Nat):=fun b G=>⟨(bS ad.η b G).1,by
  rcases ad.η.2 with⟨h1,_⟩|⟨g',cI,cK,h1,_⟩
  .rw[h1]at G;cases G
  .rw[h1]at G;cases G;exact b7 g' T8⟩
 refine(vM ((w:Nat)+3) D ac a (.slice I D J) us (.slice a1 xs a2) _ a3.η (rp a3) rfl (aH _ _ rfl) (fun e=>by have:=F0 _ e;omega) cn co Qu Rs).x ?_;rintro e wr ⟨g,ab,rfl,bu,Y,_⟩;dsimp only;have an:∀p:dM,p.block=(w:Nat)∨p.block=(w:Nat)+1∨p.block=(F:Nat)->∀x,(ac.alloc (.cells (aV a1 xs a2) 26)).cell? p=some x->wr.cell? p=some x:=fun p ao x cB=>Y.cell cB (fun e=>by have:=F0 _ e.q;rcases ao with ao|ao|ao<;>omega)
 refine hK.out _ _ (fun _=>⟨an _ (ay rfl) _ hHeld.1,an _ (ay rfl) _ hHeld.2.1,an _ (au (au rfl)) _ hHeld.2.2⟩) (fun hHeld=>?_);refine Mr fun hHeld=>?_;clear K hK
 refine cm 9 fun K hK=>?_
 go_simp;refine hK.out _ _ (fun _=>hHeld) (fun hHeld=>?_);refine Qm ?_;clear K hK;have ah:wr.heap[F.heap.size]?=_:=(Y.block F Rs (fun e=>TN)).t ((T.block F Qu).t cb);have be:=zH ah;have f2:=aK ah 2;have c2:=bB ah 2;simp only[dA,dm]at c2;clear ah an hHeld;refine cm 10 fun K hK=>?_
 go_simp;refine Qn ?_;clear K hK;refine gM QT ?_ _;have ba:=bE wr F 2 _ _ (.slice (bH g) (D.length+1) ab) be;simp only[zA]at ba;have a8:=(eX wr ⟨F,2,none⟩ ((w:Nat)+1+1) (.slice (bH g) (D.length+1) ab) Rs).t ((Y.block _ Rs (fun e=>TN)).t ((T.block _ Qu).t ca));have bi:=ad.insert T (b9.ext ((al _ _).alloc (ae _) _)) Qu Qu bu Y;have⟨HO,HE⟩:=bJ (show aY _ ((w:Nat)+3) _ _ from⟨_,bi.m9 be (j:=2) (u:=.slice (bH g) (D.length+1) ab)⟩) ((rY (bd.t (T.x Qu)) Y Rs fun b G=>by have:=F0 b G;omega).setCell (p:=⟨F,2,none⟩) Rs (.slice (bH g) (D.length+1) ab));clear bi c2 f2 av a0 Y bu O T a3 F0;rw[show D.take a.toNat++xs::D.drop a.toNat=cT (rows.map (fun r=>cT r (v+b).toNat 0)) a.toNat xs by rw[b6.o];rfl]at HO;have⟨cc,ce,ch⟩:=cC ba;have⟨ci,cj,ck⟩:=cC a8;have⟨cO,cR,cV⟩:=cd a8;simp only[dA,dm]at cc ce ch ci cj ck;clear ba a8;go_wp2;refine aI (v:=.agg (eO v (h+1) (bH g) (D.length+1) ab)) (by simp[results,results274,go_sem, *]) rfl ⟨_,rfl,?_,?_⟩
 .exact Ym
 .exact X7
def zhQ(a b c p v F:Int)n A ε rows w(a3:bt w A rows)(cB:rows.length<=160)(F6:∀r∈rows,r.length<=1000)(b8:1<=p)(b9:p<=1000)(cn:0<=a)(co:a<rows.length)(hb:0<=b)(cq:b<rows.length)(cp:a≠b)(cr:0<=c)(ct:c<=1000)(hx:∀r∈rows,∀x∈r,0<=x/\x<=1000)(cF:1<=n)(am:∀r∈rows,r.length=n):az 252 (je (gT a b c) p (aA v F A rows ε)) w fun e w'=>∃u,e=.returned (.agg (en v F u))/\aY w' w u (rows.set b.toNat (dw p c (rows.getD b.toNat []) (rows.getD a.toNat [])))/\ag w w':=by
 refine OE fun ra GZ rb Hm=>?_
 have⟨bo,bq,bv,bz,J,O⟩:=ny (SX:rows.getD a.toNat []=ra) (SW:rows.getD b.toNat []=rb) (show ∀x∈ra,0<=x/\x<=1000 from hx ra (aU GZ)) (show ∀x∈rb,0<=x/\x<=1000 from hx rb (aU Hm)) (am ra (aU GZ)) (am rb (aU Hm));have cK:ra.length<=1000:=F6 ra (aU GZ);clear hx am;refine Qc fun HM F_=>?_
 go_enter func252,ntmps252
 go_wp2_with fail
 refine(mQ _ _ _ _ _ _ (a3.ext (((al _ _).alloc Qt _ |>.alloc Qt _).alloc Rs _)) HM F_).x ?_;refine PT fun w1 FR us gA Ga hu _ _ _=>?_
 have⟨bb,cc,bc⟩:=cD w (.cells (gT a b c) 233) (.cells (aA v F A rows ε) 57) (.cells bx 57);have ca:=FR.size;simp only[dV]at ca;go_upto_region 2 with(fail)
 have⟨W2,FY⟩:=aR (w1.alloc (.cells (aA v F gA rows Ga) 57));rw[<-FY];have ah:ag w1 W2:=UP;have cO:(W2:Nat)=w1+1:=Rr;have T:=aT FR ah;have ap:bA W2 w1 (aA v F gA rows Ga) 57:=TK;have a8:=dg T bb;have a9:=dg T bc;have Gf:bL W2 ((w:Nat)+3) (.slice gA rows Ga) rows us:=(hu.ext ah).x Qt;have cb:∀g',gA=some ⟨g',0,none⟩->g' < (w1:Nat):=fun g' e=>UB
 have G:∀(k:Nat) (x:aG),us[k]?=some x->∀b,x.ownBlock=some b->b < (w1:Nat):=fun k x hx b hb=>Vk
 have a5:ag w W2:=(ζ w _ _ _).t (T.x Rs);clear hu FR ah T a3 F6 bb cc bc FY;obtain⟨cR,Hp,an⟩:=Gf.F GZ;obtain⟨cV,J0,I⟩:=Gf.F Hm;refine PI fun g GA Gy Gz=>?_
 subst GA;obtain⟨ce,ac,rfl,a2,_⟩:=an.p;obtain⟨ch,ad,rfl,_,_⟩:=I.p;obtain⟨H,rfl,cu,_⟩:=mr an (by have:=J.o;omega);obtain⟨D,rfl,cz,_⟩:=mr I (by have:=O.o;omega);have cA:=G _ _ J0 D rfl;have cI:H≠D:=fun e=>by have:=Gf.apart _ _ _ _ H Hp J0 rfl (by rw[e];rfl);omega
 have a6:g≠D:=by
  rcases gF Gf.η I with h1|h1
  .cases h1
  .exact Wg
 have⟨U,Y,Z⟩:=cC a8;have ab:=bB ap 2;simp only[dA,dm]at U Y Z ab;have av:af W2 g a.toNat (.slice (bH H) ra ac):=UM;have a0:af W2 g b.toNat (.slice (bH D) rb ad):=US;have⟨br,bp,bu,b0,b1,a1⟩:=ny Gf a5 J0 a9 ap (pL p c ((w:Nat)+3) D ad ac (some ⟨H,0,none⟩) rb ra W2.drew b8 b9 Qu Qu (AB I) (a2.ext (al _ _).drew) (fun b o e=>by simp only[dW,xg]at e;omega) (by rw[J.o,O.o]) (by have:=O.o;have:=J.o;omega) bz bv);clear Gf a5 Hp J0 an I GZ Hm a2 cb G a8 a9 ap;go_region_held3 (fun w'=>af w' w 0 (zI a)/\af w' w 1 (zI b)/\af w' w 2 (zI c)/\af w' w1 2 (.slice (bH g) rows Ga)/\af w' g a.toNat (.slice (bH H) ra ac)/\af w' g b.toNat (.slice (bH D) rb ad))
  (first|exact a4|exact⟨U,Y,Z,ab,av,a0⟩)
  ((go_at_call 176;refine a1.x ?_;rintro e wr ⟨rfl,a7,h⟩;have bd:=qX h (a:=⟨w,0,none⟩) U (Qu:w.heap.size≠D);have be:=qX h (a:=⟨w,1,none⟩) Y (Qu:w.heap.size≠D);have bg:=qX h (a:=⟨w,2,none⟩) Z (Qu:w.heap.size≠D);have bh:=qX h (a:=⟨w1,2,none⟩) ab (Qu:w1.heap.size≠D);have bi:=qX h (a:=⟨g,a.toNat,none⟩) av a6;have bn:=qX h (a:=⟨g,b.toNat,none⟩) a0 a6;have a4:=aQ bd (aQ be (aQ bg (aQ bh (aQ bi bn))))))
 have h:=cx (eG W2 (some D)) h;have ba:=(h.block w1 Qu QW).t b1;have ao:=(h.block ((w:Nat)+1+1) Qu QW).t b0;have G:=br.K (r':=dw p c rb ra) bu h (by
  unfold aE;rw[show(dw p c rb ra).length=rb by simp[dw,J.o,O.o]];exact a7)
 rw[<-bo.o,<-bq.o]at G;have⟨HO,HE⟩:=bJ (show aY wr ((w:Nat)+3) _ _ from⟨_,G⟩) (bp.grown h Qu fun b hb=>RD);clear a7 h G bd be bg bh bi bn a4 U Y Z ab av a0 a1;have⟨b2,b3,b4⟩:=cC ba;have⟨b5,b6,b7⟩:=cC ao;have⟨ci,cj,ck⟩:=cd ao;simp only[dA,dm]at b2 b3 b4 b5 b6 b7;clear ba ao;go_wp2;refine aI (v:=.agg (aA v F (bH g) rows Ga)) UA rfl ⟨_,rfl,?_,?_⟩
 .exact Ym
 .exact X7
def fC(k:Int):Bool:=!(k==8||k==9)
def fD(k:Int):Bool:=k==1||k==6||k==3||k==7||k==8||k==9
def fE(k:Int):Bool:=k==2||k==3
def fF(k:Int):Bool:=k==7
def cM k w:az 192 (bK k) w fun e w'=>e=.returned (.agg #[.bool (fC k),.bool (fD k),.bool (fE k),.bool (fF k)])/\ag w w':=by
 by_cases h:k=1
 .subst h;go_enter sj,sl
  go_wp2;exact aI (v:=.agg #[.bool true,.bool true,.bool false,.bool false]) TD rfl ⟨rfl,(al _ _).alloc (ae _) _⟩
 by_cases G:k=6
 .subst G;go_enter sj,sl
  go_wp2;exact aI (v:=.agg #[.bool true,.bool true,.bool false,.bool false]) TD rfl ⟨rfl,(al _ _).alloc (ae _) _⟩
 by_cases D:k=2
 .subst D;go_enter sj,sl
  go_wp2;exact aI (v:=.agg #[.bool true,.bool false,.bool true,.bool false]) TD rfl ⟨rfl,(al _ _).alloc (ae _) _⟩
 by_cases F:k=3
 .subst F;go_enter sj,sl
  go_wp2;exact aI (v:=.agg #[.bool true,.bool true,.bool true,.bool false]) TD rfl ⟨rfl,(al _ _).alloc (ae _) _⟩
 by_cases H:k=7
 .subst H;go_enter sj,sl
  go_wp2;exact aI (v:=.agg #[.bool true,.bool true,.bool false,.bool true]) TD rfl ⟨rfl,(al _ _).alloc (ae _) _⟩
 by_cases I:k=8
 .subst I;go_enter sj,sl
  go_wp2;exact aI (v:=.agg #[.bool false,.bool true,.bool false,.bool false]) TD rfl ⟨rfl,(al _ _).alloc (ae _) _⟩
 by_cases J:k=9
 .subst J;go_enter sj,sl
  go_wp2;exact aI (v:=.agg #[.bool false,.bool true,.bool false,.bool false]) TD rfl ⟨rfl,(al _ _).alloc (ae _) _⟩
 go_enter sj,sl
 go_wp2;exact aI (v:=.agg #[.bool true,.bool false,.bool false,.bool false]) TD rfl ⟨by simp[fC,fD,fE,fF, *],(al _ _).alloc (ae _) _⟩
def dk p v h A ε rows w(ap:dZ w)(av:bt w A rows)(J:rows.length<=maxLen)(O:∀r∈rows,r.length<=maxLen):az 67 (gj p (aA v h A rows ε)) w fun e w'=>(ic p v h rows=true->e=.returned (.tuple (fH (aA v h A rows ε))))/\(ic p v h rows=false->e=.returned (.tuple (dz bx)))/\ag w w':=by
 have⟨ab,Z⟩:=bJ O J;clear O J;go_enter func67,ntmps67
 go_wp2_with fail
 have D:Below w w ((w.alloc (.cells (aA v h A rows ε) 57)).alloc (.cells bx 57)):=((al w w).alloc Qt _).alloc Qt _;refine(zbo p v h A ε rows _ (ap.ext D) (av.ext D) Z ab).x ?_;rintro e a3 ⟨rfl,F⟩;have U:((w.alloc (.cells (aA v h A rows ε) 57)).alloc (.cells bx 57)).heap[w.heap.size]?=some (.cells (aA v h A rows ε) 57 (0,0)):=(bO _ _ Qt).t (aH _ _ rfl);have Y:((w.alloc (.cells (aA v h A rows ε) 57)).alloc (.cells bx 57)).heap[(w:Nat)+1]?=some (.cells bx 57 (0,0)):=aH _ _ Qt;have T:=dg F U;have I:=dg F Y;have⟨ac,ad,ah⟩:=cC T;have⟨am,an,ao⟩:=cC I;have⟨a0,a1,a2⟩:=cd I;simp only[dA,dm]at ac ad ah am an ao;have HE:=zH (D.t (F.x (B':=w.heap.size) Rs));clear D F U Y T I;cases G:ic p v h rows
 .have H:=zH G;clear G;go_wp2;refine aI (v:=.tuple (dz bx)) Uh rfl ⟨fun h=>(by rw[H.o]at h;cases h),fun _=>rfl,?_⟩;exact X7
 .have H:=zH G;clear G;go_wp2;refine aI (v:=.tuple (fH (aA v h A rows ε))) Uh rfl ⟨fun _=>rfl,fun h=>(by rw[H.o]at h;cases h),?_⟩;exact X7
structure Δ(p v h:Int)(rows:aP):Prop where
 f:bV p=true
 p2:2<=p
 p97:p<=97
 v0:0<=v
 Â:v<=24
 h0:0<=h
 χ:h<=100
 n:rows.length<=160
 ι:∀r∈rows,(r.length:Int)=v+h
 el:∀r∈rows,∀x∈r,0<=x/\x<p
def dx{n lo hi}:eU n lo hi=true↔lo<=n/\n<=hi:=by simp[eU]
def iG{a}:jY p a=true↔0<=a/\a<p:=by simp[jY]
def il{n}:jX p xs n=true↔(xs:Int)=n/\∀x∈xs,0<=x/\x<p:=by simp[jX,jY]
def zhC{n}:vH p rows n=true↔∀r∈rows,(r.length:Int)=n/\∀x∈r,0<=x/\x<p:=by simp[vH,il]
def cv(h:bV p=true):2<=p/\p<=97:=by unfold bV at h;rw[bN]at h;exact dx.1 h.1
def mY{v D}:ic p v D rows=true↔Δ p v D rows:=by
 unfold ic;simp only[bN,dx,zhC,cf];constructor
 .rintro⟨a,⟨F,G⟩,⟨c1,c2⟩,d,e⟩;exact⟨a,(cv a).1,(cv a).2,F,G,c1,c2,d,fun r h=>(e r h).1,fun r h=>(e r h).2⟩
 .intro s;exact⟨s.f,⟨s.v0,s.Â⟩,⟨s.h0,s.χ⟩,s.n,fun r h=>⟨s.ι r h,s.el r h⟩⟩
def qC{a b}(h:a=true↔b=true):a=b:=by cases a<;>cases b<;>simp_all
def pB(k a b c:Int)(n:Nat):Bool:=
 ((k !=8&&k !=9)||a==0)&&(((k !=2&&(k !=4&&k !=5))||b==0)&&((k==2||(k==3||c==0))&&(k==7||n==0)))
def nR(p v h:Int)(rows:aP)(k a b c:Int)(row:aL):Bool:=
 pB k a b c row&&
 (if k=1 then eU a 0 ((rows:Int)-1)&&(eU b 0 ((rows:Int)-1)&&(a !=b))
 else if k=2 then eU a 0 ((rows:Int)-1)&&eU c 1 (p-1)
 else if k=3 then(eU a 0 ((rows:Int)-1)&&(eU b 0 ((rows:Int)-1)&&(a !=b)))&&eU c 0 (p-1)
 else if k=4 then eU a 0 ((rows:Int)-1)&&(rows.getD a.toNat []).all (fun x=>eU x 0 0)
 else if k=5 then eU a 0 (rows:Int)&&decide (rows.length<160)
 else if k=6 then eU a 0 ((rows:Int)-1)&&(eU b 0 (h-1)&&vQ (jL rows (v+b).toNat) a)
 else if k=7 then eU a 0 (rows:Int)&&(eU b 0 h&&(decide (rows.length<160)&&(decide (h<100)&&(decide ((row:Int)=v+h+1)&&(row.all (jY p)&&(row.getD (v+b).toNat 0 !=0))))))
 else if k=8 then eU b 0 (h-1)&&(jL rows (v+b).toNat).all (fun x=>eU x 0 0)
 else if k=9 then eU b 0 h&&decide (h<100)
 else false)
def me(p v h:Int)(rows:aP)(k a b c:Int)(row:aL):Bool:=
 if k=1 then eU a 0 ((rows:Int)-1)&&(eU b 0 ((rows:Int)-1)&&(a !=b))
 else if k=2 then eU a 0 ((rows:Int)-1)&&(jY p c&&(c !=0))
 else if k=3 then eU a 0 ((rows:Int)-1)&&(eU b 0 ((rows:Int)-1)&&((a !=b)&&jY p c))
 else if k=4 then eU a 0 ((rows:Int)-1)&&uX (rows.getD a.toNat [])
 else if k=5 then eU a 0 (rows:Int)
 else if k=6 then eU a 0 ((rows:Int)-1)&&(eU b 0 (h-1)&&(((rows.getD a.toNat []).getD (v+b).toNat 0 !=0)&&te rows (v+b).toNat a))
 else if k=7 then eU a 0 (rows:Int)&&(eU b 0 h&&(jX p row (v+h+1)&&(row.getD (v+b).toNat 0 !=0)))
 else if k=8 then eU b 0 (h-1)&&te rows (v+b).toNat (-1)
 else if k=9 then eU b 0 h
 else false
def fO(k h:Int):Int:=if k=6∨k=8 then h-1 else if k=7∨k=9 then h+1 else h
def cG(p v:Int)(rows:aP)(k a b c:Int)(row:aL)(n:Nat):List (List Int):=
 if k=1 then(rows.set a.toNat (rows.getD b.toNat [])).set b.toNat (rows.getD a.toNat [])
 else if k=2 then rows.set a.toNat (kq p c (rows.getD a.toNat []))
 else if k=3 then rows.set b.toNat (dw p c (rows.getD b.toNat []) (rows.getD a.toNat []))
 else if k=4 then rows.eraseIdx a.toNat
 else if k=5 then cT rows a.toNat (List.replicate n 0)
 else if k=6 then(rows.map (fun r=>r.eraseIdx (v+b).toNat)).eraseIdx a.toNat
 else if k=7 then cT (rows.map (fun r=>cT r (v+b).toNat 0)) a.toNat row
 else if k=8 then rows.map (fun r=>r.eraseIdx (v+b).toNat)
 else if k=9 then rows.map (fun r=>cT r (v+b).toNat 0)
 else rows
def zmE x:eU x 0 0=decide (x=0):=by apply qC;rw[dx,cf];omega
def zf9 xs:xs.all (fun x=>eU x 0 0)=uX xs:=by simp only[zmE];rfl
def zhD{a}:vQ xs a=true↔∀(k:Nat) (x:Int),xs[k]?=some x->((k:Int)=a↔x≠0):=by
 unfold vQ;simp only[eD,pT];constructor
 .intro F k x h;have:=F (x,k) (by rw[eH];exact⟨k,by simp[h]⟩);exact AJ.1 this
 .intro F y G;obtain⟨k,D⟩:=eH.1 G;rw[zck]at D;cases h:xs[k]? with
  |none=>simp[h]at D
  |some x=>simp[h]at D;subst D;exact AJ.2 (F k x h)
def zdy{G}:te rows c G=true↔∀(k:Nat) (r:aL),rows[k]?=some r->(k:Int)=G∨r.getD c 0=0:=by
 unfold te;simp only[eD,jS,cf];constructor
 .intro D k r H;exact D (r,k) (by rw[eH];exact⟨k,by simp[H]⟩)
 .intro D y I;obtain⟨k,h⟩:=eH.1 I;rw[zck]at h;cases F:rows[k]? with
  |none=>simp[F]at h
  |some x=>simp[F]at h;subst h;exact D k x F
def zC{x}:(jL rows c)[k]?=some x↔∃r,rows[k]?=some r/\r.getD c 0=x:=by unfold jL;rw[bI];cases rows[k]?<;>simp
def Cb{a}(ab:0<=a)(ac:a<=(rows:Int)-1):(((rows.getD a.toNat []).getD c 0 !=0)&&te rows c a)=vQ (jL rows c) a:=by
 apply qC;rw[bN,zdy,zhD];have T:a.toNat<rows.length:=Qu;have F:rows[a.toNat]?=some rows[a.toNat]:=di T;have J:rows.getD a.toNat []=rows[a.toNat]:=by simp[List.getD,F]
 rw[J];constructor
 .rintro⟨U,O⟩ k x Y;obtain⟨r,h,rfl⟩:=zC.1 Y;constructor
  .intro G;have:k=a.toNat:=Qu;subst this;rw[F]at h;cases h
   simpa using U
  .intro Z;rcases O k r h with D|D
   .exact D
   .exact absurd D Z
 .intro H;constructor
  .have:=(H a.toNat _ (zC.2 ⟨_,F,rfl⟩)).1 Qu;simpa using this
  .intro k r h;have:=H k _ (zC.2 ⟨r,h,rfl⟩);by_cases G:(k:Int)=a
   .exact ay G
   .right;by_cases I:r.getD c 0=0
    .exact I
    .exact absurd (this.2 I) G
def Cc rows c:te rows c (-1)=uX (jL rows c):=by
 apply qC;rw[zdy];unfold uX;simp only[eD,cf];constructor
 .intro h x H;obtain⟨k,G⟩:=eH.1 H;obtain⟨r,D,rfl⟩:=zC.1 G;rcases h k r D with F|F
  .omega
  .exact F
 .intro h k r D;exact au (h _ (eH.2 ⟨k,zC.2 ⟨r,D,rfl⟩⟩))
def mZ(h:k<rows.length):rows.getD k []∈rows:=by rw[bf,di h];exact xk h
def Ε{h:Type}{l:List h}{x y}(D:y∈l.set k x):y∈l∨y=x:=List.mem_or_eq_of_mem_set D
def Bw{D}{l}{x y:D}(h:y∈cT l k x):y∈l∨y=x:=by
 unfold cT at h;rcases dP.1 h with h|h
 .exact ay (AG h)
 .rcases et.1 h with h|h
  .exact au h
  .exact ay (mx h)
def sX{h}l k(x:h):(cT l k x).length=l+1:=by unfold cT;simp;omega
def zjk{v H h}{F}(s:Δ p v H rows)(a:0<=h)(G:∀r∈F,(r.length:Int)=v+h/\∀x∈r,0<=x/\x<p):ic p v h F=(decide (h<=100)&&decide (F.length<=160)):=by apply qC;rw[mY,bN,cf,cf];exact⟨fun t=>⟨t.χ,t.n⟩,fun t=>⟨s.f,s.p2,s.p97,s.v0,s.Â,a,t.1,t.2,fun r D=>(G r D).1,fun r D=>(G r D).2⟩⟩
def zdz{x}(h:2<=p):0<=x%p/\x%p<p:=⟨gV _ Qu,gW _ Qu⟩
def mD p b xs ys:(dw p b xs ys).length=min xs.length ys.length:=by simp[dw]
def zhE{b}(F:2<=p):∀x∈dw p b xs ys,0<=x/\x<p:=by
 intro x D;unfold dw at D;obtain⟨k,h⟩:=eH.1 D;rw[zcg]at h;cases G:xs[k]?<;>cases H:ys[k]?<;>simp[G,H]at h
 subst h;exact zdz F
def zhF{b}(h:2<=p):∀x∈kq p b xs,0<=x/\x<p:=by intro x D;obtain⟨y,_,rfl⟩:=cH.1 D;exact zdz h
abbrev Ê(p n:Int)(r:aL):Prop:=(r:Int)=n/\∀x∈r,0<=x/\x<p
def Ey{n}{r}(g:Ê p n r)(h:k<r.length):Ê p (n-1) (r.eraseIdx k):=by refine⟨?_,fun x D=>g.2 x (AA D)⟩;rw[Ay h];have:=g.1;omega
def zdA{n}{r}(F:2<=p)(g:Ê p n r):Ê p (n+1) (cT r k 0):=by
 refine⟨?_,fun x D=>?_⟩
 .rw[sX];have:=g.1;omega
 .rcases Bw D with h|rfl
  .exact g.2 x h
  .omega
def Δ.zm4{v h}(s:Δ p v h rows):∀r∈rows,Ê p (v+h) r:=fun r D=>⟨s.ι r D,s.el r D⟩
def iJ{v I}(s:Δ p v I rows){k a b c}{row}(D:me p v I rows k a b c row=true):(∀r∈cG p v rows k a b c row (v+I).toNat,Ê p (v+fO k I) r)/\0<=fO k I/\(cG p v rows k a b c row (v+I).toNat).length<=161:=by
 have av:=s.n;have h0:=s.h0;have a0:=s.v0;have G:=s.zm4;have T:∀i:Int,0<=i->i<=(rows:Int)-1->Ê p (v+I) (rows.getD i.toNat []):=fun i Z ab=>G _ (mZ Qu)
 unfold me at D;unfold cG fO;by_cases Z:k=1
 .subst Z;simp only[p_,bN,dx]at D;obtain⟨⟨F,H⟩,⟨J,O⟩,_⟩:=D;refine⟨?_,Rb,QW⟩;simp;intro r h;rcases Ε h with h|rfl
  .rcases Ε h with h|rfl
   .exact G r h
   .exact T b J O
  .exact T a F H
 by_cases ab:k=2
 .subst ab;simp[dx,iG]at D;obtain⟨⟨F,H⟩,_⟩:=D;refine⟨?_,Rb,QW⟩;simp;intro r h;rcases Ε h with h|rfl
  .exact G r h
  .exact⟨by have:=(T a F H).1;simpa[kq]using this,zhF s.p2⟩
 by_cases ac:k=3
 .subst ac;simp[dx,iG]at D;obtain⟨⟨F,H⟩,⟨J,O⟩,_⟩:=D;refine⟨?_,Rb,QW⟩;simp;intro r h;rcases Ε h with h|rfl
  .exact G r h
  .refine⟨?_,zhE s.p2⟩;rw[mD];have U:=(T a F H).1;have Y:=(T b J O).1;simp only[bf]at U Y;omega
 by_cases ad:k=4
 .subst ad;refine⟨?_,Rb,by simp[pX];split<;>omega⟩;simp;intro r h;exact G r (AA h)
 by_cases U:k=5
 .subst U;refine⟨?_,Rb,by simp[sX];omega⟩;simp;intro r h;rcases Bw h with h|rfl
  .exact G r h
  .exact⟨QW,fun x ao=>by rw[List.eq_of_mem_replicate ao];have:=s.p2;omega⟩
 by_cases Y:k=6
 .subst Y;simp[dx]at D;obtain⟨⟨F,H⟩,⟨J,O⟩,_⟩:=D;refine⟨?_,QW,by simp[pX];split<;>omega⟩;simp;intro r h;obtain⟨q,hq,rfl⟩:=cH.1 (AA h);exact Yc
 by_cases ah:k=7
 .subst ah;simp[dx,il]at D;obtain⟨⟨F,H⟩,⟨J,O⟩,⟨a1,ap⟩,_⟩:=D;refine⟨?_,QW,by simp[sX];omega⟩;simp;intro r h;rcases Bw h with h|rfl
  .obtain⟨q,hq,rfl⟩:=cH.1 h;exact XG
  .exact⟨Qu,ap⟩
 by_cases am:k=8
 .subst am;simp[dx]at D;obtain⟨⟨J,O⟩,_⟩:=D;refine⟨?_,QW,QW⟩;simp;intro q hq;exact Yc
 by_cases an:k=9
 .subst an;simp[dx]at D;refine⟨?_,QW,QW⟩;simp;intro q hq;exact XG
 simp[*]at D
def sy{v h}(s:Δ p v h rows)k a b c row:nR p v h rows k a b c row=(pB k a b c row&&(me p v h rows k a b c row&&ic p v (fO k h) (cG p v rows k a b c row (v+h).toNat))):=by
 unfold nR;congr 1
 cases hc:me p v h rows k a b c row with
 |false=>
  rw[my];unfold me at hc;by_cases J:k=1
  .subst J;simpa using hc
  by_cases O:k=2
  .subst O;simp only[show(2:Int)=1↔False by decide,lp,p_]at hc ⊢;rw[<-hc];congr 1
   apply qC;simp[dx,iG];omega
  by_cases T:k=3
  .subst T;simp only[show(3:Int)=1↔False by decide,show(3:Int)=2↔False by decide,lp,p_]at hc ⊢;rw[<-hc,xi,xi];congr 3
   apply qC;simp[dx,iG];omega
  by_cases U:k=4
  .subst U;simp[zf9]at hc ⊢;exact hc
  by_cases Y:k=5
  .subst Y;simp at hc ⊢;intro h;rw[h]at hc;cases hc
  by_cases Z:k=6
  .subst Z;simp only[show(6:Int)=1↔False by decide,show(6:Int)=2↔False by decide,show(6:Int)=3↔False by decide,show(6:Int)=4↔False by decide,show(6:Int)=5↔False by decide,lp,p_]at hc ⊢;cases an:eU a 0 ((rows:Int)-1)with
   |false=>rfl
   |true=>obtain⟨D,H⟩:=dx.1 an;rw[an,Cb D H]at hc;exact hc
  by_cases ab:k=7
  .subst ab;refine OR fun hc=>?_
   cases a1:eU a 0 (rows:Int)<;>cases a2:eU b 0 h<;>cases a3:decide ((row:Int)=v+h+1)<;>cases a4:row.all (jY p)<;>cases a5:(row.getD (v+b).toNat 0 !=0)<;>simp_all
  by_cases ac:k=8
  .subst ac;simp[zf9,Cc]at hc ⊢;exact hc
  by_cases ad:k=9
  .subst ad;simp at hc ⊢;intro h;rw[h]at hc;cases hc
  simp[*]
 |true=>
  have⟨ah,am,a0⟩:=iJ s hc;rw[xm,zjk s am ah];clear ah am a0;have G:=s.n;have F:=s.χ;unfold me at hc;unfold cG fO;by_cases J:k=1
  .subst J;simp at hc ⊢;simp[hc,G,F]
  by_cases O:k=2
  .subst O;simp[dx,iG]at hc;simp[G,F];exact⟨dx.2 hc.1,dx.2 Qu⟩
  by_cases T:k=3
  .subst T;simp[dx,iG]at hc;simp[G,F];exact⟨⟨dx.2 hc.1,dx.2 hc.2.1,hc.2.2.1⟩,dx.2 Qu⟩
  by_cases U:k=4
  .subst U;simp at hc;simp[F,zf9,hc,pX];split<;>omega
  by_cases Y:k=5
  .subst Y;simp at hc;simp[F,hc,sX];omega
  by_cases Z:k=6
  .subst Z;simp only[show(6:Int)=1↔False by decide,show(6:Int)=2↔False by decide,show(6:Int)=3↔False by decide,show(6:Int)=4↔False by decide,show(6:Int)=5↔False by decide,lp,p_,bN]at hc ⊢;obtain⟨D,I,c1⟩:=hc;obtain⟨H,ao⟩:=dx.1 D;rw[D,I,<-Cb H ao];have c2:=c1.1;have ap:=c1.2;rw[c2,ap];simp[pX];refine⟨Qu,?_⟩;split<;>omega
  by_cases ab:k=7
  .subst ab;refine OR fun hc=>?_
   simp only[bN]at hc;obtain⟨D,I,⟨c1,d1⟩,av⟩:=hc;rw[D,I,c1,d1,av];apply qC;simp[sX];omega
  by_cases ac:k=8
  .subst ac;simp[Cc]at hc;simp[zf9,hc,G];omega
  by_cases ad:k=9
  .subst ad;simp at hc;simp[hc,G];omega
  simp[*]at hc
end Go.Proofs.YtpieilkmmiopfaaGreatDoor
