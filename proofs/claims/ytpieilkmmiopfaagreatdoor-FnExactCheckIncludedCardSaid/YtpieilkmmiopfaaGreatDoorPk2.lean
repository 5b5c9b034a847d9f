/- Parts of the walks. Conditions: as stated with each. -/
import Derived.Test.YtpieilkmmiopfaaGreatDoorPk1
namespace Go.Proofs.YtpieilkmmiopfaaGreatDoor
open Go.RowKit Tryz
set_option linter.all false
set_option maxHeartbeats 4000000
set_option maxRecDepth 20000
variable{A:ax}{B' J N b c hi hi' i j k lo lo' n r y:Nat}{K:pt}{P:jk}{Q:gZ}{T v v0 v1 v2 v3 v4 v5 v6 v7 v8 z z2:aG}{a:Act}{f:Nat->Int}{iv p:Int}{l:bP}{o:h_}{ops:iI}{ps:ng}{rest:List Oper}{rows:aP}{us:cL}{w w':aa}{xs ys:aL}
section
variable{B:Nat}
structure b_(lo hi:Nat)(w w':aa):Prop where
 os:w'.os=w.os
 tape:w'.tape=w.tape
 output:w'.output=w.output
 size:(w:Nat)<=w'
 block:∀k,k < (w:Nat)->(k<lo∨hi<=k)->w'.heap[k]?=w.heap[k]?
def b_.refl lo hi w:b_ lo hi w w:=⟨rfl,rfl,rfl,ae _,fun _ _ _=>rfl⟩
def b_.t{lo hi}{a b c}(h:b_ lo hi a b)(k:b_ lo hi b c):b_ lo hi a c:=⟨k.os.t h.os,k.tape.t h.tape,k.output.t h.output,aZ h.size k.size,fun i D F=>(k.block i (gm D h.size) F).t (h.block i D F)⟩
def b_.gy(h:ag w w'):b_ lo hi w w':=⟨h.os,h.tape,h.output,h.size,fun k D _=>h.block k D⟩
def b_.EN(h:w.grownBy w' (some b))(F:lo<=b)(G:b<hi):b_ lo hi w w':=⟨h.os,h.tape,h.output,h.size,fun k D H=>h.block k D (fun e=>by cases e;omega)⟩
def b_.x(h:b_ lo hi w w')(F:lo'<=lo)(G:hi<=hi'):b_ lo' hi' w w':=⟨h.os,h.tape,h.output,h.size,fun k D H=>h.block k D Qu⟩
def b_.L(h:b_ lo hi w w')(D:B<=lo)(G:B<=(w:Nat)):Below B w w':=⟨h.os,h.tape,h.output,h.size,fun k F=>h.block k Qu Qu⟩
def b_.cell(D:b_ lo hi w w'){p}(h:w.cell? p=some v)(F:p.block<lo∨hi<=p.block):w'.cell? p=some v:=by rw[<-h];exact l6 (w:=w) (D.block _ (jB w p h) F)
structure vK(w:aa)(lo hi:Nat)(v:aG)(xs:aL):Prop where
 μ:aE w lo v xs
 up:∀b,v.ownBlock=some b->b<hi
structure tc(w:aa)(lo hi:Nat)(v:aG)(rows:aP)(us:cL):Prop where
 μ:bL w lo v rows us
 up:∀b,v.ownBlock=some b->b<hi
 Í:∀u∈us,∀b,u.ownBlock=some b->b<hi
def Κ(w:aa)(lo hi:Nat)(v:aG)(rows:aP):Prop:=∃us,tc w lo hi v rows us
def vK.of(h:aE w B v xs):vK w B w v xs:=⟨h,fun b D=>(h.lt b D).2⟩
def Κ.of(h:aY w B v rows):Κ w B w v rows:=by obtain⟨us,h⟩:=h;refine⟨us,h,fun b hb=>(bS h.η b hb).2,fun u hu b hb=>?_⟩;exact Xl
def vK.x(h:vK w lo hi v xs)(D:lo'<=lo)(G:hi<=hi'):vK w lo' hi' v xs:=⟨h.μ.x D,fun b F=>by have:=h.up b F;omega⟩
def aE.u(D:aE w B v xs)(O:∀b,v.ownBlock=some b->b<J)(I:b_ lo hi w w')(T:J<=lo∨hi<=B):aE w' B v xs:=by refine⟨D.1,D.2.E id fun⟨g,ε,H,a1,F,h,G⟩=>⟨g,ε,H,a1,F,?_,G⟩⟩;have:=O g (by rw[a1];rfl);exact(I.block g (bk.1 h).1 Qu).t h
def vK.u(h:vK w lo hi v xs)(F:b_ lo' hi' w w')(D:hi<=lo'∨hi'<=lo):vK w' lo hi v xs:=⟨h.μ.u h.up F D,h.up⟩
def tc.u(h:tc w lo hi v rows us)(hw:b_ lo' hi' w w')(hd:hi<=lo'∨hi'<=lo):tc w' lo hi v rows us:=by refine⟨⟨⟨h.μ.η.1,h.μ.η.2.E id fun⟨g,ε,H,a1,F,D,G⟩=>⟨g,ε,H,a1,F,(hw.block g (bk.1 D).1 UL).t D,G⟩⟩,fun k u r hu hr=>?_,h.μ.apart⟩,h.up,h.Í⟩;exact WI
def Κ.u(h:Κ w lo hi v rows)(F:b_ lo' hi' w w')(D:hi<=lo'∨hi'<=lo):Κ w' lo hi v rows:=by obtain⟨us,h⟩:=h;exact⟨us,h.u F D⟩
def vK.ext(h:vK w lo hi v xs)(D:ag w w'):vK w' lo hi v xs:=⟨h.μ.ext D,h.up⟩
def tc.ext(h:tc w lo hi v rows us)(D:ag w w'):tc w' lo hi v rows us:=⟨h.μ.ext D,h.up,h.Í⟩
def Κ.ext(h:Κ w lo hi v rows)(D:ag w w'):Κ w' lo hi v rows:=by obtain⟨us,h⟩:=h;exact⟨us,h.ext D⟩
def Κ.μ(h:Κ w lo hi v rows):aY w lo v rows:=by obtain⟨us,h⟩:=h;exact⟨us,h.μ⟩
def Κ.nil w lo hi:Κ w lo hi (.slice none 0 0) []:=⟨[],⟨rT _ _ _ _,fun k u r h=>by simp at h,fun i j u F b h=>by simp at h⟩,fun b D=>by simp[Value.ownBlock]at D,fun u h=>by cases h⟩
end


def zbs(b p v h:Int)A ε rows w(ad:bt w A rows)(ap:rows.length<=160)(av:∀r∈rows,r.length<=1000)(a1:0<=v)(a2:v<=1000)(ah:0<=b)(am:b<=1000)(an:1<=h)(ao:h<=1000)(I:∀r∈rows,v+b<r.length):az 283 (je (bK b) p (aA v h A rows ε)) w fun e w'=>∃u,e=.returned (.agg (en v (h-1) u))/\aY w' w u (rows.map (fun r=>r.eraseIdx (v+b).toNat))/\ag w w':=by
 have O:=zH I;have T:=zH av;go_enter func283,ntmps283
 go_wp2_with fail
 refine(BR b v h A ε rows _ (ad.ext (ζ w _ _ _)) ap T.o a1 a2 ah am an ao O).x ?_;rintro e a8 ⟨u,rfl,F,D⟩;have⟨ab,ac,H,_,_,_⟩:=aY.p F;simp only[bs]at H;subst H;have⟨a3,a4,J⟩:=cD w (.cells (bK b) 241) (.cells (aA v h A rows ε) 57) (.cells bx 57);have a0:=D.size;simp only[dV]at a0;have G:=dg D J;have⟨U,Y,Z⟩:=cC G;have⟨a5,a6,a7⟩:=cd G;simp only[dA,dm]at U Y Z;have⟨HO,HE⟩:=bJ (F.x (B':=(w:Nat)+3) Qt) ((ζ w _ _ _).t (D.x (B':=w.heap.size) Rs));go_wp2;refine aI (v:=.agg (aA v (h-1) ab rows ac)) (by simp[results,results283,go_sem, *]) rfl ⟨_,rfl,?_,?_⟩
 .exact Ym
 .exact X7
def zbt(b p v h:Int)A ε rows w(ad:bt w A rows)(ap:rows.length<=160)(av:∀r∈rows,r.length<=1000)(a1:0<=v)(a2:v<=1000)(ah:0<=b)(am:b<=1000)(an:0<=h)(ao:h<=1000)(I:∀r∈rows,v+b<=r.length):az 286 (je (bK b) p (aA v h A rows ε)) w fun e w'=>∃u,e=.returned (.agg (en v (h+1) u))/\aY w' w u (rows.map (fun r=>cT r (v+b).toNat 0))/\ag w w':=by
 have O:=zH I;have T:=zH av;go_enter func286,ntmps286
 go_wp2_with fail
 refine(ŧ b v h A ε rows _ (ad.ext (ζ w _ _ _)) ap T.o a1 a2 ah am an ao O).x ?_;rintro e a8 ⟨u,rfl,F,D⟩;have⟨ab,ac,H,_,_,_⟩:=aY.p F;simp only[bs]at H;subst H;have⟨a3,a4,J⟩:=cD w (.cells (bK b) 242) (.cells (aA v h A rows ε) 57) (.cells bx 57);have a0:=D.size;simp only[dV]at a0;have G:=dg D J;have⟨U,Y,Z⟩:=cC G;have⟨a5,a6,a7⟩:=cd G;simp only[dA,dm]at U Y Z;have⟨HO,HE⟩:=bJ (F.x (B':=(w:Nat)+3) Qt) ((ζ w _ _ _).t (D.x (B':=w.heap.size) Rs));go_wp2;refine aI (v:=.agg (aA v (h+1) ab rows ac)) (by simp[results,results286,go_sem, *]) rfl ⟨_,rfl,?_,?_⟩
 .exact Ym
 .exact X7
def zdf(a b p v F:Int)A ε rows w(av:bt w A rows)(b4:rows.length<=160)(a3:∀r∈rows,r.length<=1000)(bz:0<=a)(cc:a<rows.length)(b6:0<=v)(b7:v<=1000)(hb:0<=b)(b0:b<=1000)(b2:1<=F)(b3:F<=1000)(a2:∀r∈rows,v+b<r.length):az 267 (je (bC a b) p (aA v F A rows ε)) w fun e w'=>∃u,e=.returned (.agg (en v (F-1) u))/\aY w' w u ((rows.map (fun r=>r.eraseIdx (v+b).toNat)).eraseIdx a.toNat)/\ag w w':=by
 have be:=zH a2;clear a2;have bg:=zH a3;go_enter func267,ntmps267
 go_wp2_with fail
 refine(BR b v F A ε rows _ (av.ext (ζ w _ _ _)) b4 bg b6 b7 hb b0 b2 b3 be).x ?_;rintro e G ⟨u,rfl,a4,Z⟩;have⟨h,T⟩:=aR (rows.map (fun r=>r.eraseIdx (v+b).toNat));rw[<-T]at a4;have⟨Ii,bh⟩:=bJ (by rw[T];simp:h.length=rows) T;clear T;obtain⟨us,hu⟩:=a4;obtain⟨I,D,rfl,_,_,_⟩:=aY.p ⟨us,hu⟩;have⟨a9,b8,ba⟩:=cD w (.cells (bC a b) 237) (.cells (aA v F A rows ε) 57) (.cells bx 57);have b5:=Z.size;simp only[dV]at b5;go_upto_region 2 with(fail)
 have⟨H,FY⟩:=aR (G.alloc (.cells (aA v (F-1) I h D) 57));rw[<-FY];have ab:ag G H:=UP;have cj:(H:Nat)=G+1:=Rr;have O:=aT Z ab;have an:bA H G (aA v (F-1) I h D) 57:=TK;have a7:=dg O a9;have a8:=dg O ba;have ah:bL H ((w:Nat)+3) (.slice I h D) h us:=(hu.ext ab).x Qt;have a6:∀g',I=some ⟨g',0,none⟩->g' < (G:Nat):=fun g' e=>UB
 have a1:ag w H:=(ζ w _ _ _).t (O.x Rs);clear hu Z ab O a3 a9 b8 ba FY;obtain⟨g,b1,ce,ch⟩:∃g,I=some ⟨g,0,none⟩/\(w:Nat)+3<=g/\g < (H:Nat):=mh ah Su;subst b1;have ci:=a6 g rfl;have bb:=bB a7 0;have bc:=bB an 2;simp only[dA,dm]at bb bc;have⟨Y,bd,bi,bn⟩:=gG ah a1 a8 an;clear ah a1 a6 a7 a8 an av;go_upto_region 3 with(go_at_call 257;refine(vl ((w:Nat)+3) g h D a us _ Y.η (rp Y) bz Su Su).x ?_;rintro e wr ⟨rfl,a5,ac⟩;have J:=(ac.block G Qu QW).t bn;have U:=zH ac;have HO:=zH a5;have f2:=aK J 2;have c2:=bB J 2;simp only[dA,dm]at c2;have ap:=zH J;clear J ac a5)
 have ao:=bE wr G 2 _ _ (.slice (bH g) (h.length-1) D) ap;simp only[zA]at ao;have am:=(eX wr ⟨G,2,none⟩ ((w:Nat)+1+1) (.slice (bH g) (h.length-1) D) Rs).t ((U.block _ Qu QW).t bi);have a0:=Y.γ Su HO U;have ad:=a0.m9 ap (j:=2) (u:=.slice (bH g) (h.length-1) D);rw[show h.eraseIdx a.toNat=(rows.map (fun r=>r.eraseIdx (v+b).toNat)).eraseIdx a.toNat by rw[bh.o]]at ad;have⟨HO,HE⟩:=bJ (show aY _ ((w:Nat)+3) _ _ from⟨_,ad⟩) ((bd.grown U Qu fun b hb=>RD).setCell (p:=⟨G,2,none⟩) Rs (.slice (bH g) (h.length-1) D));clear a0 ad c2 f2 bb bc;have⟨bo,bp,bq⟩:=cC ao;have⟨br,bu,bv⟩:=cC am;have⟨b9,ca,cb⟩:=cd am;simp only[dA,dm]at bo bp bq br bu bv;clear ao am;go_wp2;refine aI (v:=.agg (eO v (F-1) (bH g) (h.length-1) D)) (by simp[results,results267,go_sem, *]) rfl ⟨_,rfl,?_,?_⟩
 .exact Ym
 .exact X7
def zd1(a b p v h:Int)A U ε Z xs rows w(bh:bt w A rows)(ct:rows.length<=160)(bq:∀r∈rows,r.length<=1000)(bn:aO w U xs)(c5:xs.length<=1000)(cn:0<=a)(cW:a<=rows.length)(cz:0<=v)(cA:v<=1000)(G:0<=b)(cp:b<=1000)(cq:0<=h)(cr:h<=1000)(bp:∀r∈rows,v+b<=r.length):az 274 (je (aA a b U xs Z) p (aA v h A rows ε)) w fun e w'=>∃u,e=.returned (.agg (en v (h+1) u))/\aY w' w u (cT (rows.map (fun r=>cT r (v+b).toNat 0)) a.toNat xs)/\ag w w':=by
 have⟨b4,b8⟩:=bJ bp bn;have b5:=zH bq;go_enter func274,ntmps274
 go_wp2_with fail
 refine(ŧ b v h A ε rows _ (bh.ext (ζ w _ _ _)) ct b5 cz cA G cp cq cr b4).x ?_;rintro e F ⟨u,rfl,br,a4⟩;have⟨D,ap⟩:=aR (rows.map (fun r=>cT r (v+b).toNat 0));rw[<-ap]at br;have⟨Ii,b6⟩:=bJ (by rw[ap];simp:D.length=rows) ap;clear ap;obtain⟨us,hu⟩:=br;obtain⟨I,J,rfl,_,_,_⟩:=aY.p ⟨us,hu⟩;have⟨b2,cF,b3⟩:=cD w (.cells (aA a b U xs Z) 239) (.cells (aA v h A rows ε) 57) (.cells bx 57);have cu:=a4.size;simp only[dV]at cu;go_upto_region 2 with(fail)
 have⟨H,FY⟩:=aR (F.alloc (.cells (aA v (h+1) I D J) 57));rw[<-FY];have a5:ag F H:=UP;have c3:(H:Nat)=F+1:=Rr;have am:=aT a4 a5;have a9:bA H F (aA v (h+1) I D J) 57:=TK;have a7:=dg am b2;have b1:=dg am b3;have bv:bL H ((w:Nat)+3) (.slice I D J) D us:=(hu.ext a5).x Qt;have bz:∀g',I=some ⟨g',0,none⟩->g' < (F:Nat):=fun g' e=>UB
 have bo:ag w H:=(ζ w _ _ _).t (am.x Rs);clear FY;have co:a<=D.length:=Su;have c0:D.length<=160:=Su;have av:=bB a7 0;have bc:=bB a7 2;have a0:=bB a9 2;simp only[dA,dm]at av bc a0;have⟨ad,bd,ca,cb,b7⟩:=pD bv bo b1 a9 bz;refine cU (S:=fun w'=>af w' w 0 (zI a)/\af w' w 2 (.slice U xs Z)/\af w' F 2 (.slice I D J)) 10 QT ⟨av,bc,a0⟩ (fun hHeld=>?_);refine Qi ?_;have bg:∀bb,ag H bb->(fun w':World=>af w' w 0 (zI a)/\af w' w 2 (.slice U xs Z)/\af w' F 2 (.slice I D J)) bb:=fun bb G=>
  ⟨ar G av,ar G bc,ar G a0⟩
 refine cm 6 fun K hK=>?_
 go_simp;refine(qg U Z xs _ ((b8.ext bd).ext (al _ _).drew) Qu).x ?_;rintro e ac ⟨c6,rfl,a6,O⟩;have O:ag H ac:=(al _ _).drew.t O;obtain⟨a1,a2,b0,_⟩:=a6.p;try simp only[fA]at b0
 subst b0;dsimp only;refine hK.out _ _ (fun _=>bg ac O) (fun hHeld=>?_);refine Mr fun hHeld=>?_
 have b9:=zH a6;refine Ny fun K hK=>?_
 have T:Below H H (ac.alloc (.cells (aV a1 xs a2) 26)):=O.alloc O.size _;refine hK.out _ _ (fun _=>bg _ T) (fun hHeld=>?_);refine Mr fun hHeld=>?_
 refine cm 8 fun K hK=>?_
 go_simp;have c4:=O.size;have a3:=ad.ext T;have F0:∀b,(Value.slice I D J).ownBlock=some b->(w:Nat)+3<=b/\b < (F:Nat):=fun b G=>⟨(bS ad.η b G).1,by
  rcases ad.η.2 with⟨h1,_⟩|⟨g',cI,cK,h1,_⟩
  .rw[h1]at G;cases G
  .rw[h1]at G;cases G;exact b7 g' T8⟩
 refine(vM ((w:Nat)+3) D ac a (.slice I D J) us (.slice a1 xs a2) _ a3.η (rp a3) rfl (aH _ _ rfl) (fun e=>by have:=F0 _ e;omega) cn co Qu Rs).x ?_;rintro e wr ⟨g,ab,rfl,bu,Y,_⟩;dsimp only;have an:∀p:dM,p.block=(w:Nat)∨p.block=(w:Nat)+1∨p.block=(F:Nat)->∀x,(ac.alloc (.cells (aV a1 xs a2) 26)).cell? p=some x->wr.cell? p=some x:=fun p ao x cB=>Y.cell cB (fun e=>by have:=F0 _ e.q;rcases ao with ao|ao|ao<;>omega)
 refine hK.out _ _ (fun _=>⟨an _ (ay rfl) _ hHeld.1,an _ (ay rfl) _ hHeld.2.1,an _ (au (au rfl)) _ hHeld.2.2⟩) (fun hHeld=>?_);refine Mr fun hHeld=>?_
 refine cm 9 fun K hK=>?_
 go_simp;refine hK.out _ _ (fun _=>hHeld) (fun hHeld=>?_);refine Qm ?_;have ah:wr.heap[F.heap.size]?=_:=(Y.block F Rs (fun e=>TN)).t ((T.block F Qu).t cb);have be:=zH ah;have f2:=aK ah 2;have c2:=bB ah 2;simp only[dA,dm]at c2;refine cm 10 fun K hK=>?_
 go_simp;refine Qn ?_;refine gM QT ?_ _;have ba:=bE wr F 2 _ _ (.slice (bH g) (D.length+1) ab) be;simp only[zA]at ba;have a8:=(eX wr ⟨F,2,none⟩ ((w:Nat)+1+1) (.slice (bH g) (D.length+1) ab) Rs).t ((Y.block _ Rs (fun e=>TN)).t ((T.block _ Qu).t ca));have bi:=ad.insert T (b9.ext ((al _ _).alloc (ae _) _)) Qu Qu bu Y;have⟨HO,HE⟩:=bJ (show aY _ ((w:Nat)+3) _ _ from⟨_,bi.m9 be (j:=2) (u:=.slice (bH g) (D.length+1) ab)⟩) ((rY (bd.t (T.x Qu)) Y Rs fun b G=>by have:=F0 b G;omega).setCell (p:=⟨F,2,none⟩) Rs (.slice (bH g) (D.length+1) ab));rw[show D.take a.toNat++xs::D.drop a.toNat=cT (rows.map (fun r=>cT r (v+b).toNat 0)) a.toNat xs by rw[b6.o];rfl]at HO;have⟨cc,ce,ch⟩:=cC ba;have⟨ci,cj,ck⟩:=cC a8;have⟨cO,cR,cV⟩:=cd a8;simp only[dA,dm]at cc ce ch ci cj ck;go_wp2;refine aI (v:=.agg (eO v (h+1) (bH g) (D.length+1) ab)) (by simp[results,results274,go_sem, *]) rfl ⟨_,rfl,?_,?_⟩
 .exact Ym
 .exact X7
def zhQ(a b c p v F:Int)n A ε rows w(a3:bt w A rows)(cB:rows.length<=160)(F6:∀r∈rows,r.length<=1000)(b8:1<=p)(b9:p<=1000)(cn:0<=a)(co:a<rows.length)(hb:0<=b)(cq:b<rows.length)(cp:a≠b)(cr:0<=c)(ct:c<=1000)(hx:∀r∈rows,∀x∈r,0<=x/\x<=1000)(cF:1<=n)(am:∀r∈rows,r.length=n):az 252 (je (gT a b c) p (aA v F A rows ε)) w fun e w'=>∃u,e=.returned (.agg (en v F u))/\aY w' w u (rows.set b.toNat (dw p c (rows.getD b.toNat []) (rows.getD a.toNat [])))/\ag w w':=by
 refine OE fun ra GZ rb Hm=>?_
 have⟨bo,bq,bv,bz,J,O⟩:=ny (SX:rows.getD a.toNat []=ra) (SW:rows.getD b.toNat []=rb) (show ∀x∈ra,0<=x/\x<=1000 from hx ra (aU GZ)) (show ∀x∈rb,0<=x/\x<=1000 from hx rb (aU Hm)) (am ra (aU GZ)) (am rb (aU Hm));have cK:ra.length<=1000:=F6 ra (aU GZ);clear hx am;refine Qc fun HM F_=>?_
 go_enter func252,ntmps252
 go_wp2_with fail
 refine(mQ _ _ _ _ _ _ (a3.ext (((al _ _).alloc Qt _ |>.alloc Qt _).alloc Rs _)) HM F_).x ?_;refine PT fun w1 FR us gA Ga hu _ _ _=>?_
 have⟨bb,cc,bc⟩:=cD w (.cells (gT a b c) 233) (.cells (aA v F A rows ε) 57) (.cells bx 57);have ca:=FR.size;simp only[dV]at ca;go_upto_region 2 with(fail)
 have⟨W2,FY⟩:=aR (w1.alloc (.cells (aA v F gA rows Ga) 57));rw[<-FY];have ah:ag w1 W2:=UP;have cO:(W2:Nat)=w1+1:=Rr;have T:=aT FR ah;have ap:bA W2 w1 (aA v F gA rows Ga) 57:=TK;have a8:=dg T bb;have a9:=dg T bc;have Gf:bL W2 ((w:Nat)+3) (.slice gA rows Ga) rows us:=(hu.ext ah).x Qt;have cb:∀g',gA=some ⟨g',0,none⟩->g' < (w1:Nat):=fun g' e=>UB
 have G:∀(k:Nat) (x:aG),us[k]?=some x->∀b,x.ownBlock=some b->b < (w1:Nat):=fun k x hx b hb=>Vk
 have a5:ag w W2:=(ζ w _ _ _).t (T.x Rs);clear hu FR ah T a3 F6 bb cc bc FY;obtain⟨cR,Hp,an⟩:=Gf.F GZ;obtain⟨cV,J0,I⟩:=Gf.F Hm;refine PI fun g GA Gy Gz=>?_
 subst GA;obtain⟨ce,ac,rfl,a2,_⟩:=an.p;obtain⟨ch,ad,rfl,_,_⟩:=I.p;obtain⟨H,rfl,cu,_⟩:=mr an (by have:=J.o;omega);obtain⟨D,rfl,cz,_⟩:=mr I (by have:=O.o;omega);have cA:=G _ _ J0 D rfl;have cI:H≠D:=fun e=>by have:=Gf.apart _ _ _ _ H Hp J0 rfl (by rw[e];rfl);omega
 have a6:g≠D:=by
  rcases gF Gf.η I with h1|h1
  .cases h1
  .exact Wg
 have⟨U,Y,Z⟩:=cC a8;have ab:=bB ap 2;simp only[dA,dm]at U Y Z ab;have av:af W2 g a.toNat (.slice (bH H) ra ac):=UM;have a0:af W2 g b.toNat (.slice (bH D) rb ad):=US;have⟨br,bp,bu,b0,b1,a1⟩:=ny Gf a5 J0 a9 ap (pL p c ((w:Nat)+3) D ad ac (some ⟨H,0,none⟩) rb ra W2.drew b8 b9 Qu Qu (AB I) (a2.ext (al _ _).drew) (fun b o e=>by simp only[dW,xg]at e;omega) (by rw[J.o,O.o]) (by have:=O.o;have:=J.o;omega) bz bv);clear Gf a5 Hp J0 an I GZ Hm a2 cb G a8 a9 ap;go_region_held3 (fun w'=>af w' w 0 (zI a)/\af w' w 1 (zI b)/\af w' w 2 (zI c)/\af w' w1 2 (.slice (bH g) rows Ga)/\af w' g a.toNat (.slice (bH H) ra ac)/\af w' g b.toNat (.slice (bH D) rb ad))
  (first|exact a4|exact⟨U,Y,Z,ab,av,a0⟩)
  ((go_at_call 176;refine a1.x ?_;rintro e wr ⟨rfl,a7,h⟩;have bd:=qX h (a:=⟨w,0,none⟩) U (Qu:w.heap.size≠D);have be:=qX h (a:=⟨w,1,none⟩) Y (Qu:w.heap.size≠D);have bg:=qX h (a:=⟨w,2,none⟩) Z (Qu:w.heap.size≠D);have bh:=qX h (a:=⟨w1,2,none⟩) ab (Qu:w1.heap.size≠D);have bi:=qX h (a:=⟨g,a.toNat,none⟩) av a6;have bn:=qX h (a:=⟨g,b.toNat,none⟩) a0 a6;have a4:=aQ bd (aQ be (aQ bg (aQ bh (aQ bi bn))))))
 have h:=cx (eG W2 (some D)) h;have ba:=(h.block w1 Qu QW).t b1;have ao:=(h.block ((w:Nat)+1+1) Qu QW).t b0;have G:=br.K (r':=dw p c rb ra) bu h (by
  unfold aE;rw[show(dw p c rb ra).length=rb by simp[dw,J.o,O.o]];exact a7)
 rw[<-bo.o,<-bq.o]at G;have⟨HO,HE⟩:=bJ (show aY wr ((w:Nat)+3) _ _ from⟨_,G⟩) (bp.grown h Qu fun b hb=>RD);clear a7 h G bd be bg bh bi bn a4 U Y Z ab av a0 a1;have⟨b2,b3,b4⟩:=cC ba;have⟨b5,b6,b7⟩:=cC ao;have⟨ci,cj,ck⟩:=cd ao;simp only[dA,dm]at b2 b3 b4 b5 b6 b7;clear ba ao;go_wp2;refine aI (v:=.agg (aA v F (bH g) rows Ga)) UA rfl ⟨_,rfl,?_,?_⟩
 .exact Ym
 .exact X7
def fC(k:Int):Bool:=!(k==8||k==9)
def fD(k:Int):Bool:=k==1||k==6||k==3||k==7||k==8||k==9
def fE(k:Int):Bool:=k==2||k==3
def fF(k:Int):Bool:=k==7
def cM k w:az 192 (bK k) w fun e w'=>e=.returned (.agg #[.bool (fC k),.bool (fD k),.bool (fE k),.bool (fF k)])/\ag w w':=by
 by_cases h:k=1
 .subst h;go_enter sj,sl
  go_wp2;exact aI (v:=.agg #[.bool true,.bool true,.bool false,.bool false]) TD rfl ⟨rfl,(al _ _).alloc (ae _) _⟩
 by_cases G:k=6
 .subst G;go_enter sj,sl
  go_wp2;exact aI (v:=.agg #[.bool true,.bool true,.bool false,.bool false]) TD rfl ⟨rfl,(al _ _).alloc (ae _) _⟩
 by_cases D:k=2
 .subst D;go_enter sj,sl
  go_wp2;exact aI (v:=.agg #[.bool true,.bool false,.bool true,.bool false]) TD rfl ⟨rfl,(al _ _).alloc (ae _) _⟩
 by_cases F:k=3
 .subst F;go_enter sj,sl
  go_wp2;exact aI (v:=.agg #[.bool true,.bool true,.bool true,.bool false]) TD rfl ⟨rfl,(al _ _).alloc (ae _) _⟩
 by_cases H:k=7
 .subst H;go_enter sj,sl
  go_wp2;exact aI (v:=.agg #[.bool true,.bool true,.bool false,.bool true]) TD rfl ⟨rfl,(al _ _).alloc (ae _) _⟩
 by_cases I:k=8
 .subst I;go_enter sj,sl
  go_wp2;exact aI (v:=.agg #[.bool false,.bool true,.bool false,.bool false]) TD rfl ⟨rfl,(al _ _).alloc (ae _) _⟩
 by_cases J:k=9
 .subst J;go_enter sj,sl
  go_wp2;exact aI (v:=.agg #[.bool false,.bool true,.bool false,.bool false]) TD rfl ⟨rfl,(al _ _).alloc (ae _) _⟩
 go_enter sj,sl
 go_wp2;exact aI (v:=.agg #[.bool true,.bool false,.bool false,.bool false]) TD rfl ⟨by simp[fC,fD,fE,fF, *],(al _ _).alloc (ae _) _⟩
def dk p v h A ε rows w(ap:dZ w)(av:bt w A rows)(J:rows.length<=maxLen)(O:∀r∈rows,r.length<=maxLen):az 67 (gj p (aA v h A rows ε)) w fun e w'=>(ic p v h rows=true->e=.returned (.tuple (fH (aA v h A rows ε))))/\(ic p v h rows=false->e=.returned (.tuple (dz bx)))/\ag w w':=by
 have⟨ab,Z⟩:=bJ O J;clear O J;go_enter func67,ntmps67
 go_wp2_with fail
 have D:Below w w ((w.alloc (.cells (aA v h A rows ε) 57)).alloc (.cells bx 57)):=((al w w).alloc Qt _).alloc Qt _;refine(zbo p v h A ε rows _ (ap.ext D) (av.ext D) Z ab).x ?_;rintro e a3 ⟨rfl,F⟩;have U:((w.alloc (.cells (aA v h A rows ε) 57)).alloc (.cells bx 57)).heap[w.heap.size]?=some (.cells (aA v h A rows ε) 57 (0,0)):=(bO _ _ Qt).t (aH _ _ rfl);have Y:((w.alloc (.cells (aA v h A rows ε) 57)).alloc (.cells bx 57)).heap[(w:Nat)+1]?=some (.cells bx 57 (0,0)):=aH _ _ Qt;have T:=dg F U;have I:=dg F Y;have⟨ac,ad,ah⟩:=cC T;have⟨am,an,ao⟩:=cC I;have⟨a0,a1,a2⟩:=cd I;simp only[dA,dm]at ac ad ah am an ao;have HE:=zH (D.t (F.x (B':=w.heap.size) Rs));clear D F U Y T I;cases G:ic p v h rows
 .have H:=zH G;clear G;go_wp2;refine aI (v:=.tuple (dz bx)) Uh rfl ⟨fun h=>(by rw[H.o]at h;cases h),fun _=>rfl,?_⟩;exact X7
 .have H:=zH G;clear G;go_wp2;refine aI (v:=.tuple (fH (aA v h A rows ε))) Uh rfl ⟨fun _=>rfl,fun h=>(by rw[H.o]at h;cases h),?_⟩;exact X7
structure Δ(p v h:Int)(rows:aP):Prop where
 f:bV p=true
 p2:2<=p
 p97:p<=97
 v0:0<=v
 Â:v<=24
 h0:0<=h
 χ:h<=100
 n:rows.length<=160
 ι:∀r∈rows,(r.length:Int)=v+h
 el:∀r∈rows,∀x∈r,0<=x/\x<p
def dx{n lo hi}:eU n lo hi=true↔lo<=n/\n<=hi:=by simp[eU]
def iG{a}:jY p a=true↔0<=a/\a<p:=by simp[jY]
def il{n}:jX p xs n=true↔(xs:Int)=n/\∀x∈xs,0<=x/\x<p:=by simp[jX,jY]
def zhC{n}:vH p rows n=true↔∀r∈rows,(r.length:Int)=n/\∀x∈r,0<=x/\x<p:=by simp[vH,il]
def cv(h:bV p=true):2<=p/\p<=97:=by unfold bV at h;rw[bN]at h;exact dx.1 h.1
def mY{v D}:ic p v D rows=true↔Δ p v D rows:=by
 unfold ic;simp only[bN,dx,zhC,cf];constructor
 .rintro⟨a,⟨F,G⟩,⟨c1,c2⟩,d,e⟩;exact⟨a,(cv a).1,(cv a).2,F,G,c1,c2,d,fun r h=>(e r h).1,fun r h=>(e r h).2⟩
 .intro s;exact⟨s.f,⟨s.v0,s.Â⟩,⟨s.h0,s.χ⟩,s.n,fun r h=>⟨s.ι r h,s.el r h⟩⟩
def qC{a b}(h:a=true↔b=true):a=b:=by cases a<;>cases b<;>simp_all
def pB(k a b c:Int)(n:Nat):Bool:=
 ((k !=8&&k !=9)||a==0)&&(((k !=2&&(k !=4&&k !=5))||b==0)&&((k==2||(k==3||c==0))&&(k==7||n==0)))
def nR(p v h:Int)(rows:aP)(k a b c:Int)(row:aL):Bool:=
 pB k a b c row&&
 (if k=1 then eU a 0 ((rows:Int)-1)&&(eU b 0 ((rows:Int)-1)&&(a !=b))
 else if k=2 then eU a 0 ((rows:Int)-1)&&eU c 1 (p-1)
 else if k=3 then(eU a 0 ((rows:Int)-1)&&(eU b 0 ((rows:Int)-1)&&(a !=b)))&&eU c 0 (p-1)
 else if k=4 then eU a 0 ((rows:Int)-1)&&(rows.getD a.toNat []).all (fun x=>eU x 0 0)
 else if k=5 then eU a 0 (rows:Int)&&decide (rows.length<160)
 else if k=6 then eU a 0 ((rows:Int)-1)&&(eU b 0 (h-1)&&vQ (jL rows (v+b).toNat) a)
 else if k=7 then eU a 0 (rows:Int)&&(eU b 0 h&&(decide (rows.length<160)&&(decide (h<100)&&(decide ((row:Int)=v+h+1)&&(row.all (jY p)&&(row.getD (v+b).toNat 0 !=0))))))
 else if k=8 then eU b 0 (h-1)&&(jL rows (v+b).toNat).all (fun x=>eU x 0 0)
 else if k=9 then eU b 0 h&&decide (h<100)
 else false)
def me(p v h:Int)(rows:aP)(k a b c:Int)(row:aL):Bool:=
 if k=1 then eU a 0 ((rows:Int)-1)&&(eU b 0 ((rows:Int)-1)&&(a !=b))
 else if k=2 then eU a 0 ((rows:Int)-1)&&(jY p c&&(c !=0))
 else if k=3 then eU a 0 ((rows:Int)-1)&&(eU b 0 ((rows:Int)-1)&&((a !=b)&&jY p c))
 else if k=4 then eU a 0 ((rows:Int)-1)&&uX (rows.getD a.toNat [])
 else if k=5 then eU a 0 (rows:Int)
 else if k=6 then eU a 0 ((rows:Int)-1)&&(eU b 0 (h-1)&&(((rows.getD a.toNat []).getD (v+b).toNat 0 !=0)&&te rows (v+b).toNat a))
 else if k=7 then eU a 0 (rows:Int)&&(eU b 0 h&&(jX p row (v+h+1)&&(row.getD (v+b).toNat 0 !=0)))
 else if k=8 then eU b 0 (h-1)&&te rows (v+b).toNat (-1)
 else if k=9 then eU b 0 h
 else false
def fO(k h:Int):Int:=if k=6∨k=8 then h-1 else if k=7∨k=9 then h+1 else h
def cG(p v:Int)(rows:aP)(k a b c:Int)(row:aL)(n:Nat):List (List Int):=
 if k=1 then(rows.set a.toNat (rows.getD b.toNat [])).set b.toNat (rows.getD a.toNat [])
 else if k=2 then rows.set a.toNat (kq p c (rows.getD a.toNat []))
 else if k=3 then rows.set b.toNat (dw p c (rows.getD b.toNat []) (rows.getD a.toNat []))
 else if k=4 then rows.eraseIdx a.toNat
 else if k=5 then cT rows a.toNat (List.replicate n 0)
 else if k=6 then(rows.map (fun r=>r.eraseIdx (v+b).toNat)).eraseIdx a.toNat
 else if k=7 then cT (rows.map (fun r=>cT r (v+b).toNat 0)) a.toNat row
 else if k=8 then rows.map (fun r=>r.eraseIdx (v+b).toNat)
 else if k=9 then rows.map (fun r=>cT r (v+b).toNat 0)
 else rows
def zmE x:eU x 0 0=decide (x=0):=by apply qC;rw[dx,cf];omega
def Ϝ xs:xs.all (fun x=>eU x 0 0)=uX xs:=by simp only[zmE];rfl
def zhD{a}:vQ xs a=true↔∀(k:Nat) (x:Int),xs[k]?=some x->((k:Int)=a↔x≠0):=by
 unfold vQ;simp only[eD,pT];constructor
 .intro F k x h;have:=F (x,k) (by rw[eH];exact⟨k,by simp[h]⟩);exact AJ.1 this
 .intro F y G;obtain⟨k,D⟩:=eH.1 G;rw[ı]at D;cases h:xs[k]? with
  |none=>simp[h]at D
  |some x=>simp[h]at D;subst D;exact AJ.2 (F k x h)
def Ť{G}:te rows c G=true↔∀(k:Nat) (r:aL),rows[k]?=some r->(k:Int)=G∨r.getD c 0=0:=by
 unfold te;simp only[eD,jS,cf];constructor
 .intro D k r H;exact D (r,k) (by rw[eH];exact⟨k,by simp[H]⟩)
 .intro D y I;obtain⟨k,h⟩:=eH.1 I;rw[ı]at h;cases F:rows[k]? with
  |none=>simp[F]at h
  |some x=>simp[F]at h;subst h;exact D k x F
def zC{x}:(jL rows c)[k]?=some x↔∃r,rows[k]?=some r/\r.getD c 0=x:=by unfold jL;rw[bI];cases rows[k]?<;>simp
def Cb{a}(ab:0<=a)(ac:a<=(rows:Int)-1):(((rows.getD a.toNat []).getD c 0 !=0)&&te rows c a)=vQ (jL rows c) a:=by
 apply qC;rw[bN,Ť,zhD];have T:a.toNat<rows.length:=Qu;have F:rows[a.toNat]?=some rows[a.toNat]:=di T;have J:rows.getD a.toNat []=rows[a.toNat]:=by simp[List.getD,F]
 rw[J];constructor
 .rintro⟨U,O⟩ k x Y;obtain⟨r,h,rfl⟩:=zC.1 Y;constructor
  .intro G;have:k=a.toNat:=Qu;subst this;rw[F]at h;cases h
   simpa using U
  .intro Z;rcases O k r h with D|D
   .exact D
   .exact absurd D Z
 .intro H;constructor
  .have:=(H a.toNat _ (zC.2 ⟨_,F,rfl⟩)).1 Qu;simpa using this
  .intro k r h;have:=H k _ (zC.2 ⟨r,h,rfl⟩);by_cases G:(k:Int)=a
   .exact ay G
   .right;by_cases I:r.getD c 0=0
    .exact I
    .exact absurd (this.2 I) G
def Cc rows c:te rows c (-1)=uX (jL rows c):=by
 apply qC;rw[Ť];unfold uX;simp only[eD,cf];constructor
 .intro h x H;obtain⟨k,G⟩:=eH.1 H;obtain⟨r,D,rfl⟩:=zC.1 G;rcases h k r D with F|F
  .omega
  .exact F
 .intro h k r D;exact au (h _ (eH.2 ⟨k,zC.2 ⟨r,D,rfl⟩⟩))
def mZ(h:k<rows.length):rows.getD k []∈rows:=by rw[bf,di h];exact xk h
def Ε{h:Type}{l:List h}{x y}(D:y∈l.set k x):y∈l∨y=x:=List.mem_or_eq_of_mem_set D
def Bw{D}{l}{x y:D}(h:y∈cT l k x):y∈l∨y=x:=by
 unfold cT at h;rcases dP.1 h with h|h
 .exact ay (AG h)
 .rcases et.1 h with h|h
  .exact au h
  .exact ay (mx h)
def sX{h}l k(x:h):(cT l k x).length=l+1:=by unfold cT;simp;omega
def zjk{v H h}{F}(s:Δ p v H rows)(a:0<=h)(G:∀r∈F,(r.length:Int)=v+h/\∀x∈r,0<=x/\x<p):ic p v h F=(decide (h<=100)&&decide (F.length<=160)):=by apply qC;rw[mY,bN,cf,cf];exact⟨fun t=>⟨t.χ,t.n⟩,fun t=>⟨s.f,s.p2,s.p97,s.v0,s.Â,a,t.1,t.2,fun r D=>(G r D).1,fun r D=>(G r D).2⟩⟩
def zdz{x}(h:2<=p):0<=x%p/\x%p<p:=⟨gV _ Qu,gW _ Qu⟩
def mD p b xs ys:(dw p b xs ys).length=min xs.length ys.length:=by simp[dw]
def zhE{b}(F:2<=p):∀x∈dw p b xs ys,0<=x/\x<p:=by
 intro x D;unfold dw at D;obtain⟨k,h⟩:=eH.1 D;rw[ģ]at h;cases G:xs[k]?<;>cases H:ys[k]?<;>simp[G,H]at h
 subst h;exact zdz F
def zhF{b}(h:2<=p):∀x∈kq p b xs,0<=x/\x<p:=by intro x D;obtain⟨y,_,rfl⟩:=cH.1 D;exact zdz h
abbrev Ê(p n:Int)(r:aL):Prop:=(r:Int)=n/\∀x∈r,0<=x/\x<p
def Ey{n}{r}(g:Ê p n r)(h:k<r.length):Ê p (n-1) (r.eraseIdx k):=by refine⟨?_,fun x D=>g.2 x (AA D)⟩;rw[Ay h];have:=g.1;omega
def zdA{n}{r}(F:2<=p)(g:Ê p n r):Ê p (n+1) (cT r k 0):=by
 refine⟨?_,fun x D=>?_⟩
 .rw[sX];have:=g.1;omega
 .rcases Bw D with h|rfl
  .exact g.2 x h
  .omega
def Δ.zm4{v h}(s:Δ p v h rows):∀r∈rows,Ê p (v+h) r:=fun r D=>⟨s.ι r D,s.el r D⟩
def iJ{v I}(s:Δ p v I rows){k a b c}{row}(D:me p v I rows k a b c row=true):(∀r∈cG p v rows k a b c row (v+I).toNat,Ê p (v+fO k I) r)/\0<=fO k I/\(cG p v rows k a b c row (v+I).toNat).length<=161:=by
 have av:=s.n;have h0:=s.h0;have a0:=s.v0;have G:=s.zm4;have T:∀i:Int,0<=i->i<=(rows:Int)-1->Ê p (v+I) (rows.getD i.toNat []):=fun i Z ab=>G _ (mZ Qu)
 unfold me at D;unfold cG fO;by_cases Z:k=1
 .subst Z;simp only[p_,bN,dx]at D;obtain⟨⟨F,H⟩,⟨J,O⟩,_⟩:=D;refine⟨?_,Rb,QW⟩;simp;intro r h;rcases Ε h with h|rfl
  .rcases Ε h with h|rfl
   .exact G r h
   .exact T b J O
  .exact T a F H
 by_cases ab:k=2
 .subst ab;simp[dx,iG]at D;obtain⟨⟨F,H⟩,_⟩:=D;refine⟨?_,Rb,QW⟩;simp;intro r h;rcases Ε h with h|rfl
  .exact G r h
  .exact⟨by have:=(T a F H).1;simpa[kq]using this,zhF s.p2⟩
 by_cases ac:k=3
 .subst ac;simp[dx,iG]at D;obtain⟨⟨F,H⟩,⟨J,O⟩,_⟩:=D;refine⟨?_,Rb,QW⟩;simp;intro r h;rcases Ε h with h|rfl
  .exact G r h
  .refine⟨?_,zhE s.p2⟩;rw[mD];have U:=(T a F H).1;have Y:=(T b J O).1;simp only[bf]at U Y;omega
 by_cases ad:k=4
 .subst ad;refine⟨?_,Rb,by simp[pX];split<;>omega⟩;simp;intro r h;exact G r (AA h)
 by_cases U:k=5
 .subst U;refine⟨?_,Rb,by simp[sX];omega⟩;simp;intro r h;rcases Bw h with h|rfl
  .exact G r h
  .exact⟨QW,fun x ao=>by rw[List.eq_of_mem_replicate ao];have:=s.p2;omega⟩
 by_cases Y:k=6
 .subst Y;simp[dx]at D;obtain⟨⟨F,H⟩,⟨J,O⟩,_⟩:=D;refine⟨?_,QW,by simp[pX];split<;>omega⟩;simp;intro r h;obtain⟨q,hq,rfl⟩:=cH.1 (AA h);exact Yc
 by_cases ah:k=7
 .subst ah;simp[dx,il]at D;obtain⟨⟨F,H⟩,⟨J,O⟩,⟨a1,ap⟩,_⟩:=D;refine⟨?_,QW,by simp[sX];omega⟩;simp;intro r h;rcases Bw h with h|rfl
  .obtain⟨q,hq,rfl⟩:=cH.1 h;exact XG
  .exact⟨Qu,ap⟩
 by_cases am:k=8
 .subst am;simp[dx]at D;obtain⟨⟨J,O⟩,_⟩:=D;refine⟨?_,QW,QW⟩;simp;intro q hq;exact Yc
 by_cases an:k=9
 .subst an;simp[dx]at D;refine⟨?_,QW,QW⟩;simp;intro q hq;exact XG
 simp[*]at D
def sy{v h}(s:Δ p v h rows)k a b c row:nR p v h rows k a b c row=(pB k a b c row&&(me p v h rows k a b c row&&ic p v (fO k h) (cG p v rows k a b c row (v+h).toNat))):=by
 unfold nR;congr 1
 cases hc:me p v h rows k a b c row with
 |false=>
  rw[my];unfold me at hc;by_cases J:k=1
  .subst J;simpa using hc
  by_cases O:k=2
  .subst O;simp only[show(2:Int)=1↔False by decide,lp,p_]at hc ⊢;rw[<-hc];congr 1
   apply qC;simp[dx,iG];omega
  by_cases T:k=3
  .subst T;simp only[show(3:Int)=1↔False by decide,show(3:Int)=2↔False by decide,lp,p_]at hc ⊢;rw[<-hc,xi,xi];congr 3
   apply qC;simp[dx,iG];omega
  by_cases U:k=4
  .subst U;simp[Ϝ]at hc ⊢;exact hc
  by_cases Y:k=5
  .subst Y;simp at hc ⊢;intro h;rw[h]at hc;cases hc
  by_cases Z:k=6
  .subst Z;simp only[show(6:Int)=1↔False by decide,show(6:Int)=2↔False by decide,show(6:Int)=3↔False by decide,show(6:Int)=4↔False by decide,show(6:Int)=5↔False by decide,lp,p_]at hc ⊢;cases an:eU a 0 ((rows:Int)-1)with
   |false=>rfl
   |true=>obtain⟨D,H⟩:=dx.1 an;rw[an,Cb D H]at hc;exact hc
  by_cases ab:k=7
  .subst ab;refine OR fun hc=>?_
   cases a1:eU a 0 (rows:Int)<;>cases a2:eU b 0 h<;>cases a3:decide ((row:Int)=v+h+1)<;>cases a4:row.all (jY p)<;>cases a5:(row.getD (v+b).toNat 0 !=0)<;>simp_all
  by_cases ac:k=8
  .subst ac;simp[Ϝ,Cc]at hc ⊢;exact hc
  by_cases ad:k=9
  .subst ad;simp at hc ⊢;intro h;rw[h]at hc;cases hc
  simp[*]
 |true=>
  have⟨ah,am,a0⟩:=iJ s hc;rw[xm,zjk s am ah];clear ah am a0;have G:=s.n;have F:=s.χ;unfold me at hc;unfold cG fO;by_cases J:k=1
  .subst J;simp at hc ⊢;simp[hc,G,F]
  by_cases O:k=2
  .subst O;simp[dx,iG]at hc;simp[G,F];exact⟨dx.2 hc.1,dx.2 Qu⟩
  by_cases T:k=3
  .subst T;simp[dx,iG]at hc;simp[G,F];exact⟨⟨dx.2 hc.1,dx.2 hc.2.1,hc.2.2.1⟩,dx.2 Qu⟩
  by_cases U:k=4
  .subst U;simp at hc;simp[F,Ϝ,hc,pX];split<;>omega
  by_cases Y:k=5
  .subst Y;simp at hc;simp[F,hc,sX];omega
  by_cases Z:k=6
  .subst Z;simp only[show(6:Int)=1↔False by decide,show(6:Int)=2↔False by decide,show(6:Int)=3↔False by decide,show(6:Int)=4↔False by decide,show(6:Int)=5↔False by decide,lp,p_,bN]at hc ⊢;obtain⟨D,I,c1⟩:=hc;obtain⟨H,ao⟩:=dx.1 D;rw[D,I,<-Cb H ao];have c2:=c1.1;have ap:=c1.2;rw[c2,ap];simp[pX];refine⟨Qu,?_⟩;split<;>omega
  by_cases ab:k=7
  .subst ab;refine OR fun hc=>?_
   simp only[bN]at hc;obtain⟨D,I,⟨c1,d1⟩,av⟩:=hc;rw[D,I,c1,d1,av];apply qC;simp[sX];omega
  by_cases ac:k=8
  .subst ac;simp[Cc]at hc;simp[Ϝ,hc,G];omega
  by_cases ad:k=9
  .subst ad;simp at hc;simp[hc,G];omega
  simp[*]at hc
structure j8 where
 k:Int
 a:Int
 b:Int
 c:Int
 row:List Int
structure Sy where
 v:Int
 h:Int
 rows:List (List Int)
def iQ(p:Int)(s:Sy)(x:j8):Sy:=⟨s.v,fO x.k s.h,cG p s.v s.rows x.k x.a x.b x.c x.row (s.v+s.h).toNat⟩
def vO(p:Int)(s:Sy)(x:j8):Bool:=nR p s.v s.h s.rows x.k x.a x.b x.c x.row
def Sy.Ok(p:Int)(s:Sy):Prop:=Δ p s.v s.h s.rows
def zhV{s}{x}(D:s.Ok p)(h:vO p s x=true):(iQ p s x).Ok p:=by unfold vO at h;rw[sy D,bN,bN]at h;exact mY.1 h.2.2
def iU(p:Int):Sy->List j8->Nat->Sy
 |s,[],_=>s
 |s,_::_,0=>s
 |s,x::xs,n+1=>iU p (iQ p s x) xs n
def eL(p:Int):Sy->List j8->Nat
 |_,[]=>0
 |s,x::xs=>if vO p s x=true then eL p (iQ p s x) xs+1 else 0
def mG p s xs:iU p s xs 0=s:=by cases xs<;>rfl
def qJ{p}{x}:∀{xs:List j8} {s:Sy} {i:Nat},xs[i]?=some x->iU p s xs (i+1)=iQ p (iU p s xs i) x
 |[],_,_,h=>QO
 |y::ys,s,0,h=>by simp at h;subst h;simp[iU,mG]
 |y::ys,s,i+1,h=>by simp only[dm]at h;exact qJ (xs:=ys) (s:=iQ p s y) (i:=i) h
def pk p:∀(xs:List j8) (s:Sy),eL p s xs<=xs.length
 |[],_=>ae _
 |x::xs,s=>by
  have:=pk p xs (iQ p s x);unfold eL;split
  .simp;omega
  .omega
def ċ{p}{x}:∀{xs:List j8} {s:Sy} {i:Nat},i<eL p s xs->xs[i]?=some x->vO p (iU p s xs i) x=true
 |[],_,_,_,h=>QO
 |y::ys,s,i,hi,h=>by
  unfold eL at hi;split at hi
  .rename_i D;cases i with
   |zero=>simp at h;subst h;rw[mG];exact D
   |succ i=>
    simp only[dm]at h;exact ċ (xs:=ys) (s:=iQ p s y) (i:=i) Qu h
  .omega
def Ű{p}{x}:∀{xs:List j8} {s:Sy} {i:Nat},i=eL p s xs->xs[i]?=some x->vO p (iU p s xs i) x=false
 |[],_,_,_,h=>QO
 |y::ys,s,i,hi,h=>by
  unfold eL at hi;split at hi
  .cases i with
   |zero=>omega
   |succ i=>
    simp only[dm]at h;exact Ű (xs:=ys) (s:=iQ p s y) (i:=i) Qu h
  .rename_i D;subst hi;simp at h;subst h;rw[mG];simpa using D
def zdV{s}{xs}{x}(hi:i<=eL p s xs)(F:xs[i]?=some x)(D:vO p (iU p s xs i) x=true):i+1<=eL p s xs:=by
 rcases Dk hi with h|h
 .exact h
 .rw[Ű h F]at D;cases D
def zdW{s}{xs}{x}(hi:i<=eL p s xs)(F:xs[i]?=some x)(D:vO p (iU p s xs i) x=false):eL p s xs=i:=by
 rcases Dk hi with h|h
 .rw[ċ h F]at D;cases D
 .exact h.q
def vP{p}{s}{xs}(h:s.Ok p):∀{i:Nat},i<=eL p s xs->(iU p s xs i).Ok p
 |0,_=>by rw[mG];exact h
 |i+1,hi=>by have F:=pk p xs s;have D:xs[i]?=some xs[i]:=di Qu;rw[qJ D];exact zhV (vP h Qu) (ċ Qu D)
structure Small(s:Sy):Prop where
 n:s.rows.length<=160
 ι:∀r∈s.rows,r.length<=1000
def da(h:Sy)(D F):M (#[.int .i64 h.v,.int .i64 h.h,.slice D h.rows F]:Array Value):=⟨⟩
def pN(D F Y Z ab ac ad ah am an)(h:Sy)(G H I J O T U):M (#[.int .i64 (D:Nat),.slice F Y Z,.slice ab ac ad,.slice ah am an,.int .i64 h.v,.int .i64 h.h,.slice G h.rows H,.int .i64 (I:Nat),.int .i64 (J:Nat),.slice O T U]:Array Value):=⟨⟩
def CS(h:Sy)(D F G):M (#[.int .i64 h.v,.int .i64 h.h,.slice D F G]:Array Value):=⟨⟩
def Sy.Ok.β{s}(h:s.Ok p):Small s:=⟨Δ.n h,fun r D=>by have:=Δ.ι h r D;have:=Δ.Â h;have:=Δ.χ h;omega⟩
section
variable{B:Nat}{t:dL}{u:aG}
def oe(h:n<=1048576):n<=maxLen:=SL
def CG(h:aY w B (.slice A n c) rows):bt w A rows:=XM
def ai{o}(h:w.heap[b]?=some o)(D:ag w w'):w'.heap[b]?=some o:=(D.block b (bk.1 h).1).t h
def nL{o}(h:w.heap[b]?=some o)(F:b_ lo hi w w')(D:b<lo∨hi<=b):w'.heap[b]?=some o:=(F.block b (bk.1 h).1 D).t h
def aD{x y}(h:bA w b #[x,y,z] t):af w b 0 x/\af w b 1 y/\af w b 2 z:=by have⟨D,F,G,_⟩:=Ϛ (al _ _) h;exact⟨D,F,G⟩
def fg{x y}(h:bA w b #[x,y,z,u,v] t):af w b 0 x/\af w b 1 y/\af w b 2 z/\af w b 3 u/\af w b 4 v:=by have⟨D,_⟩:=ϭ (al _ _) h;exact D
section
variable{w2:aa}{E8 E10 E11 E12:gg}{v8 v10 v11 v12:aG}{r8:aL}{R10:aP}{r11 r12:aL}{l8 h8 b8 l10 h10 b10 l11 h11 b11 l12 h12 b12:Nat}{W W':aa}
end
end
def lv{E}(H:o.guard=none)s x(I:o.op=.call {callee:=.builtin .append,args:=#[s,x],argTypes:=#[55,55]})B h W v u rows r(FT:aY h B v rows)(D:ag h W)(hu:aE W h u r)(ad:rows.length+1<=1073741824)(G:B<=(h:Nat))(T:a.eval s=v)(U:a.eval x=.slice (bH W) 1 1)(F:∀g ε w',aY w' B (.slice (bH g) (rows.length+1) ε) (rows++[r])->Below B h w'->(W:Nat)<=w'.heap.size->(∀k,k < (W:Nat)->some k≠v.ownBlock->w'.heap[k]?=W.heap[k]?)->K (a.put o.dst (.slice (bH g) (rows.length+1) ε)) w'):if Region.wanted o (yielded ops a.tmps)=true then Oper.wp prog o a (W.alloc (.cells #[u] 26)) K Q else E:=by
 have⟨ac,hi,Y,Z,ab⟩:=dp kX;obtain⟨us,FT⟩:=FT;have hW:=FT.ext D;have J:=nm hW.η (.cells #[u] 26);have ah:=D.size;refine step_append_lies _ H s x 55 I B 26 ac (.slice none 0 0) 1 24 iA hi Y Z ab rfl Qw v _ _ T J ⟨W,0,none⟩ 1 1 [u] U rfl ?_ ?_ Qw ?_ ?_ ?_ _ rfl ?_
 .exact X9
 .exact Xo
 .unfold maxLen;omega
 .omega
 .simp;omega
 .intro g ε w' O Gx _ _;refine Pc fun hg=>?_
  refine F g ε w' ⟨us++[u],?_,?_,?_⟩ (D.x G |>.t ((al _ _).grown hg Qu fun k hk=>(bS hW.η k hk).1)) hg.size (fun k hk F0=>hg.block k hk F0)
  .simpa using O
  .exact Zt
  .exact ZL
def StO(v h:Int)(rows:aP)(w:aa)(k:Nat)(wr:aa):Prop:=
 ag w wr/\∃u,bA wr ((w:Nat)+1+1) (en v h u) 57/\bA wr ((w:Nat)+1) bx 57/\
  aY wr ((w:Nat)+3) u (rows.take k)/\(w:Nat)+3<=wr
def kL v h A ε rows w(a0:bt w A rows)(b6:rows.length<=1048576)(a5:∀r∈rows,r.length<=1048576):az 94 (cY (aA v h A rows ε)) w fun e w'=>∃u,e=.returned (.agg (en v h u))/\aY w' w u rows/\ag w w':=by
 have bb:=zH a5;go_enter func94,ntmps94
 go_wp2;go_loopw [14] (fun i wr=>∃k:Nat,k<=rows.length/\i=.int .i64 k/\StO v h rows w k wr) (fun i _=>rows.length-(intOf i).toNat)
 case atStart=>
  have⟨b9,F,G⟩:=cD w (.cells (aA v h A rows ε) 57) (.cells bx 57) (.cells #[v,h,dE] 57);exact⟨0,aW _,rfl,ζ w _ _ _,.slice none 0 0,G,F,(Κ.nil _ _ 0).μ,Qt⟩
 case round=>
  obtain⟨k,b5,rfl,J,u,G,F,D,Z⟩:=hrel;by_cases a4:k<rows.length
  .have⟨r,Y⟩:=aq a4;obtain⟨b3,o,rfl,a2⟩:=(a0.ext J).θ a4;obtain⟨a8,bo,b4,a3⟩:=a2 _ r Y;have⟨ba,Im,bi,ac,HO,bg,bd,ad⟩:=ð a3 (bb r (aU Y)) Y J D G F Z;obtain⟨H,I,a6⟩:∃H I,u=.slice H (rows.take k) I:=by obtain⟨A1,c1,e,_⟩:=D.p;exact⟨A1,c1,e⟩
   have⟨bz,b0,ao⟩:=aD G;rw[show(rows.take k).length=k by simp;omega]at a6;subst a6;go_upto_region 5 with(fail)
   refine cU (S:=fun W=>af W ((w:Nat)+1+1) 2 (.slice H k I)) 7 QT QD (fun hHeld=>?_);refine aM 0 ?_;refine aM 1 ?_;refine aM 2 ?_;refine cm 3 fun K hK=>?_
   go_simp;refine(iR a8 bo r _ (ba.ext (al _ _).drew) SK).x ?_;rintro e bv ⟨u2,rfl,am,a1⟩;obtain⟨a9,c2,rfl,_⟩:=am.p;have⟨O,bn⟩:=bJ ((al wr wr).drew.t a1) am;go_simp;refine hK.out _ _ (fun _=>ar O ao) (fun hHeld=>?_);refine Mr fun hHeld=>?_
   refine cm 4 fun K hK=>?_
   go_simp;refine hK.out _ _ (fun _=>ar (O.alloc O.size _) ao) (fun hHeld=>?_);refine Mr fun hHeld=>?_
   refine cm 5 fun K hK=>?_
   refine lv rfl (.tmp 19) (.tmp 22) rfl ((w:Nat)+3) wr bv (.slice H k I) (.slice a9 r c2) (rows.take k) r HO.o O.o bn.o QW ad.o rfl rfl ?_;intro g T ab ah U _ _;rw[show(rows.take k).length+1=k+1 by simp;omega]at ah ⊢;have an:ab.heap[(w:Nat)+1+1]?=_:=(U.block _ Qu).t bg;have a7:ab.heap[(w:Nat)+1]?=_:=(U.block _ Qu).t bd;have⟨b1,b2,ap,f0,f1,f2⟩:=Ϛ (al _ _) an;have⟨bh,be,bc,av⟩:=gG an a7 ah U;refine hK.out _ _ (fun _=>ap) (fun hHeld=>?_);refine Mr fun hHeld=>?_
   refine cm 6 fun K hK=>?_
   go_simp;refine hK.out _ _ (fun _=>ap) (fun hHeld=>?_);refine Mr fun hHeld=>?_
   refine Ny fun K hK=>?_
   refine Qn ?_;refine gM QT ?_ _;go_wp2;go_roundw
   case rel=>
    have bq:=bE ab ((w:Nat)+1+1) 2 _ _ (.slice (bH g) (k+1) T) bh;have bp:=(eX ab ⟨(w:Nat)+1+1,2,none⟩ ((w:Nat)+1) (.slice (bH g) (k+1) T) Rs).t be;have b8:=av.size;have b7:=ad.o;refine⟨k+1,Qu,Qx,?_,.slice (bH g) (k+1) T,by simpa using bq,bp,?_,?_⟩
    .exact(ac.t (av.x Qu)).setCell Rs _
    .have br:=bc.setCell (a:=⟨(w:Nat)+1+1,2,none⟩) Rs (.slice (bH g) (k+1) T);rw[du,bi.o];exact br
    .simp;omega
   case measure=>simp[intOf];omega
  .have bu:k=rows.length:=Qu;subst bu;have⟨bz,b0,ao⟩:=aD G;have⟨b1,b2,ap⟩:=aD F;have⟨_,_,_,f0,f1,f2⟩:=Ϛ (al _ _) F;rw[uA]at D;obtain⟨H,I,rfl,_⟩:=D.p;have⟨HO,ac,ad⟩:=er D J Z;go_wp2;refine aI (v:=.agg (aA v h H rows I)) (by simp[results,results94,go_sem, *]) rfl ⟨_,rfl,?_,?_⟩
   .exact Ym
   .exact((ac.setCell Rs _).setCell Rs _).setCell Rs _
section
variable{B:Nat}
def oh(J:o.guard=none)s x(U:o.op=.call {callee:=.builtin .append,args:=#[s,x],argTypes:=#[55,55]})B(W:aa)v n m us ys A c(Z:a.eval s=v)(ab:a.eval x=.slice (some A) m c)(ao:ys.length=m)(F:W.ownsRow B 26 1 v n us)(I:∀j y,ys[j]?=some y->W.cell? (A.add j)=some y)(H:∀u∈ys,u.oneCell'=true)(an:n+m<=1073741824)(D:B<=(W:Nat))(G:∀h w',w'.ownsRow B 26 1 h (n+m) (us++ys)->Below B W w'->wpList prog ops Q rest (a.put o.dst h) w'):wpList prog ops Q (o::rest) a W:=by
 have⟨am,hi,ac,ad,ah⟩:=dp kX;refine C6 _ J s x 55 U B 26 am (.slice none 0 0) 1 24 iA hi ac ad ah rfl Qw v _ _ Z F A m c ys ab Qu I H ?_ ?_ D ?_
 .unfold maxLen;omega
 .omega
 .intro h w' Y O _;exact G h w' Y ((al _ _).grown O D fun k T=>(bS F k T).1)
def xO(D:o.guard=none)s x(F:o.op=.call {callee:=.builtin .append,args:=#[s,x],argTypes:=#[55,55]})B W v n c us(I:a.eval s=v)(J:a.eval x=.slice none 0 c)(G:W.ownsRow B 26 1 v n us)(h:wpList prog ops Q rest (a.put o.dst v) W):wpList prog ops Q (o::rest) a W:=by
 have⟨O,hi,T,U,Y⟩:=dp kX;refine l7 D fun K hK=>?_
 have H:=iZ (P:=prog) (w:=W) B 55 o.type 26 O 1 iA hi v _ c _ G;unfold Oper.wp;simp[execOp,F,resolve,invoke,builtin,I,J,H,Result.andThen];exact hK _ _ h
def EV(W:aa)B(h:B<=(W:Nat)):(W.alloc (.cells #[] 26)).ownsRow B 26 1 (.slice (bH W) 0 0) 0 []:=Db W #[] 0 h Qw rfl
def Š(w:aa)u:∀(j:Nat) (y:aG),[u][j]?=some y->(w.alloc (.cells #[u] 26)).cell? ((⟨w,0,none⟩:dM).add j)=some y:=by
 intro j y h
 match j,h with
 |0,h=>simp at h;subst h;simp[Addr.add]
 |j+1,h=>simp at h
def zjI(w:aa)o u:∀(j:Nat) (y:aG),[u][j]?=some y->((w.alloc o).alloc (.cells #[u] 26)).cell? ((⟨(w:Nat)+1,0,none⟩:dM).add j)=some y:=by intro j y h;have:=Š (w.alloc o) u j y h;simpa only[dV]using this
def zgl A n c:∀u∈[Value.slice A n c],u.oneCell'=true:=by intro u h;simp at h;subst h;rfl
def xP B g n ε k us F H G w(a5:w.ownsRow B 26 1 (.slice (bH g) n ε) n us)(Z:∀u∈us,u.oneCell'=true)(bi:k<=n)(bo:n<=1048576):az 141 #[.slice (bH g) n ε,k,.slice F H G] w fun e w'=>∃a0,e=.returned a0/\w'.ownsRow w 26 1 a0 (n+1) (cT us k (.slice F H G))/\ag w w':=by
 obtain⟨T,a9⟩:=a5;rcases a9 with⟨bc,_⟩|⟨bg,be,F9,bb,a6,O,bp,a7,am,G9⟩
 .cases bc
 cases bb
 simp only[fk]at T am G9;refine Ou fun Gk=>?_
 have an:=(bk.1 O).1;have cell:∀W,ag w W->∀t u,us[t]?=some u->af W g t u:=fun W D t u h=>by
  have ht:t<n:=by have:=(bG.1 h).1;omega
  rw[bB ((D.block g an).t O),Gk t ht,h]
 obtain⟨A,bh,ba⟩:∃A:dM,(if ε=k then some (⟨g,0,none⟩:dM) else some ⟨g,k,none⟩)=some A/\Hd (∀W,ag w W->∀t u,(us.drop k)[t]?=some u->W.cell? (A.add t)=some u):=by
  by_cases ah:ε=k
  .refine⟨⟨g,0,none⟩,by simp[ah],fun W D t u h=>?_⟩;rw[jR Qu]at h;simp at h
  .refine⟨⟨g,k,none⟩,by simp[ah],fun W D t u h=>?_⟩;rw[fQ]at h;rw[dF];exact cell W D _ _ h
 have a8:Hd (∀W,ag w W->∀t u,(us.take k)[t]?=some u->W.cell? ((⟨g,0,none⟩:dM).add t)=some u):=by
  intro W D t u h;rw[dF,jU];rw[iM]at h;split at h
  .exact cell W D _ _ h
  .cases h
 have⟨Y,U⟩:=bJ T Z;have bn:k<=ε:=Qu;unfold maxLen at a7;go_enter func141,ntmps141
 go_wp2_with (first|(at_builtin;refine oh rfl (.tmp 8) (.tmp 11) rfl w _ _ 0 k [] (us.take k) ⟨g,0,none⟩ ε rfl rfl (by rw[cQ,Y.o];omega) (EV _ _ (ae _)) (a8.o _ ((al _ _).alloc (ae _) _)) (fun u h=>U u (AG h)) Qu Qt ?_;intro v1 bd ao ab;have I:=zH (((al w w).alloc (ae _) (.cells #[] 26)).t ab);have a2:=zH ao)|(at_builtin;refine oh rfl (.tmp 13) (.tmp 15) rfl w _ v1 (0+k) 1 ([]++us.take k) [.slice F H G] ⟨bd,0,none⟩ 1 rfl rfl rfl (nm a2 _) (Š _ _) (zgl _ _ _) Qu (by have:=I.size;simp;omega) ?_;intro v2 bq ap ac;have J:=zH ((I.alloc I.size _).t ac);have a3:=zH ap)|(at_builtin;refine oh rfl (.tmp 17) (.tmp 20) rfl w _ v2 (0+k+1) (n-k) ([]++us.take k++[.slice F H G]) (us.drop k) A (ε-k) rfl rfl (by rw[fS,Y.o]) a3.o (ba.o _ J.o) (fun u h=>U u (mx h)) Qu J.o.size ?_;intro v3 br av ad;have a1:=zH (J.o.t ad);have a4:=zH av))
 go_ret
 refine⟨_,rfl,?_,a1⟩;have:=a4.o;rw[show 0+k+1+(n-k)=n+1 by omega,rP,fJ]at this;exact this
def zbT h F D w:az 141 #[dE,(),.slice h F D] w fun e w'=>∃J,e=.returned J/\w'.ownsRow w 26 1 J (0+1) (cT [] 0 (.slice h F D))/\ag w w':=by
 go_enter func141,ntmps141
 go_wp2_with (first|(at_builtin;refine xO rfl (.tmp 8) (.tmp 11) rfl w _ _ 0 _ [] rfl rfl (EV _ _ (ae _)) ?_)|(at_builtin;refine oh rfl (.tmp 13) (.tmp 15) rfl w _ _ 0 1 [] [.slice h F D] ⟨(w:Nat)+1,0,none⟩ 1 rfl rfl rfl (nm (EV w _ (ae _)) _) (zjI _ _ _) (zgl _ _ _) Qu Rs ?_;intro v2 T I H;have O:=zH ((((al w w).alloc (ae _) _).alloc Qt _).t H);have G:=zH I)|(at_builtin;refine xO rfl (.tmp 17) (.tmp 20) rfl w _ v2 (0+1) _ _ rfl rfl G.o ?_))
 go_ret
 exact⟨_,rfl,G,O⟩
def zP B v(k:Int)us n h G D(w:aa)(F:w.ownsRow B 26 1 v n us)(H:∀u∈us,u.oneCell'=true)(O:0<=k)(Y:k<=n)(T:n<=1048576):az 141 #[v,k,.slice h G D] w fun e w'=>∃I,e=.returned I/\w'.ownsRow w 26 1 I (n+1) (cT us k.toNat (.slice h G D))/\ag w w':=by
 obtain⟨j,rfl⟩:=iz O;by_cases J:n=0
 .subst J;obtain rfl:j=0:=Qu;obtain rfl:us=[]:=iq (by have:=F.1;omega);rcases F.2 with⟨rfl,_⟩|⟨g,ε,U,rfl,_⟩
  .exact zbT h G D w
  .exact xP B g 0 ε 0 [] h G D w F H (ae _) (aW _)
 .obtain⟨g,ε,rfl,_⟩:=pW F Qu;exact xP B g n ε j us h G D w F H Qu T
def za3(w:aa){E}(ac:o.guard=none)l c t(ah:o.op=Op.makeSlice t l c)h e i z size(J:P.underlying t=some (.slice e))(O:P.info? e=some i)(T:i.zero=some z)(U:i.size=size)F D L C(n:Nat)(ad:a.eval l=.int F L)(ab:a.eval c=.int D C)(Z:L=(n:Int))(Y:C=(n:Int))(G:i.bytes*n<=281474976710656)(H:n<=maxLen)(I:h<=(w:Nat))(hK:∀w',w'.ownsRow h e size (.slice (bH w) n n) n (madeCells z.cells (n*size)).toList->w.grownBy w' none->K (a.put o.dst (.slice (bH w) n n)) w'):if Region.wanted o (yielded ops a.tmps)=true then Oper.wp P o a w K Q else E:=by rw[ak (by simp[Region.wanted,ac]:Region.wanted o (yielded ops a.tmps)=true)];have⟨w',am,an,ao⟩:=run_make_full (P:=P) w h t e i z size J O T U F D n G H I;subst Z;subst Y;unfold Oper.wp;simp[execOp,ah,ad,ab,am,Result.andThen];exact hK w' an ao
def zQ{e}(h:w.ownsRow B e 1 v n us)(I:B'<=B):w.ownsRow B' e 1 v n us:=⟨h.1,h.2.E id fun⟨g,ε,G,D,H,F⟩=>⟨g,ε,G,D,Qu,F⟩⟩
def gz{r}(h:ag w w'):w.grownBy w' r:=⟨h.os,h.tape,h.output,h.size,fun k D _=>h.block k D⟩
def wO p x y w(H:1<=p)(I:p<=1000)(D:0<=x)(F:x<=1000)(h:0<=y)(G:y<=1000):az 139 (gT p x y) w fun e w'=>e=.returned (zI (x*y%p))/\w=w':=by
 have J:0<=x*y:=rS D h;have O:x*y<=1000000:=by have:=uB F G h Qu;omega
 go_enter func139,ntmps139
 exact We
def za4 p x y w(h:1<=p)(D:p<=1000)(F:0<=x)(G:x<=1000)(H:0<=y)(I:y<=1000):az 140 (gT p x y) w fun e w'=>e=.returned (zI ((x+y)%p))/\w=w':=by
 go_enter func140,ntmps140
 exact We
end
def bW(f:Nat->Int):Nat->Int
 |0=>0
 |n+1=>bW f n+f n
def bF{f g}:∀{n:Nat},(∀c,c<n->f c=g c)->bW f n=bW g n
 |0,_=>rfl
 |n+1,h=>by rw[bW,bW,bF fun c D=>h c Qu,h n Qu]
def gQ{f}:∀{n:Nat},(∀c,c<n->f c=0)->bW f n=0
 |0,_=>rfl
 |n+1,h=>by rw[bW,gQ fun c D=>h c Qu,h n Qu];rfl
def iC{f}{k}:∀{n:Nat},k<n->(∀c,c<n->c≠k->f c=0)->bW f n=f k
 |0,h,_=>Qu
 |n+1,H,h=>by
  rw[bW];by_cases F:k=n
  .subst F;rw[gQ fun c D=>h c Qu Qu];omega
  .rw[iC Qu fun c D G=>h c Qu G,h n Qu Qu];omega
def kI f g:∀(n:Nat),bW (fun c=>f c+g c) n=bW f n+bW g n
 |0=>rfl
 |n+1=>by rw[bW,bW,bW,kI f g n];omega
def lH a f:∀(n:Nat),bW (fun c=>a*f c) n=a*bW f n
 |0=>by simp[bW]
 |n+1=>by rw[bW,bW,lH a f n,Aq]
def vN{p}{f}:∀{n:Nat},(∀c,c<n->p∣f c)->p∣bW f n
 |0,_=>⟨0,by simp[bW]⟩
 |n+1,h=>ir (vN fun c D=>h c Qu) (h n Qu)
def eN{p}{f g}:∀{n:Nat},(∀c,c<n->p∣f c-g c)->p∣bW f n-bW g n
 |0,_=>⟨0,by simp[bW]⟩
 |n+1,h=>by have:=ir (eN (n:=n) fun c D=>h c Qu) (h n Qu);rw[bW,bW];rwa[show bW f n+f n-(bW g n+g n)=bW f n-bW g n+(f n-g n) by omega]
structure mi(p:Int)(n m:Nat)(A:Nat->Nat->Int)(l:gN):Prop where
 bd:∀i c,i<m->c<n->0<=A i c/\A i c<p
 ln:∀i,i<m->l i<n
 Ν:∀i j,i<j->j<m->l i<l j
 ψ:∀i,i<m->A i (l i)=1
 À:∀i c,i<m->c<l i->A i c=0
 Å:∀i j,i<m->j<m->i≠j->A i (l j)=0
def Cz(p:Int)(n m:Nat)(A:Nat->Nat->Int)(x:Nat->Int):Prop:=∀i,i<m->p∣bW (fun c=>A i c*x c) n
def mo(A:Nat->Nat->Int)(l:gN)(m j:Nat)(c:Nat):Int:=(if c=j then 1 else 0)-bW (fun i=>if l i=c then A i j else 0) m
section
variable{p:Int}{n m:Nat}{A B:Nat->Nat->Int}{l:gN}
def mi.inj(D:mi p n m A l)(hi:i<m)(F:j<m)(e:l i=l j):i=j:=by
 rcases An i j with h|h|h
 .have:=D.Ν i j h F;omega
 .exact h
 .have:=D.Ν j i h hi;omega
def tP(h:mi p n m A l)(hi:i<m)(F:l i≠j):mo A l m j (l i)=- A i j:=by unfold mo;rw[aj F,iC hi (fun c D G=>aj (fun e=>G (h.inj D hi e))),ak rfl];omega
def kt(h:∀i,i<m->l i≠c):mo A l m j c=if c=j then 1 else 0:=by unfold mo;rw[gQ fun i hi=>aj (h i hi)];omega
def zdT(J:mi p n m A l)(O:mi p n m B l)(hi:i<m)(T:j<n)(F:∀i,i<m->l i≠j):bW (fun c=>B i c*mo A l m j c) n=B i j-A i j:=by
 have e:∀c,c<n->B i c*mo A l m j c=(if c=j then B i j else 0)+(if c=l i then - A i j else 0):=by
  intro c U;by_cases h:c=j
  .subst h;rw[kt F,ak rfl,ak rfl,aj (fun e=>F i hi e.q)];omega
  .rw[aj h];by_cases D:c=l i
   .subst D;rw[tP J hi (F i hi),O.ψ i hi,ak rfl];omega
   .rw[aj D];by_cases I:∃k,k<m/\l k=c
    .obtain⟨k,G,rfl⟩:=I;have:k≠i:=fun e=>D Qv
     rw[O.Å i k hi G (k_ this)];simp
    .rw[kt (fun k G e=>I ⟨k,G,e⟩),aj h];simp
 rw[bF e,kI,iC T (fun c _ H=>aj H),iC (J.ln i hi) (fun c _ H=>aj H),ak rfl,ak rfl];omega
def wP(h:mi p n m A l)(F:j<n)(D:∀i,i<m->l i≠j):Cz p n m A (mo A l m j):=fun i hi=>by rw[zdT h h hi F D];exact⟨0,Qu⟩
def zfu(F:mi p n m A l)(H:∀i,i<m->l i≠j)(G:j<c):mo A l m j c=0:=by
 by_cases D:∃k,k<m/\l k=c
 .obtain⟨k,h,rfl⟩:=D;rw[tP F h (H k h),F.À k j h G];rfl
 .rw[kt (fun k h e=>D ⟨k,h,e⟩),aj Qu]
def zjJ(D:mi p n m A l)(hi:i<m){x}(J:Cz p n m A x)(O:∀c,l i<c->c<n->p∣x c):p∣x (l i):=by
 have F:p∣bW (fun c=>A i c*x c) n-bW (fun c=>if c=l i then x (l i) else 0) n:=by
  refine eN fun c G=>?_
  rcases An c (l i)with h|h|h
  .rw[D.À i c hi h,aj Qu];exact⟨0,Qt⟩
  .subst h;rw[D.ψ i hi,ak rfl];exact⟨0,Qu⟩
  .rw[aj Qu];obtain⟨k,H⟩:=O c h G;exact⟨A i c*k,by rw[H,AK,Int.mul_left_comm]⟩
 rw[iC (D.ln i hi) (fun c _ I=>aj I),ak rfl]at F;have:=eY (J i hi) F;rwa[show bW (fun c=>A i c*x c) n-(bW (fun c=>A i c*x c) n-x (l i))=x (l i) by omega]at this
end
def Ŏ{p}{n m}{A B}{l D}(U:2<=p)(G:mi p n m A l)(H:mi p n J B D)(O:∀x,Cz p n J B x->Cz p n m A x)(hi:i<m):∃k,k<J/\D k=l i:=by
 by_cases I:∃k,k<J/\D k=l i
 .exact I
 .have F:∀k,k<J->D k≠l i:=fun k T e=>I ⟨k,T,e⟩
  have h:=zjJ G hi (O _ (wP H (G.ln i hi) F)) (fun c h _=>by rw[zfu H F h];exact⟨0,Qt⟩);rw[kt F,ak rfl]at h;have:=Int.le_of_dvd Qu h;omega
def za6{p}{n m}{A B}{l D}(G:mi p n m A l)(H:mi p n J B D)(O:∀i,i<m->∃k,k<J/\D k=l i)(T:∀i,i<J->∃k,k<m/\l k=D i):∀i,i<m->i<J/\D i=l i:=by
 intro i;induction i using Nat.strongRecOn with
 |ind i ih=>
  intro hi;obtain⟨k,Z,ad⟩:=O i hi;have U:i<=k:=by
   rcases xp k i with h|h
   .have:=(ih k h Qu).2;have:=G.Ν k i h hi;omega
   .exact h
  have F:i<J:=Qu;have ab:D i<=l i:=by
   rcases Dk U with h|h
   .have:=H.Ν i k h Z;omega
   .subst h;omega
  obtain⟨q,I,eq⟩:=T i F;have Y:i<=q:=by
   rcases xp q i with h|h
   .have:=(ih q h I).2;have:=H.Ν q i h F;omega
   .exact h
  have ac:l i<=D i:=by
   rcases Dk Y with h|h
   .have:=G.Ν i q h I;omega
   .subst h;omega
  exact⟨F,Qu⟩
def zfv{p}{n m}{A B}{l av}(Z:2<=p)(h:mi p n m A l)(D:mi p n J B av)(O:∀x,Cz p n m A x↔Cz p n J B x):m=J/\∀i,i<m->∀c,c<n->A i c=B i c:=by
 have am:=fun i (hi:i<m)=>Ŏ Z h D (fun x=>(O x).2) hi
 have an:=fun i (hi:i<J)=>Ŏ Z D h (fun x=>(O x).1) hi
 have I:=za6 h D am an;have ao:=za6 D h an am;have ah:m=J:=by
  rcases An m J with F|F|F
  .have:=(ao m F).1;omega
  .exact F
  .have:=(I J F).1;omega
 refine⟨ah,fun i hi c G=>?_⟩;subst ah;have U:mi p n m B l:=⟨D.bd,h.ln,h.Ν,fun i hi=>by rw[<-(I i hi).2];exact D.ψ i hi,fun i c hi G=>D.À i c hi (by rw[(I i hi).2];exact G),fun i j hi ad ap=>by rw[<-(I j ad).2];exact D.Å i j hi ad ap⟩;by_cases F:∃k,k<m/\l k=c
 .obtain⟨k,H,rfl⟩:=F;by_cases Y:i=k
  .subst Y;rw[h.ψ i hi,U.ψ i hi]
  .rw[h.Å i k hi H Y,U.Å i k hi H Y]
 .have ac:∀k,k<m->l k≠c:=fun k H e=>F ⟨k,H,e⟩
  have ab:=(O _).1 (wP h G ac) i hi;rw[zdT h U hi G ac]at ab;have a0:=h.bd i c hi G;have a1:=D.bd i c hi G;obtain⟨k,H⟩:=ab;have:k=0:=by
   rcases Int.lt_trichotomy k 0 with T|T|T
   .have:=Ĕ (Qu:k<=-1) (Qu:0<=p);omega
   .exact T
   .have:=Ĕ (Qu:1<=k) (Qu:0<=p);omega
  subst this;omega
def sW(f:Nat->Nat->Int)m:∀(n:Nat),bW (fun a=>bW (fun b=>f a b) m) n=bW (fun b=>bW (fun a=>f a b) n) m
 |0=>by rw[bW];exact(gQ fun _ _=>rfl).q
 |n+1=>by rw[bW,sW f m n,<-kI];exact bF fun c _=>rfl
def mX a f n:bW (fun c=>f c*a) n=bW f n*a:=by rw[gU,<-lH];exact bF fun c _=>gU _ _
def jv{p a b:Int}(h:p∣a-b)(D:p∣b):p∣a:=by have:=ir h D;rwa[show a-b+b=a by omega]at this
def mJ{p a b c:Int}(h:p∣a-b):p∣a*c-b*c:=by rw[<-mz];exact kH h ⟨c,rfl⟩
section
open Classical
variable{p:Int}{n m:Nat}{A:Nat->Nat->Int}{l:gN}
def mK(l:gN)(m j:Nat):Prop:=∀i,i<m->l i≠j
def zhx(D:mi p n m A l){x}(Z:Cz p n m A x)(T:c<n):p∣x c-bW (fun j=>if mK l m j then x j*mo A l m j c else 0) n:=by
 by_cases h:mK l m c
 .rw[iC T (fun j _ I=>by
   split
   .rw[kt h,aj (k_ I),jh]
   .rfl),ak h,kt h,ak rfl]
  exact⟨0,Qu⟩
 .obtain⟨i,hi,rfl⟩:∃i,i<m/\l i=c:=AD fun F=>h fun i hi e=>F ⟨i,hi,e⟩
  have J:bW (fun j=>if mK l m j then x j*mo A l m j (l i) else 0) n=- bW (fun j=>if mK l m j then A i j*x j else 0) n:=by
   rw[show - bW (fun j=>if mK l m j then A i j*x j else 0) n=-1*bW (fun j=>if mK l m j then A i j*x j else 0) n by omega,<-lH];refine bF fun j ac=>?_
   split
   .rename_i U;rw[tP D hi (U i hi),AL,gU];omega
   .rfl
  have O:bW (fun c=>A i c*x c) n=x (l i)+bW (fun j=>if mK l m j then A i j*x j else 0) n:=by
   rw[show x (l i)=bW (fun c=>if c=l i then x (l i) else 0) n by rw[iC (D.ln i hi) (fun c _ I=>aj I),ak rfl],<-kI];refine bF fun c ab=>?_
   by_cases G:c=l i
   .subst G;rw[D.ψ i hi,ak rfl,aj h];omega
   .rw[aj G];by_cases H:mK l m c
    .rw[ak H];omega
    .rw[aj H];obtain⟨k,Y,rfl⟩:∃i,i<m/\l i=c:=AD fun F=>H fun i hi e=>F ⟨i,hi,e⟩
     rw[D.Å i k hi Y (fun e=>G Qv)];simp
  have:=Z i hi;rw[O]at this;rw[J];rwa[Int.sub_neg]
def zhy(G:mi p n m A l)(y:Nat->Int):(∀j,j<n->mK l m j->p∣bW (fun c=>mo A l m j c*y c) n)↔(∀x,Cz p n m A x->p∣bW (fun c=>x c*y c) n):=by
 constructor
 .intro D x J;have H:p∣bW (fun c=>x c*y c) n-bW (fun c=>bW (fun j=>if mK l m j then x j*mo A l m j c else 0) n*y c) n:=
   eN fun c I=>mJ (zhx G J I)
  refine jv H ?_;rw[show bW (fun c=>bW (fun j=>if mK l m j then x j*mo A l m j c else 0) n*y c) n=bW (fun j=>bW (fun c=>(if mK l m j then x j*mo A l m j c else 0)*y c) n) n from by rw[<-sW];exact bF fun c _=>(mX _ _ _).q]
  refine vN fun j F=>?_
  by_cases h:mK l m j
  .rw[show bW (fun c=>(if mK l m j then x j*mo A l m j c else 0)*y c) n=x j*bW (fun c=>mo A l m j c*y c) n from by rw[<-lH];exact bF fun c _=>by rw[ak h,rW]]
   exact kH (D j F h) ⟨x j,gU _ _⟩
  .rw[gQ fun c _=>by rw[aj h,np]];exact⟨0,Qt⟩
 .intro D j F h;exact D _ (wP G F h)
end
def zdt{p}{n M}{H μ h:Nat->Nat->Int}{l}(av:r<=M)(G:mi p n r μ l)(Y:∀i,r<=i->i<M->∀c,c<n->μ i c=0)(U:∀i,i<M->∀c,c<n->p∣μ i c-bW (fun k=>h i k*H k c) M)(ad:∀x:Nat->Int,∃y:Nat->Int,∀k,k<M->p∣x k-bW (fun i=>y i*h i k) M)(z:Nat->Int):(∀i,r<=i->i<M->p∣bW (fun k=>h i k*z k) M)↔(∀x:Nat->Int,(∀c,c<n->p∣bW (fun k=>x k*H k c) M)->p∣bW (fun k=>x k*z k) M):=by
 constructor
 .intro F x an;obtain⟨y,ao⟩:=ad x;have O:∀w:Nat->Int,p∣bW (fun k=>x k*w k) M-bW (fun i=>y i*bW (fun k=>h i k*w k) M) M:=fun w=>by
   have D:p∣bW (fun k=>x k*w k) M-bW (fun k=>bW (fun i=>y i*h i k) M*w k) M:=eN fun k ah=>mJ (ao k ah)
   rwa[show bW (fun k=>bW (fun i=>y i*h i k) M*w k) M=bW (fun i=>y i*bW (fun k=>h i k*w k) M) M from by
    rw[show bW (fun i=>y i*bW (fun k=>h i k*w k) M) M=bW (fun i=>bW (fun k=>y i*h i k*w k) M) M from
     bF fun i _=>by rw[<-lH];exact bF fun k _=>(rW _ _ _).q,<-sW]
    exact bF fun k _=>(mX _ _ _).q]at D
  have ap:∀i,i<r->p∣y i:=fun i hi=>by
   have D:=O (fun k=>H k (l i));have I:=an (l i) (G.ln i hi);have Z:p∣bW (fun j=>y j*bW (fun k=>h j k*H k (l i)) M) M:=by have:=eY I D;exact Xe
   have ab:p∣bW (fun j=>y j*μ j (l i)) M-bW (fun j=>y j*bW (fun k=>h j k*H k (l i)) M) M:=eN fun j J=>by rw[<-oE];exact kH (U j J (l i) (G.ln i hi)) ⟨y j,gU _ _⟩
   have ac:=jv ab Z;rwa[iC (Qu:i<M) (fun j J am=>by
    rcases xp j r with F|F
    .rw[G.Å j i F hi am,jh]
    .rw[Y j F J (l i) (G.ln i hi),jh]),G.ψ i hi,r_]at ac
  refine jv (O z) (vN fun i hi=>?_);rcases xp i r with D|D
  .exact kH (ap i D) ⟨_,rfl⟩
  .exact kH (F i D hi) ⟨y i,gU _ _⟩
 .intro F i D I;refine F (fun k=>h i k) fun c T=>?_
  have:=U i I c T;rw[Y i D I c T]at this;have:=eY (Int.dvd_zero p) this;rwa[show ∀a:Int,0-(0-a)=a from fun a=>Qu]at this
structure FG(p:Int)(n N:Nat)(M:Nat->Nat->Int)(r c:Nat)(l:gN):Prop where
 bd:∀i d,i<N->d<n->0<=M i d/\M i d<p
 rN:r<=N
 cn:c<=n
 lt:∀i,i<r->l i<c
 Ν:∀i j,i<j->j<r->l i<l j
 ψ:∀i,i<r->M i (l i)=1
 À:∀i d,i<r->d<l i->M i d=0
 Å:∀i j,i<r->j<N->j≠i->M j (l i)=0
 z:∀j d,r<=j->j<N->d<c->M j d=0
def mF(r k i:Nat):Nat:=if i=r then k else if i=k then r else i
def Č r k i:mF r k (mF r k i)=i:=by unfold mF;split<;>split<;>(try split)<;>omega
def EK(D:r<N)(h:k<N)(hi:i<N):mF r k i<N:=U3
def m8 r k:mF r k r=k:=by simp[mF]
def Ă(h:r<=k)(hi:i<r):mF r k i=i:=by unfold mF;rw[aj Qu,aj Qu]
def zjx(h:r<=k)(hi:r<=i):r<=mF r k i:=U3
def jZ(p:Int)(r k c:Nat)(iv:Int)(M X:Nat->Nat->Int)(i d:Nat):Int:=
 if i=r then X k d*iv%p else(X (mF r k i) d-M (mF r k i) c*(X k d*iv%p))%p
def zhL{M}{l}(h:FG p n N M r c l)(H:c<n)(G:∀j,r<=j->j<N->M j c=0):FG p n N M r (c+1) l:=
 ⟨h.bd,h.rN,Qu,fun i hi=>by have:=h.lt i hi;omega,h.Ν,h.ψ,h.À,h.Å,fun j d D F I=>by
  by_cases e:d=c
  .subst e;exact G j D F
  .exact h.z j d D F Qu⟩
def zhM{M}{l}(a0:2<=p)(D:FG p n N M r c l)(a1:c<n)(H:r<=k)(J:k<N)(Y:M k c*iv%p=1):FG p n N (jZ p r k c iv M M) (r+1) (c+1) (fun i=>if i=r then c else l i):=by
 have ab:r<N:=Qu;have am:p≠0:=Qu;have O:∀d,d<c->M k d*iv%p=0:=fun d F=>by rw[D.z k d H J F];simp
 have Z:∀i,i<r->M k (l i)*iv%p=0:=fun i hi=>O (l i) (D.lt i hi)
 have T:∀i d,i≠r->M k d*iv%p=0->i<N->d<n->jZ p r k c iv M M i d=M (mF r k i) d:=fun i d hi ao ap F=>by have ac:=D.bd (mF r k i) d (EK ab J ap) F;unfold jZ;rw[aj hi,ao,jh,AK,nq ac.1 ac.2]
 have U:∀d,jZ p r k c iv M M r d=M k d*iv%p:=fun d=>by unfold jZ;rw[ak rfl]
 refine⟨fun i d hi F=>?_,Qu,Qu,fun i hi=>?_,fun i j av I=>?_,fun i hi=>?_,fun i d hi F=>?_,fun i j hi I ah=>?_,fun j d I ad F=>?_⟩
 .unfold jZ;split
  .exact⟨gV _ am,gW _ Qu⟩
  .exact⟨gV _ am,gW _ Qu⟩
 .try dsimp only
  split
  .omega
  .have:=D.lt i Qu;omega
 .try dsimp only
  rw[aj Qu];split
  .exact D.lt i Qu
  .exact D.Ν i j av Qu
 .try dsimp only
  by_cases e:i=r
  .subst e;rw[ak rfl,U];exact Y
  .have h:i<r:=Qu;have:=D.lt i h;rw[aj e,T i (l i) e (Z i h) Qu Qu,Ă H h];exact D.ψ i h
 .by_cases e:i=r
  .subst e;try dsimp only at F
   rw[ak rfl]at F;rw[U];exact O d F
  .have h:i<r:=Qu;try dsimp only at F
   rw[aj e]at F;have:=D.lt i h;rw[T i d e (O d Qu) Qu Qu,Ă H h];exact D.À i d h F
 .try dsimp only
  by_cases e:i=r
  .subst e;rw[ak rfl];unfold jZ;rw[aj ah,Y,r_,Int.sub_self];rfl
  .have h:i<r:=Qu;have a2:=D.lt i h;rw[aj e];by_cases G:j=r
   .subst G;rw[U];exact Z i h
   .rw[T j (l i) G (Z i h) I Qu];refine D.Å i _ h (EK ab J I) (fun an=>ah ?_);rw[<-Č r k j,an,Ă H h]
 .have G:j≠r:=Qu;by_cases e:d=c
  .subst e;unfold jZ;rw[aj G,Y,r_,Int.sub_self];rfl
  .rw[T j d G (O d Qu) ad Qu];exact D.z _ d (zjx H Qu) (EK ab J ad) Qu
def zfh{M}(h:∀i d,i<N->d<n->0<=M i d/\M i d<p):FG p n N M 0 0 (fun _=>0):=⟨h,aW _,aW _,fun i hi=>Qu,fun i j _ F=>Qu,fun i hi=>Qu,fun i d hi=>Qu,fun i j hi=>Qu,fun j d _ _ D=>Qu⟩
def zjy{M}{l}(h:FG p n N M r c l):mi p n r M l:=⟨fun i d hi D=>h.bd i d (by have:=h.rN;omega) D,fun i hi=>by have:=h.lt i hi;have:=h.cn;omega,h.Ν,h.ψ,h.À,fun i j hi F G=>h.Å j i F (by have:=h.rN;omega) G⟩
def zhN{M}{l}(h:FG p n N M r c l)(G:c=n∨r=N):∀i,r<=i->i<N->∀d,d<n->M i d=0:=fun i D F d H=>by
 rcases G with e|e
 .exact h.z i d D F Qu
 .omega
structure pg(p:Int)(r k:Nat)(iv:Int)(g:Nat->Int)(f f':Nat->Int):Prop where
 Ë:p∣f' r-f k*iv
 oth:∀i,i≠r->p∣f' i-(f (mF r k i)-g (mF r k i)*f' r)
def pg.all{g h}(D:pg p r k iv g f h)(I:r<N)(G:k<N)(F:∀i,i<N->p∣f i):∀i,i<N->p∣h i:=by
 have H:p∣h r:=jv D.Ë (kH (F k G) ⟨iv,rfl⟩);intro i hi;by_cases e:i=r
 .subst e;exact H
 .exact jv (D.oth i e) (eY (F _ (EK I G hi)) (kH H ⟨_,gU _ _⟩))
def pg.back{b}{g h}(I:pg p r k iv g f h)(H:r<N)(U:k<N)(T:p∣b*iv-1)(G:∀i,i<N->p∣h i):∀i,i<N->p∣f i:=by
 have Y:p∣f k:=by
  have D:p∣f k*iv:=by have:=eY (G r H) I.Ë;rwa[show h r-(h r-f k*iv)=f k*iv by omega]at this
  have F:p∣f k*iv*b:=kH D ⟨b,rfl⟩;have O:p∣f k*(b*iv-1):=kH T ⟨f k,gU _ _⟩;have:=eY F O;rwa[show f k*iv*b-f k*(b*iv-1)=f k by rw[oE,r_,rW,gU iv b];omega]at this
 intro i hi;by_cases e:i=k
 .subst e;exact Y
 .have Z:mF r k i≠r:=fun J=>e (by rw[<-Č r k i,J,m8])
  have D:=I.oth (mF r k i) Z;rw[Č]at D;have F:=eY (G _ (EK H U hi)) D;rw[show h (mF r k i)-(h (mF r k i)-(f i-g i*h r))=f i-g i*h r by omega]at F;exact jv F (kH (G r H) ⟨_,gU _ _⟩)
section
variable{x:Nat}
structure Ed where
 k:Int
 v:Int
 i:List Nat
 o:List Nat
variable{e:Ed}
structure Gr where
 w:Nat
 es:List Ed
 i:List Nat
 o:List Nat
variable{g:Gr}
def Ed.map(f:gN)(e:Ed):Ed:=⟨e.k,e.v,e.i.map f,e.o.map f⟩
def Gr.map(g:Gr)(w:Nat)(f:gN):Gr:=⟨w,g.es.map (Ed.map f),g.i.map f,g.o.map f⟩
def Gr.On(g:Gr)(x:Nat):Prop:=x∈g.i∨x∈g.o∨∃e∈g.es,x∈e.i∨x∈e.o
def Gr.In(g:Gr):Prop:=∀x,g.On x->x<g.w
def zi(p k v:Int)(a b:aL):Prop:=
 if k=3 then p∣b.getD 0 0-a.getD 0 0/\p∣b.getD 1 0-a.getD 0 0
 else if k=5 then p∣b.getD 0 0-(a.getD 0 0+a.getD 1 0)
 else if k=6 then p∣b.getD 0 0
 else if k=7 then p∣b.getD 0 0-v*a.getD 0 0
 else True
def Ed.Ok(p:Int)(e:Ed)(f:Nat->Int):Prop:=if 9<=e.k then zi p (e.k-6) e.v (e.o.map f) (e.i.map f) else zi p e.k e.v (e.i.map f) (e.o.map f)
def Gr.Fh(p:Int)(g:Gr)(f:Nat->Int):Prop:=∀e∈g.es,e.Ok p f
def nB(p:Int)(l:bP)(f z:Nat->Int):Prop:=∀(j:Nat) (x:Nat),l[j]?=some x->p∣z j-f x
def Gr.M(p:Int)(g:Gr)(z:Nat->Int):Prop:=∃f,g.Fh p f/\nB p g.i f z/\nB p g.o f (fun j=>z (g.i.length+j))
def ŋ{g}(h:∀x∈l,p∣f x-g x)j:p∣(l.map f).getD j 0-(l.map g).getD j 0:=by
 rw[bf,bf,bI,bI];cases D:l[j]? with
 |none=>exact⟨0,Qt⟩
 |some x=>exact h x (aU D)
def jW{a b}(h:p∣a-b):p∣a↔p∣b:=⟨fun D=>jv (b:=a) (by have:=xl.2 h;rwa[Int.neg_sub]at this) D,fun F=>jv h F⟩
def Ec{k v}{a h b D}(J:∀j,p∣a.getD j 0-h.getD j 0)(O:∀j,p∣b.getD j 0-D.getD j 0):zi p k v a b↔zi p k v h D:=by
 have d1:∀i j,p∣b.getD i 0-a.getD j 0↔p∣D.getD i 0-h.getD j 0:=fun i j=>jW (by
  have:=eY (O i) (J j);rwa[show b.getD i 0-D.getD i 0-(a.getD j 0-h.getD j 0)=b.getD i 0-a.getD j 0-(D.getD i 0-h.getD j 0) by omega]at this)
 unfold zi;by_cases F:k=3
 .rw[ak F,ak F,d1,d1]
 rw[aj F,aj F];by_cases G:k=5
 .rw[ak G,ak G];refine jW ?_;have:=eY (O 0) (ir (J 0) (J 1));rwa[show b.getD 0 0-D.getD 0 0-(a.getD 0 0-h.getD 0 0+(a.getD 1 0-h.getD 1 0))=b.getD 0 0-(a.getD 0 0+a.getD 1 0)-(D.getD 0 0-(h.getD 0 0+h.getD 1 0)) by omega]at this
 rw[aj G,aj G];by_cases H:k=6
 .rw[ak H,ak H];exact jW (O 0)
 rw[aj H,aj H];by_cases I:k=7
 .rw[ak I,ak I];refine jW ?_;have:=eY (O 0) (qd (b:=v) (J 0));rwa[oE,show b.getD 0 0-D.getD 0 0-(v*a.getD 0 0-v*h.getD 0 0)=b.getD 0 0-v*a.getD 0 0-(D.getD 0 0-v*h.getD 0 0) by omega]at this
 rw[aj I,aj I]
def Ed.zfZ{g}(D:∀x,x∈e.i∨x∈e.o->p∣f x-g x):e.Ok p f↔e.Ok p g:=by
 unfold Ed.Ok;have F:=ŋ (l:=e.i) fun x h=>D x (ay h)
 have G:=ŋ (l:=e.o) fun x h=>D x (au h)
 split
 .exact Ec G F
 .exact Ec F G
def Ed.zby h:(e.map h).Ok p f↔e.Ok p (fun x=>f (h x)):=by unfold Ed.Ok Ed.map;simp only[nr];exact Iff.rfl
def Gr.zf0 w h:(g.map w h).Fh p f↔g.Fh p (fun x=>f (h x)):=by
 unfold Gr.Fh Gr.map;constructor
 .intro D e F;exact(Ed.zby h).1 (D _ (Ę F))
 .intro D e F;obtain⟨G,H,rfl⟩:=cH.1 F;exact(Ed.zby h).2 (D G H)
def Gr.Ee{h}(D:∀x,g.On x->p∣f x-h x):g.Fh p f↔g.Fh p h:=by unfold Gr.Fh;refine lg fun e=>lg fun F=>Ed.zfZ fun x G=>D x (au (au ⟨e,F,G⟩))
def nB.map{z}{D}:nB p (l.map D) f z↔nB p l (fun x=>f (D x)) z:=by
 unfold nB;constructor
 .intro h j x hx;exact h j (D x) RH
 .intro h j x hx;rw[bI]at hx;obtain⟨y,F,rfl⟩:=oF.1 hx;exact h j y F
def nB.zmB{h z}(G:∀x∈l,p∣f x-h x)(F:nB p l f z):nB p l h z:=fun j x D=>by have:=ir (F j x D) (G x (aU D));rwa[show z j-f x+(f x-h x)=z j-h x by omega]at this
def mI(c:bP)(x y:Nat):List Nat:=c.map fun q=>if q=max (c.getD x 0) (c.getD y 0) then min (c.getD x 0) (c.getD y 0) else q
def jF(n:Nat)(ps:ng):List Nat:=ps.foldl (fun c q=>mI c q.1 q.2) (List.range n)
structure l9(n:Nat)(c:bP):Prop where
 ι:c.length=n
 le:∀x,x<n->c.getD x 0<=x
 rep:∀x,x<n->c.getD (c.getD x 0) 0=c.getD x 0
def bj(h:Gr)(D F G H I J):M (#[.int .i64 (h.w:Nat),.slice D h.es F,.slice G h.i H,.slice I h.o J]:Array Value):=⟨⟩
def zj(h:Ed)(D F G H):M (#[.int .i64 h.k,.int .i64 h.v,.slice D h.i F,.slice G h.o H]:Array Value):=⟨⟩
def CI{c:bP}(h:x<c.length):c[x]?=some (c.getD x 0):=by rw[bf,di h];rfl
def kP{z}{c}(h:l9 n c)(D:z<n):(mI c x y).getD z 0=if c.getD z 0=max (c.getD x 0) (c.getD y 0) then min (c.getD x 0) (c.getD y 0) else c.getD z 0:=by unfold mI;rw[bf,bI,CI (by rw[h.ι];exact D)];rfl
def vB{c}(h:l9 n c)(G:x<n)(H:y<n):l9 n (mI c x y):=by
 have Y:=h.le x G;have Z:=h.le y H;have O:=h.rep x G;have T:=h.rep y H;refine⟨by unfold mI;rw[bs];exact h.ι,fun z D=>?_,fun z D=>?_⟩
 .have I:=h.le z D;rw[kP h D];split
  .omega
  .exact I
 .have I:=h.le z D;have U:=h.rep z D;rw[kP h D];by_cases e:c.getD z 0=max (c.getD x 0) (c.getD y 0)
  .rw[ak e,kP h Qu];have J:c.getD (min (c.getD x 0) (c.getD y 0)) 0=min (c.getD x 0) (c.getD y 0):=by
    rcases Aw (c.getD x 0) (c.getD y 0)with F|F
    .rw[iw F];exact O
    .rw[uG F];exact T
   rw[J];split<;>rfl
  .rw[aj e,kP h Qu,U,aj e]
def qx n:l9 n (List.range n):=by
 have D:∀x,x<n->(List.range n).getD x 0=x:=fun x h=>by rw[bf,iy h];rfl
 exact⟨fK,fun x h=>by rw[D x h];exact ae _,fun x h=>by rw[D x h,D x h]⟩
def Ef{n}:∀(ps:ng) (c:bP),l9 n c->(∀q∈ps,q.1<n/\q.2<n)->l9 n (ps.foldl (fun c q=>mI c q.1 q.2) c)
 |[],c,h,_=>h
 |q::ps,c,h,D=>Ef ps _ (vB h (D q (kb ..)).1 (D q (kb ..)).2) fun r F=>D r (kC _ F)
def zhl{a}{c}(h:l9 n c)(D:a<n)(F:b<n)(e:c.getD a 0=c.getD b 0):(mI c x y).getD a 0=(mI c x y).getD b 0:=by rw[kP h D,kP h F,e]
def zi6{c}(D:l9 n c)(F:x<n)(G:y<n):(mI c x y).getD x 0=(mI c x y).getD y 0:=by
 rw[kP D F,kP D G];rcases Aw (c.getD x 0) (c.getD y 0)with h|h
 .rw[Nat.max_eq_right h,iw h,ak rfl];split<;>rfl
 .rw[Nat.max_eq_left h,uG h,ak rfl];split<;>rfl
def zdk{n a b}(F:a<n)(G:b<n):∀(ps:ng) (c:bP),l9 n c->(∀q∈ps,q.1<n/\q.2<n)->c.getD a 0=c.getD b 0->(ps.foldl (fun c q=>mI c q.1 q.2) c).getD a 0=(ps.foldl (fun c q=>mI c q.1 q.2) c).getD b 0
 |[],c,_,_,e=>e
 |q::ps,c,D,h,e=>zdk F G ps _ (vB D (h q (kb ..)).1 (h q (kb ..)).2) (fun r H=>h r (kC _ H)) (zhl D F G e)
def zdl{n}{G}:∀(ps:ng) (c:bP),l9 n c->(∀q∈ps,q.1<n/\q.2<n)->G∈ps->(ps.foldl (fun c q=>mI c q.1 q.2) c).getD G.1 0=(ps.foldl (fun c q=>mI c q.1 q.2) c).getD G.2 0
 |[],c,_,_,h=>QO
 |q::ps,c,h,I,F=>by
  have D:=I q (kb ..);have H:=vB h D.1 D.2;have J:∀r∈ps,r.1<n/\r.2<n:=fun r O=>I r (kC _ O)
  rcases et.1 F with e|F
  .subst e;exact zdk D.1 D.2 ps _ H J (zi6 h D.1 D.2)
  .exact zdl ps _ H J F
def Ř{p}{n}{f:Nat->Int}:∀(ps:ng) (c:bP),l9 n c->(∀q∈ps,q.1<n/\q.2<n)->(∀q∈ps,p∣f q.1-f q.2)->(∀x,x<n->p∣f x-f (c.getD x 0))->∀x,x<n->p∣f x-f ((ps.foldl (fun c q=>mI c q.1 q.2) c).getD x 0)
 |[],c,_,_,_,h=>h
 |q::ps,c,O,T,J,h=>by
  have F:=T q (kb ..);refine Ř ps _ (vB O F.1 F.2) (fun r G=>T r (kC _ G)) (fun r G=>J r (kC _ G)) fun x H=>?_
  have ab:=J q (kb ..);have U:=h q.1 F.1;have Y:=h q.2 F.2;have Z:p∣f (max (c.getD q.1 0) (c.getD q.2 0))-f (min (c.getD q.1 0) (c.getD q.2 0)):=by
   have I:p∣f (c.getD q.1 0)-f (c.getD q.2 0):=by have:=ir (eY ab U) Y;rwa[show f q.1-f q.2-(f q.1-f (c.getD q.1 0))+(f q.2-f (c.getD q.2 0))=f (c.getD q.1 0)-f (c.getD q.2 0) by omega]at this
   rcases Aw (c.getD q.1 0) (c.getD q.2 0)with D|D
   .rw[Nat.max_eq_right D,iw D];have:=xl.2 I;rwa[Int.neg_sub]at this
   .rw[Nat.max_eq_left D,uG D];exact I
  rw[kP O H];split
  .rename_i e;have:=ir (h x H) (by rw[e];exact Z:p∣f (c.getD x 0)-f (min (c.getD q.1 0) (c.getD q.2 0)));rwa[show f x-f (c.getD x 0)+(f (c.getD x 0)-f (min (c.getD q.1 0) (c.getD q.2 0)))=f x-f (min (c.getD q.1 0) (c.getD q.2 0)) by omega]at this
  .exact h x H
def Gr.O(g:Gr)(x:Nat):Bool:=g.i.contains x||(g.o.contains x||g.es.any fun e=>e.i.contains x||e.o.contains x)
def Gr.lO:g.O x=true↔g.On x:=by unfold Gr.O Gr.On;simp
def lG(g:Gr)(c:bP):List Nat:=(List.range g.w).filter fun r=>decide (c.getD r 0=r)&&(List.range g.w).any fun x=>g.O x&&decide (c.getD x 0=r)
def js(g:Gr)(ps:ng):Gr:=g.map (lG g (jF g.w ps)) fun x=>(lG g (jF g.w ps)).idxOf ((jF g.w ps).getD x 0)
def Eg{c}(D:l9 g.w c)(G:g.In)(F:g.On x):c.getD x 0∈lG g c:=by have h:=G x F;have:=D.le x h;unfold lG;rw[xj,fj,bN,cf,nl];exact⟨Qu,D.rep x h,x,fj.2 h,by rw[Gr.lO.2 F];simp⟩
def zkx{a}(h:a∈l):l.getD (l.idxOf a) 0=a:=by have:=List.idxOf_lt_length_of_mem h;rw[bf,di this];simp
def zi7(T:g.In)(J:∀q∈ps,q.1<g.w/\q.2<g.w)z:(js g ps).M p z↔∃f,g.Fh p f/\(∀q∈ps,p∣f q.1-f q.2)/\nB p g.i f z/\nB p g.o f (fun j=>z (g.i.length+j)):=by
 have U:l9 g.w (jF g.w ps):=Ef ps _ (qx g.w) J;have⟨c,D⟩:=aR (jF g.w ps);have Z:js g ps=g.map (lG g c) fun x=>(lG g c).idxOf (c.getD x 0):=by rw[D];rfl
 have ab:∀q∈ps,c.getD q.1 0=c.getD q.2 0:=fun q O=>by rw[D];exact zdl ps _ (qx g.w) J O
 rw[Z];rw[<-D]at U;constructor
 .rintro⟨f,F,G,H⟩;refine⟨fun x=>f ((lG g c).idxOf (c.getD x 0)),(Gr.zf0 _ _).1 F,fun q O=>?_,nB.map.1 G,?_⟩
  .dsimp only;rw[ab q O];exact⟨0,Qt⟩
  .have:=nB.map.1 H;unfold Gr.map at this;simpa using this
 .rintro⟨f,F,G,H,Y⟩;have ac:∀x,x<g.w->p∣f x-f (c.getD x 0):=by rw[D];exact Ř ps _ (qx g.w) J G fun x h=>by rw[bf,iy h];exact⟨0,Qt⟩
  have I:∀x,g.On x->p∣f x-f ((lG g c).getD ((lG g c).idxOf (c.getD x 0)) 0):=fun x h=>by rw[zkx (Eg U T h)];exact ac x (T x h)
  refine⟨fun k=>f ((lG g c).getD k 0),(Gr.zf0 _ _).2 ((Gr.Ee I).1 F),nB.map.2 (H.zmB fun x h=>I x (ay h)),?_⟩;have:nB p (g.o.map fun x=>(lG g c).idxOf (c.getD x 0)) (fun k=>f ((lG g c).getD k 0)) (fun j=>z (g.i.length+j)):=nB.map.2 (Y.zmB fun x h=>I x (au (ay h)));unfold Gr.map;simpa using this
def fG(a b:Gr):List Ed:=a.es++b.es.map (Ed.map (· +a.w))
def pK(a b:Gr):Gr:=js ⟨a.w+b.w,fG a b,a.i,b.o.map (· +a.w)⟩ (a.o.zip (b.i.map (· +a.w)))
def ls(a b:Gr):Gr:=⟨a.w+b.w,fG a b,a.i++b.i.map (· +a.w),a.o++b.o.map (· +a.w)⟩
def tD{a b}{w}{i o}:Gr.Fh p ⟨w,fG a b,i,o⟩ f↔a.Fh p f/\b.Fh p (fun x=>f (x+a.w)):=by
 unfold Gr.Fh fG;constructor
 .intro F;exact⟨fun e h=>F e (oD _ h),fun e h=>(Ed.zby (· +a.w)).1 (F _ (kE _ (Ę h)))⟩
 .rintro⟨H,I⟩ e h;rcases dP.1 h with D|D
  .exact H e D
  .obtain⟨G,J,rfl⟩:=cH.1 D;exact(Ed.zby (· +a.w)).2 (I G J)
def Bj(n:Nat)(f g:Nat->Int)(x:Nat):Int:=if x<n then f x else g (x-n)
def Ũ{a:Gr}{g}(h:a.In)x(D:a.On x):p∣f x-Bj a.w f g x:=by unfold Bj;rw[ak (h x D)];exact⟨0,Qt⟩
def wk{g}x:Bj n f g (x+n)=g x:=by unfold Bj;rw[aj Qu,Nat.add_sub_cancel]
def sU{a b}{i o}(T:a.In)(I:b.In)(hi:∀x∈i,x<a.w+b.w)(U:∀x∈o,x<a.w+b.w):Gr.In ⟨a.w+b.w,fG a b,i,o⟩:=by
 intro x D;rcases D with h|h|⟨e,J,D⟩
 .exact hi x h
 .exact U x h
 .dsimp only;unfold fG at J;rcases dP.1 J with F|F
  .have:=T x (au (au ⟨e,F,D⟩));omega
  .obtain⟨H,O,rfl⟩:=cH.1 F;unfold Ed.map at D;rcases D with h|h
   .obtain⟨y,G,rfl⟩:=cH.1 h;have:=I y (au (au ⟨H,O,ay G⟩));omega
   .obtain⟨y,G,rfl⟩:=cH.1 h;have:=I y (au (au ⟨H,O,au G⟩));omega
def zky{a b}(F:a.In)(J:b.In)(ap:a.o.length=b.i)z:(pK a b).M p z↔∃y:Nat->Int,a.M p (fun j=>if j<a.i.length then z j else y (j-a.i.length))/\b.M p (fun j=>if j<b.i.length then y j else z (a.i.length+(j-b.i.length))):=by
 unfold pK;rw[zi7 (sU F J (fun x hx=>by have:=F x (ay hx);omega) (fun x hx=>by
   obtain⟨y,G,rfl⟩:=cH.1 hx;have:=J y (au (ay G));omega)) (fun q I=>by
   have h:=(pS I).1;have D:=(pS I).2;obtain⟨y,G,e⟩:=cH.1 D;have:=F _ (au (ay h));have:=J y (ay G);dsimp only;omega)]
 dsimp only;constructor
 .rintro⟨f,h,D,ac,ad⟩;obtain⟨v1,v2⟩:=tD.1 h;refine⟨fun j=>f (a.o.getD j 0),⟨f,v1,fun j x hx=>?_,fun j x hx=>?_⟩,⟨fun x=>f (x+a.w),v2,fun j x hx=>?_,fun j x hx=>?_⟩⟩
  .dsimp only;rw[ak (bG.1 hx).1];exact ac j x hx
  .dsimp only;rw[aj Qu,iY,bf,hx];exact⟨0,Qt⟩
  .have H:=(bG.1 hx).1;dsimp only;rw[ak H];have⟨y,G⟩:=aq (Qu:j<a.o.length);have:=D (y,x+a.w) (eH.2 ⟨j,by rw[Aj];exact⟨G,RH⟩⟩);rw[bf,G];exact this
  .dsimp only;rw[aj Qu,iY];exact ad j (x+a.w) RH
 .rintro⟨y,⟨fa,an,U,Y⟩,⟨fb,vb,Z,ab⟩⟩;refine⟨Bj a.w fa fb,tD.2 ⟨(Gr.Ee (Ũ F)).1 an,?_⟩,fun q I=>?_,fun j x hx=>?_,fun j x hx=>?_⟩
  .exact XC
  .obtain⟨j,H⟩:=eH.1 I;rw[Aj]at H;obtain⟨O,T⟩:=H;rw[bI]at T;obtain⟨x,hx,ex⟩:=oF.1 T;have ah:=(bG.1 hx).1;have h:=Y j _ O;have D:=Z j x hx;dsimp only at h D;rw[aj Qu,iY]at h;rw[ak ah]at D;rw[<-ex,wk,show Bj a.w fa fb q.1=fa q.1 by unfold Bj;rw[ak (F _ (au (ay (aU O))))]];have:=eY D h;rwa[show y j-fb x-(y j-fa q.1)=fa q.1-fb x by omega]at this
  .have h:=U j x hx;dsimp only at h;rw[ak (bG.1 hx).1]at h;unfold Bj;rw[ak (F x (ay (aU hx)))];exact h
  .rw[bI]at hx;obtain⟨ao,am,rfl⟩:=oF.1 hx;have h:=ab j ao am;dsimp only at h ⊢;rw[aj Qu,iY]at h;rw[wk];exact h
def zkz{a b}(G:a.In)(Z:b.In)z:(ls a b).M p z↔a.M p (fun j=>if j<a.i.length then z j else z (a.i.length+b.i+(j-a.i.length)))/\b.M p (fun j=>if j<b.i.length then z (a.i.length+j) else z (a.i.length+b.i+a.o+(j-b.i.length))):=by
 unfold ls Gr.M;dsimp only;rw[bm,bs];constructor
 .rintro⟨f,h,H,I⟩;obtain⟨v1,v2⟩:=tD.1 h;refine⟨⟨f,v1,fun j x hx=>?_,fun j x hx=>?_⟩,⟨fun x=>f (x+a.w),v2,fun j x hx=>?_,fun j x hx=>?_⟩⟩
  .have D:=(bG.1 hx).1;dsimp only;rw[ak D];exact H j x (by rw[dU D];exact hx)
  .have D:=(bG.1 hx).1;dsimp only;rw[aj Qu,iY];exact I j x (by rw[dU D];exact hx)
  .have D:=(bG.1 hx).1;dsimp only;rw[ak D];exact H (a.i.length+j) (x+a.w) Ue
  .dsimp only;rw[aj Qu,iY];have:=I (a.o.length+j) (x+a.w) Ue;dsimp only at this;rwa[show a.i.length+b.i+(a.o.length+j)=a.i+b.i+a.o+j by omega]at this
 .rintro⟨⟨fa,Y,J,O⟩,⟨fb,vb,T,U⟩⟩;refine⟨Bj a.w fa fb,tD.2 ⟨(Gr.Ee (Ũ G)).1 Y,?_⟩,fun j x hx=>?_,fun j x hx=>?_⟩
  .exact XC
  .by_cases D:j<a.i.length
   .rw[dU D]at hx;have h:=J j x hx;dsimp only at h;rw[ak D]at h;unfold Bj;rw[ak (G x (ay (aU hx)))];exact h
   .rw[fi Qu,bI]at hx;obtain⟨y,F,rfl⟩:=oF.1 hx;have h:=T _ y F;dsimp only at h;rw[ak (bG.1 F).1,show a.i.length+(j-a.i.length)=j by omega]at h;rw[wk];exact h
  .by_cases D:j<a.o.length
   .rw[dU D]at hx;have h:=O j x hx;dsimp only at h ⊢;rw[aj Qu,iY]at h;unfold Bj;rw[ak (G x (au (ay (aU hx))))];exact h
   .rw[fi Qu,bI]at hx;obtain⟨y,F,rfl⟩:=oF.1 hx;have h:=U _ y F;dsimp only at h ⊢;rw[aj Qu,iY,show a.i.length+b.i+a.o+(j-a.o.length)=a.i+b.i+j by omega]at h;rw[wk];exact h
end
variable{e:Ed}
variable{g:Gr}
structure Nd where
 k:Int
 v:Int
 e:Bool
inductive Tm
 |lf (n:Nd)
 |op (k:Int) (a b:Tm)
variable{S S':List Tm}
def Tm.d:Tm->List Nd
 |.lf n=>[n]
 |.op k a b=>a.d++b.d++[⟨k,0,true⟩]
def dI(n:Nd):Bool:=
 n.e&&(if n.k=1 then decide (0<=n.v)&&decide (n.v<=12) else if n.k=7∨n.k=13 then decide (0<=n.v)&&decide (n.v<=96) else decide (2<=n.k)&&(decide (n.k<=14)&&decide (n.v=0)))
def pC(n:Nd):Nat:=if n.k=1 then n.v.toNat else if n.k=2 then 2 else if n.k=5∨n.k=9 then 2 else if n.k=6∨n.k=10 then 0 else 1
def sC(n:Nd):Nat:=if n.k=1 then n.v.toNat else if n.k=2 then 2 else if n.k=3∨n.k=11 then 2 else if n.k=4∨n.k=12 then 0 else 1
def gP(k:Int)(a b:g_):Option (Nat×Nat):=
 if k=15 then(if a.2=b.1 then some (a.1,b.2) else none)
 else if k=16 then(if a.1+b.1<=12/\a.2+b.2<=12 then some (a.1+b.1,a.2+b.2) else none)
 else none
def Tm.ty:Tm->Option (Nat×Nat)
 |.lf n=>if dI n=true then some (pC n,sC n) else none
 |.op k a b=>match a.ty,b.ty with
  |some x,some y=>gP k x y
  |_,_=>none
def tK{n}(h:dI n=true):pC n<=12/\sC n<=12:=by
 unfold dI at h;unfold pC sC;rw[bN]at h;obtain⟨_,h⟩:=h;by_cases D:n.k=1
 .rw[ak D]at h;simp only[bN,cf]at h;rw[ak D,ak D];omega
 .rw[aj D,aj D];refine⟨?_,?_⟩<;>(repeat' split)<;>omega
def zjn{k}{a b c}(F:a.1<=12/\a.2<=12)(G:b.1<=12/\b.2<=12)(h:gP k a b=some c):c.1<=12/\c.2<=12:=by
 unfold gP at h;split at h
 .split at h
  .simp only[dW]at h;subst h;exact⟨F.1,G.2⟩
  .cases h
 .split at h
  .split at h
   .rename_i D;simp only[dW]at h;subst h;exact D
   .cases h
  .cases h
def Tm.zaS:∀{t:Tm} {c:g_},t.ty=some c->c.1<=12/\c.2<=12
 |.lf n,c,h=>by
  unfold Tm.ty at h;split at h
  .rename_i G;simp only[dW]at h;subst h;exact tK G
  .cases h
 |.op k a b,c,h=>by
  unfold Tm.ty at h;cases D:a.ty with
  |none=>rw[D]at h;cases h
  |some x=>
   cases F:b.ty with
   |none=>rw[D,F]at h;cases h
   |some y=>
    rw[D,F]at h;exact zjn (Tm.zaS D) (Tm.zaS F) h
def qD{k}{a b c}(h:gP k a b=some c):k=15∨k=16:=by
 unfold gP at h;split at h
 .left;assumption
 .split at h
  .right;assumption
  .cases h
def Tm.qE{k}{a b}{c}(h:(Tm.op k a b).ty=some c):∃x y,a.ty=some x/\b.ty=some y/\gP k x y=some c:=by
 unfold Tm.ty at h;cases D:a.ty with
 |none=>rw[D]at h;cases h
 |some x=>
  cases F:b.ty with
  |none=>rw[D,F]at h;cases h
  |some y=>rw[D,F]at h;exact⟨x,y,rfl,rfl,h⟩
def FC(n:Nd):Bool:=decide (n.k=15)||decide (n.k=16)
def ρ(S:List Tm)(n:Nd):Option (List Tm):=
 if FC n=true then
  (if n.v=0/\n.e=true then
   match S with
   |b::a::S'=>if((Tm.op n.k a b).ty).isSome=true then some (Tm.op n.k a b::S') else none
   |_=>none
  else none)
 else if dI n=true then some (Tm.lf n::S) else none
def fp:List Nd->List Tm->Option (List Tm)
 |[],S=>some S
 |n::L,S=>match ρ S n with
  |some S'=>fp L S'
  |none=>none
def vJ:List Tm->List Nd
 |[]=>[]
 |t::S=>vJ S++t.d
def zfd{n}(h:ρ S n=some S'):vJ S'=vJ S++[n]:=by
 unfold ρ at h;split at h
 .split at h
  .rename_i D;split at h
   .rename_i b a F;split at h
    .simp only[dW]at h;subst h;obtain⟨k,v,e⟩:=n;simp only at D;obtain⟨rfl,rfl⟩:=D;simp[vJ,Tm.d]
    .cases h
   .cases h
  .cases h
 .split at h
  .simp only[dW]at h;subst h;rfl
  .cases h
def tM:∀{L:List Nd} {S S':List Tm},fp L S=some S'->vJ S'=vJ S++L
 |[],S,S',h=>by unfold fp at h;simp only[dW]at h;subst h;simp
 |n::L,S,S',h=>by
  unfold fp at h;cases D:ρ S n with
  |none=>rw[D]at h;cases h
  |some F=>
   rw[D]at h;rw[tM h,zfd D];simp
def jw n L S:fp (n::L) S=match ρ S n with|some S'=>fp L S'|none=>none:=rfl
def wI:∀(L h:List Nd) (S:List Tm),fp (L++h) S=match fp L S with|some S'=>fp h S'|none=>none
 |[],h,S=>rfl
 |n::L,h,S=>by
  rw[wZ,jw,jw];cases ρ S n with
  |none=>rfl
  |some D=>exact wI L h D
def sY:∀{t:Tm} {c:g_} (S:List Tm),t.ty=some c->fp t.d S=some (t::S)
 |.lf n,c,S,D=>by
  unfold Tm.ty at D;split at D
  .rename_i h;have F:FC n=false:=by
    unfold dI at h;unfold FC;rw[bN]at h;obtain⟨_,h⟩:=h;simp only[uC,uD];by_cases G:n.k=1
    .omega
    .rw[aj G]at h;by_cases H:n.k=7∨n.k=13
     .omega
     .rw[aj H]at h;simp only[bN,cf]at h;omega
   show fp [n] S=_
   unfold fp ρ;rw[F,aj Qw,ak h];rfl
  .cases D
 |.op k a b,c,S,D=>by
  have⟨x,y,I,J,O⟩:=Tm.qE D;have T:=qD O;unfold Tm.d;rw[wI,wI,sY S I];dsimp only;rw[sY (a::S) J];dsimp only;have F:FC ⟨k,0,true⟩=true:=by unfold FC;rcases T with rfl|rfl<;>rfl
  unfold fp ρ;rw[ak F,ak ⟨rfl,rfl⟩];dsimp only;rw[D];rfl
def ķ:∀{L:List Nd} {S S':List Tm},(∀t∈S,∃c,t.ty=some c)->fp L S=some S'->∀t∈S',∃c,t.ty=some c
 |[],S,S',G,D=>by unfold fp at D;simp only[dW]at D;subst D;exact G
 |n::L,S,S',G,D=>by
  unfold fp at D;cases h:ρ S n with
  |none=>rw[h]at D;cases D
  |some J=>
   rw[h]at D;refine ķ (fun t F=>?_) D;unfold ρ at h;split at h
   .split at h
    .split at h
     .rename_i b a I;split at h
      .rename_i H;simp only[dW]at h;subst h;rcases et.1 F with rfl|F
       .exact Av.1 H
       .exact G t (kC _ (kC _ F))
      .cases h
     .cases h
    .cases h
   .split at h
    .rename_i H;simp only[dW]at h;subst h;rcases et.1 F with rfl|F
     .exact⟨_,by unfold Tm.ty;rw[ak H]⟩
     .exact G t F
    .cases h
def č(L:List Nd)(t:Tm):Prop:=L=t.d/\∃c,t.ty=some c
def sZ{L}{t}:č L t↔fp L []=some [t]:=by
 constructor
 .rintro⟨rfl,c,h⟩;exact sY [] h
 .intro h;have:=tM h;refine⟨by simpa[vJ]using this.q,ķ (fun t D=>by cases D) h t (kD.2 rfl)⟩
def fv(n:Nd):Gr:=
 if n.k=1 then⟨n.v.toNat,[],List.range n.v.toNat,List.range n.v.toNat⟩
 else if n.k=2 then⟨2,[],[0,1],[1,0]⟩
 else⟨pC n+sC n,[⟨n.k,n.v,List.range (pC n),(List.range (sC n)).map (· +pC n)⟩],List.range (pC n),(List.range (sC n)).map (· +pC n)⟩
def Tm.gr:Tm->Gr
 |.lf n=>fv n
 |.op k a b=>if k=15 then pK a.gr b.gr else ls a.gr b.gr
def Ed.jd(e:Ed):Bool:=dI ⟨e.k,e.v,true⟩&&(decide (3<=e.k)&&(decide (e.i.length=pC ⟨e.k,e.v,true⟩)&&decide (e.o.length=sC ⟨e.k,e.v,true⟩)))
def Gr.B(g:Gr):Bool:=
 decide (g.w<=100)&&(decide (g.es.length<=60)&&(decide (g.i.length<=12)&&(decide (g.o.length<=12)&&(g.es.all Ed.jd&&(decide (∀x,x<g.w->g.O x=true)&&(g.i.all (fun x=>decide (x<g.w))&&(g.o.all (fun x=>decide (x<g.w))&&g.es.all fun e=>e.i.all (fun x=>decide (x<g.w))&&e.o.all (fun x=>decide (x<g.w)))))))))
def Gr.mE(D:g.B=true):g.In:=by
 unfold Gr.B at D;simp only[bN,eD,cf]at D;obtain⟨_,_,_,_,_,_,H,I,F⟩:=D;rintro x (h|h|⟨e,G,h|h⟩)
 .exact H x h
 .exact I x h
 .exact(F e G).1 x h
 .exact(F e G).2 x h
def Tm.pM:Tm->Bool
 |.lf n=>(fv n).B
 |.op k a b=>a.pM&&(b.pM&&((Tm.op k a b).gr).B)
def tj(p b:Int)A1 h ε D w:az 176 #[p,.slice A1 0 ε,b,.slice h 0 D] w fun e w'=>e=.returned (.tuple #[])/\w'=w:=by
 go_enter func176,ntmps176
 go_wp2;go_loopw [12] (fun i wr=>i=.int .i64 0/\wr=w) (fun _ _=>0)
 case atStart=>exact⟨rfl,rfl⟩
 case round=>
  obtain⟨rfl,rfl⟩:=hrel;go_wp2;go_end0
  exact⟨rfl,rfl⟩
def zgz(a b c p v D:Int)A ε rows w(ap:bt w A rows)(cb:rows.length<=160)(F6:∀r∈rows,r.length<=1000)(cc:1<=p)(ce:p<=1000)(b5:0<=a)(b6:a<rows.length)(hb:0<=b)(b8:b<rows.length)(b7:a≠b)(b9:0<=c)(ca:c<=1000)(hx:∀r∈rows,∀x∈r,0<=x/\x<=1000)(Z:∀r∈rows,r.length=0):az 252 (je (gT a b c) p (aA v D A rows ε)) w fun e w'=>∃u,e=.returned (.agg (en v D u))/\aY w' w u (rows.set b.toNat (dw p c (rows.getD b.toNat []) (rows.getD a.toNat [])))/\ag w w':=by
 refine OE fun ra GZ rb Hm=>?_
 have⟨bb,bd⟩:=bJ (SX:rows.getD a.toNat []=ra) (SW:rows.getD b.toNat []=rb);obtain rfl:ra=[]:=iq (Z ra (aU GZ));obtain rfl:rb=[]:=iq (Z rb (aU Hm));clear hx Z;refine Qc fun HM F_=>?_
 go_enter func252,ntmps252
 go_wp2_with fail
 refine(mQ _ _ _ _ _ _ (ap.ext (((al _ _).alloc Qt _ |>.alloc Qt _).alloc Rs _)) HM F_).x ?_;refine PT fun w1 FR us gA Ga hu _ _ _=>?_
 have⟨a7,b1,a8⟩:=cD w (.cells (gT a b c) 233) (.cells (aA v D A rows ε) 57) (.cells bx 57);have bz:=FR.size;simp only[dV]at bz;go_upto_region 2 with(fail)
 have⟨W2,FY⟩:=aR (w1.alloc (.cells (aA v D gA rows Ga) 57));rw[<-FY];have Y:ag w1 W2:=UP;have ch:(W2:Nat)=w1+1:=Rr;have G:=aT FR Y;have ab:bA W2 w1 (aA v D gA rows Ga) 57:=TK;have a5:=dg G a7;have a6:=dg G a8;have Gf:bL W2 ((w:Nat)+3) (.slice gA rows Ga) rows us:=(hu.ext Y).x Qt;have b0:∀g',gA=some ⟨g',0,none⟩->g' < (w1:Nat):=fun g' e=>UB
 have h:∀(k:Nat) (x:aG),us[k]?=some x->∀b,x.ownBlock=some b->b < (w1:Nat):=fun k x hx b hb=>Vk
 have av:ag w W2:=(ζ w _ _ _).t (G.x Rs);clear hu FR Y G ap F6 a7 b1 a8 FY;obtain⟨ci,a3,a1⟩:=Gf.F GZ;obtain⟨cj,a4,a2⟩:=Gf.F Hm;refine PI fun g GA Gy Gz=>?_
 subst GA;obtain⟨I,T,rfl,bv,_⟩:=a1.p;obtain⟨J,U,rfl,_,_⟩:=a2.p;have⟨ad,ah,am⟩:=cC a5;have an:=bB ab 2;simp only[dA,dm]at ad ah am an;have a9:af W2 g a.toNat (.slice I 0 T):=by rw[Gf.η.C _ Qu,a3];rfl
 have ba:af W2 g b.toNat (.slice J 0 U):=by rw[Gf.η.C _ Qu,a4];rfl
 have⟨bg,bc,be,bh,bi,ao⟩:=ny Gf av Hm a6 ab (tj p c J I U T W2.drew);clear Gf av a3 a4 a1 a2 GZ Hm bv b0 h a5 a6 ab;go_region_held3 (fun w'=>af w' w 0 (zI a)/\af w' w 1 (zI b)/\af w' w 2 (zI c)/\af w' w1 2 (.slice (bH g) rows Ga)/\af w' g a.toNat (.slice I 0 T)/\af w' g b.toNat (.slice J 0 U))
  (first|exact⟨ad,ah,am,an,a9,ba⟩)
  ((go_at_call 176;refine ao.x ?_;rintro e wr ⟨rfl,rfl⟩))
 have⟨O,F⟩:=aR W2.drew;have a0:O.heap=W2.heap:=by rw[F];rfl
 have ac:=bi.o;have H:=bh.o;rw[<-a0]at ac H;have h:=bg.ext (al _ _).drew;rw[<-F]at h ⊢;rw[<-qH be,show([]:aL)=dw p c [] [] from rfl]at h;rw[show(List.set rows b.toNat (dw p c [] []))=rows.set b.toNat (dw p c (rows.getD b.toNat []) (rows.getD a.toNat [])) by rw[bb.o,bd.o]]at h;simp only[iW]at h;have⟨HO,HE⟩:=bJ (show aY O ((w:Nat)+3) _ _ from⟨_,h⟩) (by rw[F];exact bc.drew:ag w O);clear F a0;clear h ad ah am an a9 ba ao;have⟨bn,bo,bp⟩:=cC ac;have⟨bq,br,bu⟩:=cC H;have⟨b2,b3,b4⟩:=cd H;simp only[dA,dm]at bn bo bp bq br bu;clear ac H;go_wp2;refine aI (v:=.agg (aA v D (bH g) rows Ga)) UA rfl ⟨_,rfl,?_,?_⟩
 .exact Ym
 .exact X7
section
variable{B:Nat}
def bL.form(h:bL w B v rows us)(D:0<rows.length):∃g ε,v=.slice (bH g) rows ε/\B<=g/\g < (w:Nat):=h.η.form D
def zes(a b p v h:Int)A ε rows w(U:bt w A rows)(bc:rows.length<=160)(F6:∀r∈rows,r.length<=1000)(a6:0<=a)(a7:a<rows.length)(a9:0<=b)(ba:b<rows.length)(a8:a≠b):az 245 (je (bC a b) p (aA v h A rows ε)) w fun e w'=>∃u,e=.returned (.agg (en v h u))/\aY w' w u ((rows.set a.toNat (rows.getD b.toNat [])).set b.toNat (rows.getD a.toNat []))/\ag w w':=by
 refine OE fun ra GZ rb Hm=>?_
 have⟨HA,HB,ad,ah⟩:=gG (SX:rows.getD a.toNat []=ra) (SW:rows.getD b.toNat []=rb) (Qu:rows.length<=1048576) (show ∀r∈rows,r.length<=1048576 from fun r hr=>Ti);clear F6;go_enter func245,ntmps245
 go_wp2_with fail
 refine(mQ _ _ _ _ _ _ (U.ext (((al _ _).alloc Qt _ |>.alloc Qt _).alloc Rs _)) ad ah).x ?_;rintro e G ⟨u,rfl,⟨us,H⟩,I⟩;obtain⟨g,Ga,rfl,a0,bb⟩:=H.form Qu;simp only[dV]at a0;have⟨T,a3,F⟩:=cD w (.cells (bC a b) 229) (.cells (aA v h A rows ε) 57) (.cells bx 57);have a2:=I.size;simp only[dV]at a2;obtain⟨bd,Hp,Z⟩:=H.F GZ;obtain⟨be,O,ab⟩:=H.F Hm;obtain⟨Aa,ca,rfl,_⟩:=Z.p;obtain⟨Ab,cb,rfl,_⟩:=ab.p;go_wp2;have⟨W2,FY⟩:=aR (G.alloc (.cells (aA v h (bH g) rows Ga) 57));rw[<-FY];have J:ag G W2:=UP;have D:=aT I J;have Y:bA W2 G (aA v h (bH g) rows Ga) 57:=TK;have Gf:=H.ext J;have y0:=ý D T 0;have y1:=ý D T 1;have⟨a4,a5,x2⟩:=cC Y;have r0:=ý D F 0;have r1:=ý D F 1;have r2:=ý D F 2;have s0:=Ġ D F 0;have s1:=Ġ D F 1;have s2:=Ġ D F 2;simp only[dA,dm]at y0 y1 a4 a5 x2 r0 r1 r2;have z0:af W2 g a.toNat (.slice Aa ra ca):=UM;have z1:af W2 g b.toNat (.slice Ab rb cb):=by rw[Gf.η.C _ Qu,O]
 have f0:=Gf.η.g a.toNat;have f1:=Gf.η.g b.toNat;have⟨ao,ac,am,an,ap,av⟩:=ny Gf D GZ Hm Hp O;clear H I GZ Hm Hp O Z ab U Gf D J Y T a3 F FY;have END:∀W5,W5=((W2.setCell ⟨g,a.toNat,none⟩ (.slice Ab rb cb)).setCell ⟨g,b.toNat,none⟩ (.slice Aa ra ca)).drew->
   af W5 G 0 (zI v)/\af W5 G 1 (zI h)/\af W5 G 2 (.slice (bH g) rows Ga)/\
   af W5 ((w:Nat)+1+1) 0 (zI 0)/\af W5 ((w:Nat)+1+1) 1 (zI 0)/\af W5 ((w:Nat)+1+1) 2 (.slice none 0 0)/\
   W5.frozen? ⟨(w:Nat)+1+1,0,none⟩=false/\W5.frozen? ⟨(w:Nat)+1+1,1,none⟩=false/\W5.frozen? ⟨(w:Nat)+1+1,2,none⟩=false/\
   aY W5 ((w:Nat)+3) (.slice (bH g) rows Ga) ((rows.set a.toNat rb).set b.toNat ra)/\ag w W5:=by
  rintro W5 rfl;have a1:=ao.J rfl ap.o av.o am.o an.o;refine⟨?_,?_,?_,?_,?_,?_,by simpa using s0,by simpa using s1,by simpa using s2,⟨_,bL.x (a1.ext (al _ _).drew) Rs⟩,((lj ((ζ w _ _ _).t (ac.x (B':=w.heap.size) Rs)) Rs _).setCell Rs _).drew⟩
  all_goals refine(cE (w:=W2.setCell _ _) Rs).t ((cE Rs).t ?_)
  all_goals assumption
 refine C8 (S:=fun w'=>af w' w 0 (zI a)/\af w' w 1 (zI b)/\af w' G 2 (.slice (bH g) rows Ga)) QT QD (fun hHeld=>?_);refine eZ 0 ?_;refine eZ 1 ?_;refine eZ 2 ?_;refine eZ 3 ?_;refine eZ 4 ?_;refine eZ 5 ?_;refine eZ 6 ?_;refine eZ 7 ?_;refine eZ 8 ?_;refine eZ 9 ?_;refine eZ 10 ?_;refine eZ 11 ?_;refine eZ 12 ?_;refine eZ 14 ?_;refine eZ 15 ?_;refine eZ 16 ?_;refine eZ 17 ?_;refine eZ 18 ?_;refine lk (rs:=[13,19]) QT Qt ?_;refine pF rfl (fun K hK=>?_) (pF rfl (fun K hK=>?_) ll)
 .go_simp;refine hK.out _ _ QR (fun hHeld=>?_);refine Qm ?_;clear K hK;refine lk (rs:=[19]) QT Qt ?_;exact Z0
 .go_simp;refine hK.out _ _ QR (fun hHeld=>?_);refine Qm ?_;clear K hK;refine lk (rs:=[13]) QT Qt ?_;exact Z0
end
def df{E}(Jf:o.guard=none)s x(I:o.op=.call {callee:=.builtin .append,args:=#[s,x],argTypes:=#[26,26]})B W v xs ys A m c(ab:m=ys.length)(J:a.eval s=v)(hx:a.eval x=.slice A m c)(FT:aE W B v xs)(Ha:aO W A ys)(av:xs.length+m<=1099511627776)(G:B<=(W:Nat))(h:∀F w',aE w' B F (xs++ys)->Below B W w'->K (a.put o.dst F) w'):if Region.wanted o (yielded ops a.tmps)=true then Oper.wp prog o a W K Q else E:=by
 rw[ak (Tz:Region.wanted o (yielded ops a.tmps)=true)];subst ab;have⟨i0,hi,ah,am,an⟩:=dp gD;cases A with
 |none=>
  have D:ys=[]:=Wq;subst D;refine MZ fun J9 hx=>?_
  simp[execOp,I,resolve,invoke,builtin,J,hx,J9,Result.andThen];exact h v W RJ (al _ _)
 |some O=>
  have⟨F,w',ac,T,U,ao,ap⟩:=run_append_own_at (P:=prog) W B 26 o.type 3 i0 (zI 0) 1 8 dR hi ah am an rfl Qw v _ _ FT O ys c (ys.map (Value.int .i64)) Qt (by
   intro j u H;rw[bI]at H;obtain⟨y,D,rfl⟩:=oF.1 H;rcases Ha with h|⟨b,o,h,Y⟩
   .simp[h]at D
   .cases h;rw[dF];exact Y j y D) (by
   intro u ad;obtain⟨y,_,rfl⟩:=cH.1 ad;rfl) SL Qu G
  unfold Oper.wp execOp;simp only[I,resolve,invoke,builtin,Sem.run_bind,Sem.run_pure,Dc,List.map_toArray,se,rU,J,hx,ac];exact h F w' (by simpa[aE]using T) ((al _ _).grown U G fun k Z=>(bS FT k Z).1)
section
variable{B:Nat}{t:dL}
section
variable{w2:aa}{E8 E10 E11 E12:gg}{v8 v10 v11 v12:aG}{R8 R10:aP}{r11:aL}{R12:aP}{l8 h8 b8 l10 h10 b10 l11 h11 b11 l12 h12 b12:Nat}{W W':aa}
end
def e_(D:Below B w w')(h:B<=b)v0 v1 v2:Below B w (((w'.setCell ⟨b,0,none⟩ v0).setCell ⟨b,1,none⟩ v1).setCell ⟨b,2,none⟩ v2):=((D.setCell h _).setCell h _).setCell h _
def ja{D}(h:bA w b #[T,D,z2] t):(((w.setCell ⟨b,0,none⟩ v0).setCell ⟨b,1,none⟩ v1).setCell ⟨b,2,none⟩ v2).heap[b]?=some (.cells #[v0,v1,v2] t (0,0)):=by
 refine NL fun e1 e2 e3=>?_
 simpa using e3
end
section
variable{B:Nat}{t:dL}{u:aG}
def dD{x y}(h:bA w b #[x,y] t):af w b 0 x/\af w b 1 y/\w.frozen? ⟨b,0,none⟩=false/\w.frozen? ⟨b,1,none⟩=false:=by simp[World.cell?,World.frozen?,h]
def aB{x y}(h:bA w b #[x,y,z,u] t):af w b 0 x/\af w b 1 y/\af w b 2 z/\af w b 3 u:=by simp[World.cell?,h]
def cN{x y}(h:bA w b #[x,y,z,u] t):w.frozen? ⟨b,0,none⟩=false/\w.frozen? ⟨b,1,none⟩=false/\w.frozen? ⟨b,2,none⟩=false/\w.frozen? ⟨b,3,none⟩=false:=by simp[World.frozen?,h]
abbrev vf(w:aa)(b:Nat)(v0 v1:aG):World:=(w.setCell ⟨b,0,none⟩ v0).setCell ⟨b,1,none⟩ v1
abbrev dQ(w:aa)(b:Nat)(v0 v1 v2 v3:aG):World:=(((w.setCell ⟨b,0,none⟩ v0).setCell ⟨b,1,none⟩ v1).setCell ⟨b,2,none⟩ v2).setCell ⟨b,3,none⟩ v3
def fW{G}(F:bA w b #[T,G] t):(vf w b v0 v1).heap[b]?=some (.cells #[v0,v1] t (0,0)):=by have h:=bE w b 0 _ _ v0 F;have D:=bE _ b 1 _ _ v1 h;simpa[vf]using D
def cP{F G}(h:bA w b #[T,F,z2,G] t):(dQ w b v0 v1 v2 v3).heap[b]?=some (.cells #[v0,v1,v2,v3] t (0,0)):=by
 refine NL fun e1 e2 e3=>?_
 have D:=bE _ b 3 _ _ v3 e3;simpa[dQ]using D
def nZ(h:k≠b):(dQ w b v0 v1 v2 v3).heap[k]?=w.heap[k]?:=(a_ _ _ _ _ Q_).t ((a_ _ _ _ _ Q_).t ((a_ _ _ _ _ Q_).t (a_ _ _ _ _ Q_)))
def eK:(dQ w b v0 v1 v2 v3:Nat)=w:=by simp[dQ]
def fX(D:Below B w w')(h:B<=b)v0 v1:Below B w (vf w' b v0 v1):=(D.setCell h _).setCell h _
def bY(D:Below B w w')(h:B<=b)v0 v1 v2 v3:Below B w (dQ w' b v0 v1 v2 v3):=(((D.setCell h _).setCell h _).setCell h _).setCell h _
def kR{x}{p}(h:p.block≠b)(D:w.cell? p=some x):((w.setCell ⟨b,0,none⟩ v0).setCell ⟨b,1,none⟩ v1).cell? p=some x:=(cE h).t ((cE h).t D)
def dH{x}{p}(h:p.block≠b)(D:w.cell? p=some x):((((w.setCell ⟨b,0,none⟩ v0).setCell ⟨b,1,none⟩ v1).setCell ⟨b,2,none⟩ v2).setCell ⟨b,3,none⟩ v3).cell? p=some x:=(cE h).t ((cE h).t ((cE h).t ((cE h).t D)))
def j6{D p2}(h:ag w w')(t:w.cell? D=some v1/\w.cell? p2=some v2):w'.cell? D=some v1/\w'.cell? p2=some v2:=⟨ar h t.1,ar h t.2⟩
def jH{D p2 F}(h:ag w w')(t:w.cell? D=some v1/\w.cell? p2=some v2/\w.cell? F=some v3):w'.cell? D=some v1/\w'.cell? p2=some v2/\w'.cell? F=some v3:=⟨ar h t.1,ar h t.2.1,ar h t.2.2⟩
def gS{D p2 F G}(h:ag w w')(t:w.cell? D=some v1/\w.cell? p2=some v2/\w.cell? F=some v3/\w.cell? G=some v4):w'.cell? D=some v1/\w'.cell? p2=some v2/\w'.cell? F=some v3/\w'.cell? G=some v4:=⟨ar h t.1,ar h t.2.1,ar h t.2.2.1,ar h t.2.2.2⟩
def kU{D p2 F G H}(h:ag w w')(t:w.cell? D=some v1/\w.cell? p2=some v2/\w.cell? F=some v3/\w.cell? G=some v4/\w.cell? H=some v5):w'.cell? D=some v1/\w'.cell? p2=some v2/\w'.cell? F=some v3/\w'.cell? G=some v4/\w'.cell? H=some v5:=⟨ar h t.1,ar h t.2.1,ar h t.2.2.1,ar h t.2.2.2.1,ar h t.2.2.2.2⟩
def n_{D p2 F G H I}(h:ag w w')(t:w.cell? D=some v1/\w.cell? p2=some v2/\w.cell? F=some v3/\w.cell? G=some v4/\w.cell? H=some v5/\w.cell? I=some v6):w'.cell? D=some v1/\w'.cell? p2=some v2/\w'.cell? F=some v3/\w'.cell? G=some v4/\w'.cell? H=some v5/\w'.cell? I=some v6:=⟨ar h t.1,ar h t.2.1,ar h t.2.2.1,ar h t.2.2.2.1,ar h t.2.2.2.2.1,ar h t.2.2.2.2.2⟩
def ü{D p2 F G H I J}(h:ag w w')(t:w.cell? D=some v1/\w.cell? p2=some v2/\w.cell? F=some v3/\w.cell? G=some v4/\w.cell? H=some v5/\w.cell? I=some v6/\w.cell? J=some v7):w'.cell? D=some v1/\w'.cell? p2=some v2/\w'.cell? F=some v3/\w'.cell? G=some v4/\w'.cell? H=some v5/\w'.cell? I=some v6/\w'.cell? J=some v7:=⟨ar h t.1,ar h t.2.1,ar h t.2.2.1,ar h t.2.2.2.1,ar h t.2.2.2.2.1,ar h t.2.2.2.2.2.1,ar h t.2.2.2.2.2.2⟩
def E_{D p2 F G H I J O}(h:ag w w')(t:w.cell? D=some v1/\w.cell? p2=some v2/\w.cell? F=some v3/\w.cell? G=some v4/\w.cell? H=some v5/\w.cell? I=some v6/\w.cell? J=some v7/\w.cell? O=some v8):w'.cell? D=some v1/\w'.cell? p2=some v2/\w'.cell? F=some v3/\w'.cell? G=some v4/\w'.cell? H=some v5/\w'.cell? I=some v6/\w'.cell? J=some v7/\w'.cell? O=some v8:=⟨ar h t.1,ar h t.2.1,ar h t.2.2.1,ar h t.2.2.2.1,ar h t.2.2.2.2.1,ar h t.2.2.2.2.2.1,ar h t.2.2.2.2.2.2.1,ar h t.2.2.2.2.2.2.2⟩
def aw(w:aa)o:Below w w (w.alloc o):=(al _ _).alloc (ae _) o
def ky(w:aa)o:(w.alloc o).drew.heap[w.heap.size]?=some o:=aH w o rfl
def aC(w:aa):Below w w w.drew:=(al _ _).drew
end
def ă n:Builtin.zeroCells (Value.int .i64 0).cells n=((List.replicate n (0:Int)).map (Value.int .i64)).toArray:=by
 rw[List.map_replicate];refine Array.ext (by simp[Builtin.zeroCells,Value.cells]) fun i h D=>?_
 simp[Builtin.zeroCells,Value.cells,Nat.mod_one]
def zdu ty W B v xs n(I:aE W B v xs)(bi:xs.length+n<=1048576)(a3:B<=(W:Nat)):∃u w',(Builtin.append_ #[26,3] ty #[v,.int .i64 n]).run prog W=.ok u w'/\aE w' B u (xs++List.replicate n 0)/\W.grownBy w' v.ownBlock/\(u.ownBlock=v.ownBlock∨u.ownBlock=some W.heap.size):=by
 have⟨Y,hi,O,U,FU⟩:=dp gD;have bb:IntKind.i64.wrap (n:Int)=n:=Rt;have a8:¬((n:Int)<0):=Qu;have a2:¬(281474976710656 < (n:Int)*8):=Qu;obtain⟨h,H⟩:∃h:cL,h=(List.replicate n (0:Int)).map (Value.int .i64):=⟨_,rfl⟩;have F:h.length=n:=by rw[H];simp
 have bg:∀u∈h,u.oneCell'=true:=fun u a0=>by rw[H]at a0;obtain⟨x,_,rfl⟩:=cH.1 a0;rfl
 have a4:(xs++List.replicate n (0:Int)).map (Value.int .i64)=xs.map (Value.int .i64)++h:=by rw[kA,H]
 have bd:(xs++List.replicate n (0:Int)).length=xs+n:=Qt;unfold aE at I ⊢;rw[a4,bd];by_cases an:n=0
 .subst an;have a1:IntKind.i64.wrap 0=0:=Qw;have be:h=[]:=iq F;refine⟨v,W,?_,by rw[be];simpa using I,⟨rfl,rfl,rfl,ae _,fun _ _ _=>rfl⟩,ay rfl⟩;rcases I.2 with⟨rfl,ad⟩|⟨g,ε,D,rfl,ah,Z,ao,T,am,av⟩
  .simp[Builtin.append_,rZ dR,rZ fL,sizeOf,typeInfo,zeroValue,hi,O,U,FU,asInt,asIntOf,a1]
  .simp[Builtin.append_,rZ dR,rZ fL,sizeOf,typeInfo,zeroValue,hi,O,U,FU,asInt,asIntOf,a1,ao,storeCells]
 have grown:∀(Φ:Nat) (row:Option Nat),Φ<xs.length+n->
   (W.drew.alloc (.cells ((xs.map (Value.int .i64)).toArray++h.toArray++Builtin.zeroCells (Value.int .i64 0).cells (grownCap W (xs.length+n) Φ 3-(xs.length+n))) 3)).ownsRow B 3 1
    (.slice (bH W) (xs.length+n) (grownCap W (xs.length+n) Φ 3)) (xs.length+n) (xs.map (Value.int .i64)++h)/\
   W.grownBy (W.drew.alloc (.cells ((xs.map (Value.int .i64)).toArray++h.toArray++Builtin.zeroCells (Value.int .i64 0).cells (grownCap W (xs.length+n) Φ 3-(xs.length+n))) 3)) row:=by
  intro Φ row bn;have a6:=grownCap_ge W (xs.length+n) Φ 3;have T:grownCap W (xs.length+n) Φ 3<=maxLen:=grownCap_le_maxLen W (xs.length+n) Φ 3 SL;refine⟨⟨by simp[F],.inr ⟨W,_,_,rfl,a3,heap_alloc_new W.drew _,a6,T,?_,?_⟩⟩,⟨rfl,rfl,rfl,Qt,fun k ab _=>xe W.drew _ ab⟩⟩
  .simp only[Array.size_append,l5,size_zeroCells,bs,F];simp only[Value.cells,l5,jT,iN];omega
  .simp only[ś,fJ];rw[<-fJ,show(xs.length+n)*1=(xs.map (Value.int .i64)++h).length by rw[bm,bs,F];omega];exact Dg
 rcases I.2 with⟨rfl,ad⟩|⟨g,ε,D,rfl,ah,Z,ao,T,am,av⟩
 .have bc:xs=[]:=iq ad;subst bc;have J:=Lib.run_append_nil_zeros (P:=prog) W 26 3 ty 3 Y _ .i64 .i64 dR fL hi O n Qu Qu Qu RF;have G:=grown 0 none QW;rw[ă n,<-H]at J;simp only[iN,jU,rU,rP,Array.empty_append]at G ⊢;exact⟨_,_,J,G.1,G.2,au rfl⟩
 .by_cases ap:xs.length+n<=ε
  .have a5:xs.length*1+h<=D.size:=by rw[F,am];omega
   have ac:=run_storeCells_at prog g (xs.length*1) 3 h 0 D W Z (by simpa using a5) bg;simp only[jf,fk]at ac;refine⟨.slice (bH g) (xs.length+n) ε,W.setRow g (D.toList.take xs++h++D.toList.drop (xs.length+h)).toArray,?_,⟨by simp[F],.inr ⟨g,ε,_,rfl,ah,AI W g D _ 3 _ Z,ap,T,?_,?_⟩⟩,⟨rfl,rfl,rfl,Qt,fun k _ ab=>uM W g k _ (fun e=>ab (by simp[Value.ownBlock,e]))⟩,ay rfl⟩
   .have bh:h=(Builtin.zeroCells (Value.int .i64 0).cells n).toList:=by rw[ă,H]
    rw[bh]at ac ⊢;simp[Builtin.append_,rZ dR,rZ fL,sizeOf,typeInfo,zeroValue,hi,O,U,FU,asInt,asIntOf,bb,a8,a2,an,ap,Addr.add_lit,ac]
   .simp only[l5,bm,cQ,fS,Array.length_toList];omega
   .have ba:D.toList.take xs=xs.map (Value.int .i64):=by simpa using av
    rw[ba,show(xs.length+n)*1=(xs.map (Value.int .i64)++h).length by rw[bm,bs,F];omega];exact Dg
  .have a9:(Builtin.firstCells Y.size xs (.slice (bH g) xs ε)).run prog W.drew=.ok (xs.map (Value.int .i64)).toArray W.drew:=by
    refine Ğ (P:=prog) W.drew Y.size xs ⟨g,0,none⟩ xs ε (xs.map (Value.int .i64)) (by rw[U];simp) fun j u a7=>?_
    exact oz I (g:=g) rfl j u a7
   have J:=į (P:=prog) W 26 3 ty 3 Y _ .i64 .i64 dR fL hi O (some ⟨g,0,none⟩) xs ε _ a9 n Qu Qu Qu Qu RF (by rw[FU];exact growslice_fits Qu Qu);have G:=grown ε (Value.ownBlock (.slice (bH g) xs ε)) Qu;rw[ă n,<-H]at J;exact⟨_,_,J,G.1,G.2,au rfl⟩
def zz{E}(Jf:o.guard=none)s x(Z:o.op=.call {callee:=.builtin .append,args:=#[s,x],argTypes:=#[26,3]})B D W v xs n(H:aE W B v xs)(O:Below B D W)(Y:xs.length+n<=1048576)(F:B<=(W:Nat))(ab:a.eval s=v)(ac:a.eval x=.int .i64 n)(J:∀A c w',aE w' B (.slice A (xs.length+n) c) (xs++List.replicate n 0)->Below B D w'->(W:Nat)<=w'.heap.size->K (a.put o.dst (.slice A (xs.length+n) c)) w'):if Region.wanted o (yielded ops a.tmps)=true then Oper.wp prog o a W K Q else E:=by rw[ak Tz];obtain⟨u,w',I,h,G,-⟩:=zdu o.type W B v xs n H Y F;obtain⟨A,c,rfl,-⟩:=h.p;have U:(xs++List.replicate n (0:Int)).length=xs+n:=Qt;rw[U]at h I;exact Lib.wp_append_run W s x 26 3 Z _ _ ab ac _ _ I (J A c w' h (O.grown G F fun k T=>(bS H k T).1) G.size)
end Go.Proofs.YtpieilkmmiopfaaGreatDoor
