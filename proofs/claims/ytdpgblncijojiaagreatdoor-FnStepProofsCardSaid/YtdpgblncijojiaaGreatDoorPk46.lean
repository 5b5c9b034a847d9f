/- Parts of the walks. Conditions: as stated with each. -/
import Derived.Test.YtdpgblncijojiaaGreatDoorPk41
import Derived.Test.YtdpgblncijojiaaGreatDoorPk45
namespace Go.Proofs.YtdpgblncijojiaaGreatDoor
open Go.RowKit Tryz
set_option linter.all false
set_option maxHeartbeats 16000000
set_option maxRecDepth 100000
variable{A:aq}{C:Code}{D K b c j k lo m x:Nat}{H Rw u v v0 v1 v2 z2:av}{Rq:aH}{V w w':aa}{cs:gq}{h h' p:Int}{row:Option Nat}{t:dE}
def SyP(p:Int)(lo:Nat)(w':aa)(v:av):Prop:=∃(S:Sy) (A:aq) (c:Nat),v=.agg (ae S.v S.h A S.rows c)/\S.Ok p/\aI w' lo (.slice A S.rows c) S.rows
def zaH{v h:Nat}{rows:aC}(B:cP p=true)(I:v<=24)(H:h<=100)(E:rows.length<=160)(D:Dm p (v+h) rows):Sy.Ok p ⟨(v:Nat),(h:Nat),rows⟩:=by have z:=et B;exact⟨B,z.1,z.2,SP,SP,SP,SP,E,fun r h=>by have:=(D r h).1;dsimp only;omega,fun r h x F=>by have:=(D r h).2 x F;omega⟩
def Dr(v0 v1:av)(w:aa):(Instr.field 154 (.agg #[v0,v1]) 1).run prog w=.ok v1 w:=RU
def fu(w:aa)(b:Nat)(v0 v1 v2:av):World:=((w.setCell ⟨b,0,none⟩ v0).setCell ⟨b,1,none⟩ v1).setCell ⟨b,2,none⟩ v2
def jY(h:cy C b m V)(z:b<x):cy C b m (fu V x v0 v1 v2):=((h.iM (a:=⟨x,0,none⟩) z v0).iM (a:=⟨x,1,none⟩) z v1).iM (a:=⟨x,2,none⟩) z v2
def gQ(h:w.grownBy V row)(z:(w:Nat)<=x):w.grownBy (fu V x v0 v1 v2) row:=bV (bV (bV h (a:=⟨x,0,none⟩) z v0) (a:=⟨x,1,none⟩) z v1) (a:=⟨x,2,none⟩) z v2
def iE{rows:aC}(h:aI V D v rows)(z:x<D):aI (fu V x v0 v1 v2) D v rows:=((h.setCell (a:=⟨x,0,none⟩) z v0).setCell (a:=⟨x,1,none⟩) z v1).setCell (a:=⟨x,2,none⟩) z v2
def eX(h:aW V b #[H,Rw,z2] t):(fu V b v0 v1 v2).heap[b]?=some (.cells #[v0,v1,v2] t (0,0)):=gh h
def zer(C:Code)(b m:Nat)(w:aa)(p q:Int)(size n:Nat)(E:q=(n:Int))(z:cy C b m w)(B:m<=274877906944)(F:size<=1024)(D:n<=1024):ax 89 (yU (aX b) p size q) w (kQ C b (m+4194400) (fun w' v=>∃rows,rows.length<=n/\Dm p size rows/\aI w' w v rows) w):=by subst E;exact zgf C b m w p size n z B F D
def AG(C:Code)(b m:Nat)(w:aa)(p:Int)(br:cy C b m w)(ea:m<=274877600000)(am:cP p=true):ax 87 (lM (aX b) p) w (kQ C b (m+60000) (SyP p w) w):=by
 have b2:=(et am).1;have b3:=(et am).2;have a0:=aD w (.cells aQ 26) rfl;have bo:=aE w (.cells aQ 26);obtain⟨cb,D,b8⟩:=dD am br.lt br;clear br am;go_enter func87,ntmps87
 go_upto_region 1 with(fail)
 generalize w.alloc _=W at bo a0 ⊢;obtain⟨ch,a4,cn⟩:=dD a0 bo (show(w:Nat)<W from(aP.1 a0).1);clear a0 bo;go_upto_if 7 with(go_at_call 46;(with_reducible refine(gH C b m W 2 (b8.o.ext a4.o) Ry).mono ?_);rintro e c6 ⟨v,rfl,⟨y,rfl⟩,cr,ao⟩;have a5:=zH cr;have a7:=zH ((aN (row:=some b) a4.o).trans ao);have ba:=zH (bD ch.o ao D.o);have d7:=zH (gz cn.o ao.size);clear cr ao;cases y)
 .go_upto_region 4 with(first
   |(go_at_call 88;(with_reducible refine(cY C b (m+2) c6 5 a5.o Ry).mono ?_);rintro e a3 ⟨v,rfl,⟨i,rfl,R,-⟩,O,E⟩;have Fi:=zH (Ry:i<=4);have Z:=zH O;have ab:=zH (a7.o.trans E);have I:=zH (bD ba.o E D.o);clear O E R)
   |(go_at_call 88;(with_reducible refine(cY C b (m+4) a3 4 Z.o Ry).mono ?_);rintro e H ⟨v,rfl,⟨o,rfl,R,-⟩,ct,bz⟩;have FF:=zH (Ry:o<=3);have b9:=zH ct;have cc:=zH (ab.o.trans bz);have bb:=zH (bD I.o bz D.o);clear ct bz R))
  have U:=aD H (.cells (wk i o) 26) rfl;have J:=aE H (.cells (wk i o) 26);obtain⟨be,ci,ca,ce,ET⟩:=l_ U (aA bb.o J) (b9.o.ext J) (cc.o.trans (aN J)) (show b < (w:Nat)/\(w:Nat)<H from⟨D.o,(aP.1 bb.o).1⟩);generalize H.alloc _=V at U J be ci ca ce ⊢;generalize (H:Nat)=z at U be ET ⊢;obtain⟨b6,b7,-⟩:=al (show V.drew.heap[z]?=_ from U);have co:=aY b6 b7;obtain⟨c5,a1⟩:=aK (i+o);have Fc:=zH a1;have eg:IntKind.i64.wrap ((i:Int)+(o:Int))=(c5:Int):=VU;clear a1;clear U J b9 cc bb Z ab I a5 a7 ba a4 ch b8 cn b6 b7 W;refine bk (S:=fun V=>af V z 0 (zI (i:Nat))/\af V z 1 (zI (o:Nat))) 12 RU co (fun hHeld=>?_);refine ay 0 ?_;refine ay 1 ?_;refine ay 2 ?_;refine ay 4 ?_;refine ay 5 ?_;refine ay 6 ?_;refine ay 7 ?_;refine ay 8 ?_;refine bu 3 fun K hK=>?_
  go_simp
  (with_reducible refine(cY C b (m+6) V.drew 6 (ca.o.ext (aF V)) Ry).mono ?_)
  rintro e b4 ⟨v,rfl,⟨r,rfl,R,-⟩,cu,cI⟩;obtain⟨cj,bd,c7⟩:=dD (Ry:r<=5) ((aN (row:=some b) (aF V)).trans cI) cu;have bi:=zH (bD be.o bd.o Tx);obtain⟨c0,c4,-⟩:=al bi.o;clear cu cI R;go_simp;refine hK.out _ _ (fun _=>⟨c0,c4⟩) (fun hHeld=>?_);clear hK K;try simp only[Act.put,zA]
  have hHeld:=hHeld RC;refine bu 9 fun K hK=>?_
  go_simp
  (with_reducible refine(zby C b (m+6+2) b4 p r c5 c7.o Ry b2 b3 (by have:=cj.o;omega) Wg).mono ?_)
  rintro e b5 ⟨v,rfl,⟨g,rfl,rows,F,cR,cO⟩,cz,ap⟩;obtain⟨bm,dT,Fo,c8,da,db,d0,dl⟩:=zH8 (bD bi.o ap Tx) (bD ci.o (bd.o.trans ap) D.o) (show z < (b4:Nat) from(aP.1 bi.o).1) cz ((ce.o.trans bd.o).trans ap) F cR cO;obtain⟨t0,t1,t2⟩:=al bm.o;have f2:=aS bm.o 2;clear cz ap F cR cO c0 c4;go_simp;refine hK.out _ _ (fun _=>⟨t0,t1⟩) (fun hHeld=>?_);clear hK K;try simp only[Act.put,zA]
  have hHeld:=hHeld RC;have d2:=Dr;refine ay 10 ?_;refine ay 11 ?_;clear d2;refine bu 12 fun K hK=>?_
  go_simp;refine hK.out _ _ (fun h=>absurd h RC) (fun hHeld=>?_);clear hK K;try simp only[Act.put,zA]
  refine dS RU ?_ _;have a2:=bw b5 z 2 _ _ (.slice (aX g) r r) bm.o;simp only[zA]at a2;have B:=(bx b5 ⟨z,2,none⟩ (.slice (aX g) r r) w VR).trans dT.o;have b1:=dl.o.setCell (a:=⟨z,2,none⟩) (by have:=Fo.o;show z < (b4:Nat)+1;omega) (.slice (aX g) r r);have bv:=c8.o.iM (a:=⟨z,2,none⟩) UH (.slice (aX g) r r);have b0:=bV da.o (a:=⟨z,2,none⟩) VQ (.slice (aX g) r r);generalize b5.setCell ⟨z,2,none⟩ _=ej at a2 B b1 bv b0 ⊢;clear co t0 t1 t2 f2 hHeld;obtain⟨b6,b7,ek⟩:=al a2;obtain⟨d4,d5,d6⟩:=al B;obtain⟨f0,f1,f2⟩:=bt B;have T:=eX (v0:=.int .i64 (i:Nat)) (v1:=.int .i64 (o:Nat)) (v2:=.slice (aX g) r r) B;obtain⟨u0,u1,u2⟩:=al T;unfold fu at u0 u1 u2;obtain⟨ac,a6,a8⟩:=dD (iE (x:=w.heap.size) (v0:=.int .i64 (i:Nat)) (v1:=.int .i64 (o:Nat)) (v2:=.slice (aX g) r r) b1 U4) (jY (x:=w.heap.size) (v0:=.int .i64 (i:Nat)) (v1:=.int .i64 (o:Nat)) (v2:=.slice (aX g) r r) bv D.o) (gQ (x:=w.heap.size) (v0:=.int .i64 (i:Nat)) (v1:=.int .i64 (o:Nat)) (v2:=.slice (aX g) r r) b0 (ah _));clear a2 B b1 bv b0 T;go_wp2;refine az (v:=.agg (yT i o (aX g) r r)) Vd rfl ⟨_,rfl,?_,a6.o.mono Ry,a8.o⟩;have F:=db.o;have eb:=cj.o;have d8:=Fi.o;have d9:=FF.o;have a1:=Fc.o;have ee:=Fo.o;have ei:=ET.o;have Q:=ac.o;rw[<-F]at Q;refine⟨⟨(i:Nat),(o:Nat),rows⟩,some ⟨g,0,none⟩,r,by rw[F],zaH cb.o Ry Ry Ry (by rw[<-a1];exact d0.o),?_⟩;exact aI.mono (by have h:=ac.o;rw[show(⟨(i:Nat),(o:Nat),rows⟩:Sy).rows.length=r from F];exact h) Ry
 .go_wp2_with (first
   |(go_at_call 116;(with_reducible refine(zdN C b (m+2) c6 p a5.o Ry b2 b3).mono ?_);rintro e a3 ⟨v,rfl,⟨G,A1,c1,A2,c2,A3,c3,rfl,cK,cF⟩,O,E⟩;have a9:=zH cK;have c9:=zH cF;have Z:=zH O;have ab:=zH (a7.o.trans E);have I:=zH (bD ba.o E D.o);clear cK cF O E)
   |(go_at_call 115;(with_reducible refine(zel p G A1 A2 A3 c1 c2 c3 a3 b2 b3 c9.o.now a9.o.ok a9.o.val).mono ?_);intro e H h;unfold zhm at h;obtain⟨A,c,d1,Q,ad,d3⟩:=h;subst d1;obtain⟨S,bp⟩:∃S,S=G.sys p:=⟨_,rfl⟩;rw[<-bp]at Q ⊢;have dc:=zH (by rw[bp];exact Gr.zfH cb.o a9.o.ok:S.Ok p);have B:=aA I.o ad;obtain⟨d4,d5,d6⟩:=al B;have f0:=aS B 0;have f1:=aS B 1;have f2:=aS B 2;have T:=eX (v0:=.int .i64 S.v) (v1:=.int .i64 S.h) (v2:=.slice A S.rows c) B;obtain⟨u0,u1,u2⟩:=al T;unfold fu at u0 u1 u2;have FE:=zH (show(w:Nat)<a3 from(aP.1 I.o).1);have ac:=zH (iE (x:=w.heap.size) (v0:=.int .i64 S.v) (v1:=.int .i64 S.h) (v2:=.slice A S.rows c) Q Tu);have a6:=zH (jY (x:=w.heap.size) (v0:=.int .i64 S.v) (v1:=.int .i64 S.h) (v2:=.slice A S.rows c) (Z.o.ext ad) D.o);have a8:=zH (gQ (x:=w.heap.size) (v0:=.int .i64 S.v) (v1:=.int .i64 S.h) (v2:=.slice A S.rows c) (ab.o.trans (aN ad)) (ah _));clear bp Q ad d3 B T))
  refine az (v:=.agg (ae S.v S.h A S.rows c)) Vd rfl ⟨_,rfl,?_,a6.o.mono Ry,a8.o⟩;exact⟨S,A,c,rfl,dc.o,ac.o.mono Tu⟩
def mU(C:Code)(b m:Nat)(w:aa)(p:Int)(a6:cy C b m w)(c5:m<=274877500000)(b9:cP p=true):ax 44 (lM (aX b) p) w (kQ C b (m+4300000) (SyP p w) w):=by
 have U:=aD w (.cells aQ 26) rfl;have a5:=aE w (.cells aQ 26);obtain⟨bv,D,bm⟩:=dD b9 a6.lt a6;clear a6 b9;go_enter func44,ntmps44
 go_upto_region 1 with(fail)
 generalize w.alloc _=W at a5 U ⊢;obtain⟨b2,ac,b5⟩:=dD U a5 (show(w:Nat)<W from(aP.1 U).1);clear U a5;go_upto_if 7 with(go_at_call 46;(with_reducible refine(gH C b m W 3 (bm.o.ext ac.o) Ry).mono ?_);rintro e ch ⟨v,rfl,⟨y,rfl⟩,b6,R⟩;have ad:=zH b6;have ao:=zH ((aN (row:=some b) ac.o).trans R);have a1:=zH (bD b2.o R D.o);have a3:=zH (gz b5.o R.size);clear b6 R;cases y)
 .go_upto_region 4 with(first
   |(go_at_call 88;(with_reducible refine(cY C b (m+2) ch 4 ad.o Ry).mono ?_);rintro e cI ⟨v,rfl,⟨i,rfl,be,-⟩,I,E⟩;have Fi:=zH (Ry:i<=3);have bo:=zH I;have bz:=zH (ao.o.trans E);have b3:=zH (bD a1.o E D.o);clear I E be)
   |(go_at_call 88;(with_reducible refine(cY C b (m+4) cI 4 bo.o Ry).mono ?_);rintro e F ⟨v,rfl,⟨o,rfl,be,-⟩,b7,a8⟩;have FF:=zH (Ry:o<=3);have bp:=zH b7;have b0:=zH (bz.o.trans a8);have a2:=zH (bD b3.o a8 D.o);clear b7 a8 be))
  have O:=aD F (.cells (wk i o) 26) rfl;have H:=aE F (.cells (wk i o) 26);obtain⟨Q,b4,br,b1,ET⟩:=l_ O (aA a2.o H) (bp.o.ext H) (b0.o.trans (aN H)) (show b < (w:Nat)/\(w:Nat)<F from⟨D.o,(aP.1 a2.o).1⟩);generalize F.alloc _=V at O H Q b4 br b1 ⊢;generalize (F:Nat)=z at O Q ET ⊢;obtain⟨ci,cj,-⟩:=al O;obtain⟨ce,Z⟩:=aK (i+o);have Fc:=zH Z;have c7:IntKind.i64.wrap ((i:Int)+(o:Int))=(ce:Int):=VU;clear Z O H bp b0 a2 bo bz b3 ad ao a1 a3 ac b2 bm b5 W;go_upto_region 5 with(go_at_call 89;(with_reducible refine(zer C b (m+6) V p 5 ce 5 rfl br.o Ry Wg RC).mono ?_);rintro e bi ⟨v,rfl,⟨rows,ba,cc,bd⟩,b8,T⟩;obtain⟨A,c,rfl,-⟩:=bd.view;have a4:=zH (bD Q.o T Tx);have cz:=zH (bD b4.o T D.o);have Fo:=zH (show z < (V:Nat) from(aP.1 Q.o).1);have cn:=zH b8;have co:=zH (b1.o.trans T);have cr:=zH ba;have cF:=zH cc;have cu:=zH bd;obtain⟨t0,t1,t2⟩:=al a4.o;have f2:=aS a4.o 2;clear b8 T ba cc bd)
  have ab:=bw bi z 2 _ _ (.slice A rows c) a4.o;simp only[zA]at ab;have B:=(bx bi ⟨z,2,none⟩ (.slice A rows c) w VR).trans cz.o;have bb:=cu.o.setCell (a:=⟨z,2,none⟩) Fo.o (.slice A rows c);have a7:=cn.o.iM (a:=⟨z,2,none⟩) UH (.slice A rows c);have a9:=bV co.o (a:=⟨z,2,none⟩) VQ (.slice A rows c);generalize bi.setCell ⟨z,2,none⟩ _=c9 at ab B bb a7 a9 ⊢;clear t0 t1 t2 f2 ci cj;obtain⟨ci,cj,da⟩:=al ab;obtain⟨cK,cO,cR⟩:=al B;obtain⟨f0,f1,f2⟩:=bt B;have J:=eX (v0:=.int .i64 (i:Nat)) (v1:=.int .i64 (o:Nat)) (v2:=.slice A rows c) B;obtain⟨u0,u1,u2⟩:=al J;unfold fu at u0 u1 u2;obtain⟨a0,am,ap⟩:=dD (iE (x:=w.heap.size) (v0:=.int .i64 (i:Nat)) (v1:=.int .i64 (o:Nat)) (v2:=.slice A rows c) bb U4) (jY (x:=w.heap.size) (v0:=.int .i64 (i:Nat)) (v1:=.int .i64 (o:Nat)) (v2:=.slice A rows c) a7 D.o) (gQ (x:=w.heap.size) (v0:=.int .i64 (i:Nat)) (v1:=.int .i64 (o:Nat)) (v2:=.slice A rows c) a9 (ah _));clear ab B bb a7 a9 J;go_wp2;refine az (v:=.agg #[(i:Nat),(o:Nat),.slice A rows c]) Vc rfl ⟨_,rfl,?_,am.o.mono Ry,ap.o⟩;have ba:=cr.o;have c0:=Fi.o;have c4:=FF.o;have Z:=Fc.o;have c6:=Fo.o;have c8:=ET.o;exact⟨⟨(i:Nat),(o:Nat),rows⟩,A,c,rfl,zaH bv.o Ry Ry Ry (by rw[<-Z];exact cF.o),a0.o.mono Ry⟩
 .go_wp2_with (go_at_call 87;(with_reducible refine(AG C b (m+2) ch p ad.o Ry bv.o).mono ?_);rintro e F ⟨v,rfl,⟨S,A,c,rfl,cb,ca⟩,I,E⟩;have ct:=zH cb;have B:=bD a1.o E D.o;obtain⟨cK,cO,cR⟩:=al B;have f0:=aS B 0;have f1:=aS B 1;have f2:=aS B 2;have J:=eX (v0:=.int .i64 S.v) (v1:=.int .i64 S.h) (v2:=.slice A S.rows c) B;obtain⟨u0,u1,u2⟩:=al J;unfold fu at u0 u1 u2;have a0:=zH (iE (x:=w.heap.size) (v0:=.int .i64 S.v) (v1:=.int .i64 S.h) (v2:=.slice A S.rows c) ca a3.o);have am:=zH (jY (x:=w.heap.size) (v0:=.int .i64 S.v) (v1:=.int .i64 S.h) (v2:=.slice A S.rows c) I D.o);have ap:=zH (gQ (x:=w.heap.size) (v0:=.int .i64 S.v) (v1:=.int .i64 S.h) (v2:=.slice A S.rows c) (ao.o.trans E) (ah _));clear cb ca I E B J)
  refine az (v:=.agg (ae S.v S.h A S.rows c)) Vc rfl ⟨_,rfl,?_,am.o.mono Ry,ap.o⟩;exact⟨S,A,c,rfl,ct.o,a0.o.mono (by have:=a3.o;omega)⟩
def AnP(lo:Nat)(w':aa)(u:av):Prop:=∃(S:Sy) (A:aq) (c:Nat),u=.agg (ae S.v S.h A S.rows c)/\(S.rows.length<=1048576/\∀r∈S.rows,r.length<=1048576)/\aI w' lo (.slice A S.rows c) S.rows
def SyP.any(h:SyP p lo w' u):AnP lo w' u:=by obtain⟨S,A,c,z,B,D⟩:=h;have hs:=B.small;exact⟨S,A,c,z,⟨S_,fun r hr=>Ui⟩,D⟩
def ou{fr:gY}{rows:aC}(h:aI w D v rows)(z:w.heap[b]?=some (.cells cs 26 fr)):aI (w.setCell ⟨b,j,none⟩ u) D v rows:=by obtain⟨us,h⟩:=h;exact⟨us,h.jk z⟩
def AnI(C:Code)(b K z:Nat)(w V:aa):Prop:=∃(v h:Int) (rows:aC) (A:aq) (c:Nat),aW V z (ae v h A rows c) 26/\aW V w aQ 26/\(rows.length<=1048576/\∀r∈rows,r.length<=1048576)/\aI V ((w:Nat)+1) (.slice A rows c) rows/\cy C b K V/\w.grownBy V (some b)
def AnI.set{v v':Int}{rows:aC}(z:aW V D (ae v h A rows c) 26)(I:aW V w aQ 26)(O:b < (w:Nat)/\(w:Nat)<D)(J:rows.length<=1048576/\∀r∈rows,r.length<=1048576)(H:aI V ((w:Nat)+1) (.slice A rows c) rows)(B:cy C b K V)(E:w.grownBy V (some b))(F:(#[Value.int .i64 v,.int .i64 h,.slice A rows c].setIfInBounds j u)=#[Value.int .i64 v',.int .i64 h',.slice A rows c]):AnI C b K D w (V.setCell ⟨D,j,none⟩ u):=⟨v',h',rows,A,c,by rw[bw V D j _ _ u z,F],(bx _ _ _ _ (by show w.heap.size≠D;omega)).trans I,J,ou H z,B.iM (a:=⟨D,j,none⟩) (by show b<D;omega) _,bV E (a:=⟨D,j,none⟩) (by show(w:Nat)<=D;omega) _⟩
def zhw{z:Nat}{rows:aC}{fr:gY}(h:aI V D v rows)(hz:V.heap[z]?=some (.cells cs 26 fr)):some z≠v.ownBlock:=by obtain⟨us,h⟩:=h;exact YN
def zc_{rows:aC}{x:Int}(h:aI V D (.slice A rows c) rows)(E:rows[0]?=some Rq)(ad:Rq[0]?=some x):∃g z B,A=some ⟨g,0,none⟩/\af V g 0 (.slice (aX z) Rq B)/\af V z 0 (zI x)/\V.frozen? ⟨z,0,none⟩=false/\D<=z/\(∃cur,aW V z cur 3)/\∀y:Int,aI (V.setCell ⟨z,0,none⟩ (zI y)) D (.slice A rows c) (rows.set 0 (Rq.set 0 y)):=by
 obtain⟨us,h⟩:=h;obtain⟨I,am,ao,e,ac,Q,-,-,-,Z⟩:=h.at E;obtain⟨z,B,F,R,T,O,-,-,ab⟩:=h.fB E ad;rw[ac]at F;cases F
 obtain⟨-,J|⟨ap,cap,cur,H,-,U,-⟩⟩:=Z
 .cases J.1
 cases H
 exact⟨I,z,_,e,Q,R,T,O,⟨cur,U⟩,fun y=>⟨us,(ab y).1⟩⟩
def zaN(z:Nat)(V:aa):Nat:=match V.cell? ⟨z,2,none⟩with|some (.slice _ n _)=>n|_=>0
def AnL(C:Code)(b K z:Nat)(v h:Int)(w V:aa):Prop:=∃(rows:aC) (A:aq) (c:Nat),rows.length<=161/\(∀r∈rows,r.length<=1048576)/\aW V z (ae v h A rows c) 26/\aW V w aQ 26/\aI V ((w:Nat)+1) (.slice A rows c) rows/\cy C b (K+2*rows.length) V/\w.grownBy V (some b)
def gk(h:k≠b):(fu V b v0 v1 v2).heap[k]?=V.heap[k]?:=(bx _ _ _ _ h).trans ((bx _ _ _ _ h).trans (bx _ _ _ _ h))
def tS(C:Code)(b m:Nat)(w:aa)(p:Int)(Z:cy C b m w)(hm:m<=274877500000)(e9:cP p=true):ax 54 (lM (aX b) p) w (kQ C b (m+61000) (AnP w) w):=by
 have B:=aD w (.cells aQ 26) rfl;have b2:=aE w (.cells aQ 26);have d5:(w.alloc (.cells aQ 26):Nat)=w+1:=Rx;obtain⟨gb,Ez,d7⟩:=dD e9 Z.lt Z;clear Z e9;go_enter func54,ntmps54
 go_upto_region 1 with(fail)
 generalize w.alloc _=W at b2 B d5 ⊢;obtain⟨ei,cz,em⟩:=dD B b2 d5;clear B b2 d5;go_upto_region 2 with(go_at_call 87;(with_reducible refine(AG C b m W p (d7.o.ext cz.o) Ry gb.o).mono ?_);rintro e bp ⟨u,rfl,⟨⟨v,h,rows⟩,A,c,rfl,fo,bb⟩,e7,d1⟩;have O:=zH (show Sys p v h rows from fo);have HO:=zH (show aI bp W (.slice A rows c) rows from bb);have d8:=zH e7;have ea:=zH ((aN (row:=some b) cz.o).trans d1);have c7:=zH (bD ei.o d1 Ez.o);clear fo bb e7 d1)
 have I:=aD bp (.cells (ae v h A rows c) 26) rfl;have bo:=aE bp (.cells (ae v h A rows c) 26);obtain⟨HZ,ET,HQ,c4,cF,cO⟩:=lq I (show b < (w:Nat)/\(w:Nat)<bp from⟨Ez.o,(aP.1 c7.o).1⟩) (aA c7.o bo) ((HO.o.mono (lQ em.o.symm)).ext bo) (d8.o.ext bo) (ea.o.trans (aN bo));generalize bp.alloc _=es at I bo HZ HQ c4 cF cO ⊢;generalize (bp:Nat)=z at I HZ ET ⊢;have Fu:=zH (show rows.length<=1048576/\∀r∈rows,r.length<=1048576 from⟨by have:=O.o.n;omega,fun r hr=>by have:=O.o.len r hr;have:=O.o.v24;have:=O.o.h100;omega⟩);have b8:0<=v/\v<=24/\0<=h/\h<=100:=⟨O.o.v0,O.o.v24,O.o.h0,O.o.h100⟩;clear I bo HO d8 ea c7 ei cz em d7 W;go_upto_block 0 with(go_at_call 88;(with_reducible refine(cY C b (m+60000) es 30 cF.o Ry).mono ?_);rintro e H ⟨u,rfl,⟨r,rfl,hr,-⟩,e8,b6⟩;have en:=zH (bD HZ.o b6 Tx);have ej:=zH (bD HQ.o b6 Ez.o);have eg:=zH (c4.o.drawn b6 Tw);have d9:=zH e8;have eb:=zH (cO.o.trans b6);clear e8 b6 hr)
 clear HZ HQ c4 cF cO es;have HZ:=en;have HQ:=ej;have HO:=eg;have HC:=d9;have HG:=eb;clear en ej eg d9 eb;go_cut [] from 11 to 81 (fun V=>AnI C b (m+61000) z w V)
 case first=>
  by_cases h0:r=0
  .subst h0;obtain⟨cb,cc,br⟩:=al HZ.o;have f0:=aS HZ.o 0;have f3:IntKind.i64.wrap (v+1)=v+1:=Sq;clear b8;go_wp2_with (go_at_call 85;refine(iw C b (m+60000+2) H [-1,v+1,25,4611686018427387904] _ HC.o Ry rfl Rx Rx 4 rfl).mono ?_;rintro e dc ⟨u,rfl,⟨x,-,rfl⟩,a0,E⟩;have am:=bD HZ.o E Tx;obtain⟨f8,f9,z2⟩:=al am;have e0:=aS am 0;have HE:=zH (AnI.set (j:=0) (u:=.int .i64 x) (v':=x) (h':=h) am (bD HQ.o E Ez.o) ET.o Fu.o (HO.o.drawn E Tw) a0 (HG.o.trans E) rfl);clear am a0 E)
   exact YV
  have dl:((r:Int)==0)=false:=Se;by_cases ch:r=1
  .subst ch;clear dl h0;obtain⟨cb,cc,br⟩:=al HZ.o;have f0:=aS HZ.o 1;have f3:IntKind.i64.wrap (h+1)=h+1:=Sq;clear b8;go_wp2_with (go_at_call 85;refine(iw C b (m+60000+2) H [-1,h+1,101] _ HC.o Ry rfl Rx Rx 3 rfl).mono ?_;rintro e dc ⟨u,rfl,⟨x,-,rfl⟩,a0,E⟩;have am:=bD HZ.o E Tx;obtain⟨f8,f9,z2⟩:=al am;have e0:=aS am 1;have HE:=zH (AnI.set (j:=1) (u:=.int .i64 x) (v':=v) (h':=x) am (bD HQ.o E Ez.o) ET.o Fu.o (HO.o.drawn E Tw) a0 (HG.o.trans E) rfl);clear am a0 E)
   exact YV
  have ev:((r:Int)==1)=false:=RX;by_cases dT:r=2
  .subst dT;clear dl h0 ev ch;obtain⟨cb,cc,br⟩:=al HZ.o;by_cases g4:0<rows.length
   .have g5:0 < (rows:Int):=Ry;obtain⟨bd,cj⟩:=aw g4;have gR:∃g bv bm,A=some ⟨g,0,none⟩/\af H g 0 (.slice bv bd bm)/\(w:Nat)+1<=g:=by obtain⟨us,g8⟩:=HO.o;obtain⟨g,bv,bm,be,-,b4,-,b2,-,-⟩:=g8.at cj;exact⟨g,bv,bm,be,b4,b2⟩
    obtain⟨g,bv,bm,be,b4,gV⟩:=gR;subst be;have gd:=zH (show b<g by have:=Ez.o;omega);clear gV;by_cases g2:0<bd.length
    .have g3:0 < (bd:Int):=Ry;obtain⟨x,f4⟩:=aw g2;have g0:∃F,bv=some ⟨F,0,none⟩:=by
      obtain⟨hh,F,he,be,b9,-⟩:=zc_ HO.o cj f4;cases be
      rw[b4]at b9;cases b9
      exact⟨F,rfl⟩
     obtain⟨F,rfl⟩:=g0;go_upto_region 9 with(fail)
     have Q:=aY (show af H.drew z 2 (.slice (aX g) rows c) from br) (show af H.drew g 0 (.slice (aX F) bd bm) from b4);obtain⟨ao,ac,U,ad,ap⟩:=l_ (HC.o.ext (aF H)) (HO.o.ext (aF H)) (aA HZ.o (aF H)) (aA HQ.o (aF H)) (HG.o.trans (aN (aF H)));clear cb cc br b4;refine bk (S:=fun V=>af V z 2 (.slice (aX g) rows c)/\af V g 0 (.slice (aX F) bd bm)) 9 RU Q (fun hHeld=>?_);generalize H.drew=ab at Q ao ac U ad ap hHeld ⊢;clear Q;refine ay 0 ?_;refine ay 1 ?_;refine ay 2 ?_;refine ay 3 ?_;refine ay 4 ?_;refine ay 5 ?_;refine bu 6 fun K hK=>?_
     go_simp;refine hK.out _ _ (fun _=>mR (aE ab _) hHeld) (fun e2=>?_);clear hK K;try simp only[Act.put,zA]
     have e2:=e2 RC;refine bu 7 fun K hK=>?_
     go_simp;refine(iw C b (m+60000+2) ab [p,-1] _ ao.o Ry rfl Rx Rx 2 rfl).mono ?_;rintro e ca ⟨u,rfl,⟨y,-,rfl⟩,ba,D⟩;obtain⟨b1,hk,hf,be,b9,hp,hq,hd,⟨cur,d6⟩,f6⟩:=zc_ (ac.o.drawn D Tw) cj f4;cases be
     have d4:=gX (W:=ca) (p:=⟨g,0,none⟩) (D.block g (iK _ _ hHeld.2) (fun e=>by have e:=eE e;have:=gd.o;omega)) hHeld.2;rw[d4]at b9;cases b9
     have R:=bD U.o D Tx;have fs:=bD ad.o D Ez.o;obtain⟨-,-,t2⟩:=al R;have gB:=aY t2 d4;have fl:z≠F:=fun e=>by subst e;rw[R]at d6;simp at d6
     have HE:=zH (show AnI C b (m+60000+2+2) z w (ca.setCell ⟨F,0,none⟩ (zI y)) from⟨v,h,rows.set 0 (bd.set 0 y),_,c,by rw[fx];exact(bx _ _ _ _ (by show z≠F;exact fl)).trans R,(bx _ _ _ _ (by show w.heap.size≠F;omega)).trans fs,⟨by rw[fx];exact Fu.o.1,fun q B=>(by rcases wI B with B|rfl;exact Fu.o.2 q B;rw[fx];exact Fu.o.2 bd (aR cj))⟩,by rw[fx];exact f6 y,ba.iM (a:=⟨F,0,none⟩) (by have:=Ez.o;show b<F;omega) _,bV (ap.o.trans D) (a:=⟨F,0,none⟩) (by show(w:Nat)<=F;omega) _⟩);clear ba D hd d6 f6 R fs fl t2 d4;go_simp;refine hK.out _ _ (fun _=>gB) (fun hHeld=>?_);clear hK K;try simp only[Act.put,zA]
     have hHeld:=hHeld RC;refine ay 8 ?_;refine bu 9 fun K hK=>?_
     go_simp;refine hK.out _ _ (fun h=>absurd h RC) (fun hHeld=>?_);clear hK K;try simp only[Act.put,zA]
     refine dS RU ?_ _;clear hHeld;go_wp2_with fail
     exact YV
    .have g3:¬0 < (bd:Int):=Ry;go_wp2_with fail
     go_meet
     exact⟨v,h,rows,_,c,HZ.o,HQ.o,Fu.o,HO.o,HC.o.mono Ry,HG.o⟩
   .have g5:¬0 < (rows:Int):=Ry;exact Yb
  have gK:((r:Int)==2)=false:=RX;by_cases d0:r=3
  .have eA:((r:Int)==3)=true:=by simp[d0]
   clear h0 ch dT d0;obtain⟨hc,g1,g9,ha,hb⟩:=cM fq;obtain⟨J,g7⟩:∃J:Nat,J=(v+h).toNat:=⟨_,rfl⟩;have bz:=zH (Ry:v+h=(J:Int)/\J<=124);have ho:IntKind.i64.wrap (v+h)=v+h:=Sq;have e5:AnL C b (m+60002) z v h w H:=⟨rows,A,c,by have:=O.o.n;omega,Fu.o.2,HZ.o,HQ.o,HO.o,HC.o.mono Ry,HG.o⟩;have ee:=zH e5;clear e5 g7 b8 HZ HQ HO HC HG O Fu;go_wp2;go_loopw [] (fun wr=>Hd (AnL C b (m+60002) z v h w wr)) (fun wr=>161-zaN z wr)
   case atStart=>exact ee
   case round=>
    clear ee;have b3:=hrel.o;clear hrel;unfold AnL at b3;obtain⟨rows,A,c,cn,b7,I,B,bb,Z,b5⟩:=b3;obtain⟨db,e6⟩:=aK (m+60002+2*rows.length);rw[<-e6]at Z;obtain⟨FH,c9,Fu,ao,ac,U,ad,ap⟩:=zH8 (Ry:db<=274877700000/\db=m+60002+2*rows.length) cn b7 (Z.ext (aF wr)) (bb.ext (aF wr)) (aA I (aF wr)) (aA B (aF wr)) (b5.trans (aN (aF wr)));obtain⟨-,-,Q⟩:=al (show wr.drew.heap[z]?=_ from I);have fd:zaN z wr=rows.length:=by unfold zaN;rw[(al I).2.2]
    have gf:=zH fd;clear e6 cn b7 I B bb Z b5 fd;go_upto_region 11 with(fail)
    refine bk (S:=fun V=>af V z 2 (.slice A rows c)) 6 RU Q (fun hHeld=>?_);generalize wr.drew=ab at Q ao ac U ad ap hHeld ⊢;clear Q;refine ay 0 ?_;refine ay 1 ?_;refine ay 2 ?_;refine ay 3 ?_;refine bu 4 fun K hK=>?_
    go_simp
    (with_reducible refine(cY C b db ab 2 ao.o Ty).mono ?_)
    rintro e ca ⟨u,rfl,⟨ct,rfl,hr,-⟩,ba,D⟩;have hn:ct<=1:=Ry;have f3:IntKind.i64.wrap (160+(ct:Int))=160+(ct:Int):=Sq;obtain⟨b0,c8,c5,cI,cR⟩:=l_ (bD U.o D Tx) (bD ad.o D Ez.o) (ac.o.drawn D Tw) ba (ap.o.trans D);obtain⟨-,-,t2⟩:=al b0.o;clear ba D hr;go_simp;refine hK.out _ _ (fun _=>t2) (fun hHeld=>?_);clear hK K;try simp only[Act.put,zA]
    have hHeld:=hHeld RC;refine ay 5 ?_;refine bu 6 fun K hK=>?_
    go_simp;refine hK.out _ _ (fun h=>absurd h RC) (fun hHeld=>?_);clear hK K;try simp only[Act.put,zA]
    refine dS RU ?_ _;clear t2;by_cases hl:(rows:Int)<160+(ct:Int)
    .have cn:=c9.o;have ek:=zH (Ry:rows.length<=160);obtain⟨T,rfl⟩:∃T,T=ca:=⟨ca,rfl⟩;obtain⟨ao,ac,U,ad,ap⟩:=l_ (cI.o.ext (aF T)) (c5.o.ext (aF T)) (aA b0.o (aF T)) (aA c8.o (aF T)) (cR.o.trans (aN (aF T)));have Q:=al (show T.drew.heap[z]?=_ from b0.o);have da:=zH (show z < (T.drew:Nat)/\(w:Nat)+1<=T.drew from⟨(aP.1 U.o).1,(aP.1 ad.o).1⟩);go_upto_region 12 with(fail)
     refine bk (S:=fun V=>af V z 0 (zI v)/\af V z 1 (zI h)/\af V z 2 (.slice A rows c)) 9 RU Q (fun hHeld=>?_);generalize T.drew=ab at Q ao ac U ad ap da hHeld ⊢;clear Q b0 c8 c5 cI cR;refine ay 0 ?_;refine ay 1 ?_;refine ay 2 ?_;refine ay 3 ?_;refine ay 4 ?_;refine ay 5 ?_;refine ay 6 ?_;refine bu 7 fun K hK=>?_
     refine sF _ rfl (.tmp 67) (.tmp 67) 27 rfl ab 3 hc (zI 0) 1 dA g1 g9 ha .i64 .i64 (v+h) (v+h) J rfl rfl bz.o.1 bz.o.1 (by rw[hb];have:=bz.o;omega) (by unfold maxLen;have:=bz.o;omega) (ah _) ?_;intro f7 FV fa;rw[gl]at FV;obtain⟨bi,gw⟩:=bL (bT fa) (TO:au f7 ab (.slice (aX ab) J J) (List.replicate J 0));clear FV fa;refine hK.out _ _ (fun _=>ru bi.o hHeld) (fun e3=>?_);clear hK K;try simp only[Act.put,zA]
     have e3:=e3 RC;refine bu 8 fun K hK=>?_
     go_simp;refine hK.out _ _ (fun _=>ru (bi.o.alloc bi.o.size _) hHeld) (fun e4=>?_);clear hK K;try simp only[Act.put,zA]
     have e4:=e4 RC;refine bu 9 fun K hK=>?_
     refine lI rfl (.tmp 62) (.tmp 69) rfl ((w:Nat)+1) ab f7 (.slice A rows c) (.slice (aX ab) J J) rows (List.replicate J 0) ac.o bi.o gw.o (by have:=c9.o;omega) (by have:=da.o;omega) rfl rfl ?_;intro b1 ce cu fn ci g6 fb;have co:=(fb z (by have:=bi.o.size;have:=da.o;omega) (zhw ac.o U.o)).trans (aA U.o bi.o);have fz:=(ci.block w (jL _)).trans ad.o;obtain⟨t0,t1,t2⟩:=al co;have e1:=aS co 2;obtain⟨eo,gs,c6,cK,c0⟩:=l_ co fz fn (ao.o.below ci Tw) (jl ap.o (ci.mono Ry));clear co fz fn ci g6 fb;refine hK.out _ _ (fun h=>absurd h RC) (fun _=>?_);clear hK K;try simp only[Act.put,zA]
     refine bu 10 fun K hK=>?_
     go_simp;refine hK.out _ _ (fun h=>absurd h RC) (fun hHeld=>?_);clear hK K;try simp only[Act.put,zA]
     refine bu 11 fun K hK=>?_
     go_simp;refine hK.out _ _ (fun h=>absurd h RC) (fun hHeld=>?_);clear hK K;try simp only[Act.put,zA]
     refine dS RU ?_ _;have cr:=bw cu z 2 _ _ (.slice (aX b1) (rows.length+1) ce) eo.o;simp only[zA]at cr;have d3:AnL C b (m+60002) z v h w (cu.setCell ⟨z,2,none⟩ (.slice (aX b1) (rows.length+1) ce)):=
      ⟨rows++[List.replicate J 0],some ⟨b1,0,none⟩,ce,by have:=ek.o;simp;omega,fun q B=>by
       rcases eO.1 B with B|B
       .exact Fu.o q B
       .rw[gy.1 B,iU];have:=bz.o;omega,by rw[bS];exact cr,(bx _ _ _ _ VR).trans gs.o,by rw[bS];exact ou c6.o eo.o,(cK.o.iM (a:=⟨z,2,none⟩) UH _).mono (by have:=FH.o;simp;omega),bV c0.o (a:=⟨z,2,none⟩) VQ _⟩
     have d2:zaN z (cu.setCell ⟨z,2,none⟩ (.slice (aX b1) (rows.length+1) ce))=rows.length+1:=by unfold zaN;rw[(al cr).2.2]
     generalize cu.setCell ⟨z,2,none⟩ _=ht at d3 d2 ⊢;obtain⟨gm,gi⟩:=bL d3 d2;clear d3 d2 cr t0 t1 t2 e1 hHeld;go_wp2;go_roundw
     case rel=>exact gm
     case measure=>rw[gi.o,gf.o];have:=ek.o;omega
    .have cn:=c9.o;go_wp2;go_meet
     exact⟨v,h,rows,A,c,b0.o,c8.o,⟨Ry,Fu.o⟩,c5.o,cI.o.mono Ty,cR.o⟩
  have eA:((r:Int)==3)=false:=RX;by_cases gL:r=4
  .subst gL;clear dl h0 ev ch gK dT eA d0;obtain⟨cb,cc,br⟩:=al HZ.o;clear b8;go_wp2_with (first
    |(go_at_call 85;refine(iw C b (m+60000+2+2) dc [0,100,101] _ ga.o Ry rfl Rx Rx 3 rfl).mono ?_;rintro e gC ⟨u,rfl,⟨y,-,rfl⟩,ba,D⟩;have R:=bD gA.o D Tx;obtain⟨f8,f9,z2⟩:=al R;have e0:=aS R 0;have hj:=aS R 1;have e1:=aS R 2;have HE:=zH (show AnI C b (m+60000+2+2+2) z w (fu gC z (zI x) (zI y) (.slice none 0 0)) from⟨x,y,[],none,0,eX R,(gk Tx).trans (bD gn.o D Ez.o),⟨Rx,fun r hr=>RF⟩,⟨[],kX _ _ _ _,fun k u r h=>RR,fun i j u hs b h=>RR⟩,jY ba Tx,gQ (gc.o.trans D) Tx⟩);clear R ba D)
    |(go_at_call 85;refine(iw C b (m+60000+2) H [24,25] _ HC.o Ry rfl Rx Rx 2 rfl).mono ?_;rintro e dc ⟨u,rfl,⟨x,-,rfl⟩,a0,E⟩;have gA:=zH (bD HZ.o E Tx);have gn:=zH (bD HQ.o E Ez.o);have ga:=zH a0;have gc:=zH (HG.o.trans E);clear a0 E))
   exact YV
  have hg:((r:Int)==4)=false:=RX;exact Yb
 case rest=>
  clear HZ HQ HO HC HG Fu O;have b3:=hcut;clear hcut b8;unfold AnI at b3;obtain⟨v,h,rows,A,c,I,B,b7,bb,Z,b5⟩:=b3;obtain⟨V,rfl⟩:∃V,V=wc:=⟨wc,rfl⟩;obtain⟨cb,cc,br⟩:=al I;obtain⟨hu,hv,hw⟩:=al B;obtain⟨f0,f1,f2⟩:=bt B;have f5:=eX (v0:=.int .i64 v) (v1:=.int .i64 h) (v2:=.slice A rows c) B;obtain⟨u0,u1,u2⟩:=al f5;unfold fu at u0 u1 u2;obtain⟨Fu,c6,cK,c0⟩:=fS b7 (iE (x:=w.heap.size) (v0:=.int .i64 v) (v1:=.int .i64 h) (v2:=.slice A rows c) bb (jL _)) (jY (x:=w.heap.size) (v0:=.int .i64 v) (v1:=.int .i64 h) (v2:=.slice A rows c) Z Ez.o) (gQ (x:=w.heap.size) (v0:=.int .i64 v) (v1:=.int .i64 h) (v2:=.slice A rows c) b5 (ah _));clear I B b7 bb Z b5 f5;go_wp2;refine az (v:=.agg (ae v h A rows c)) (by simp[results,results54,go_sem, *]) rfl ⟨_,rfl,?_,cK.o,c0.o⟩;exact⟨⟨v,h,rows⟩,A,c,rfl,Fu.o,c6.o.mono Ry⟩
end Go.Proofs.YtdpgblncijojiaaGreatDoor
