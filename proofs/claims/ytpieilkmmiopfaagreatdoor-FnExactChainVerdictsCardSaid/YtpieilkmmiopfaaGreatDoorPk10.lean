/- Parts of the walks and laws (Typ0, SMB). Conditions: as stated with each. -/
import Derived.Test.YtpieilkmmiopfaaGreatDoorPk8
namespace Go.Proofs.YtpieilkmmiopfaaGreatDoor
open Go.RowKit Tryz
set_option linter.all false
set_option maxHeartbeats 8000000
set_option maxRecDepth 100000
variable{b:Nat}{cs:eU}{t:du}{v:ax}{w:aa}
def gwI(k:Int):Int:=if k=5∨k=9 then 2 else if k=6∨k=10 then 0 else 1
def gwO(k:Int):Int:=if k=3∨k=11 then 2 else if k=4∨k=12 then 0 else 1
theorem aI(h:aW w b cs t)(j:Nat)(D:cs.toList[j]?=some v):ae w b j v:=(a_ h j).trans D
theorem h_(k:Int)(w:aa)(ad:3<=k)(am:k<=14):aw 167 (bs k) w fun e w'=>e=.returned (.agg (bf (gwI k) (gwO k)))/\ag w w':=by
 have hq:=aC (w.alloc (.cells eW 207)) (.cells DL 260) (n:=w.heap.size+1) Rq;have G:=((aj w.heap.size w).alloc (af _) (.cells eW 207)).alloc Rq (.cells DL 260);have h:=(bJ (w.alloc (.cells eW 207)) (.cells DL 260) (k:=w.heap.size) Rq).trans (aC w (.cells eW 207) rfl);have U:(w.alloc (.cells eW 207)).heap.size=w.heap.size+1:=Rq;by_cases ao:k<=8
 .obtain⟨i,rfl⟩:∃i:Nat,k=(i:Int)+3:=⟨(k-3).toNat,Rr⟩;have hi:i<6:=Rr;obtain⟨a,D⟩:=aM (gwI ((i:Int)+3));obtain⟨b,F⟩:=aM (gwO ((i:Int)+3));rw[<-D,<-F];obtain⟨HA,Fc⟩:=bD D F;clear D F;go_enter func167,ntmps167
  go_upto_region 2 with(fail)
  generalize (w.alloc _).alloc _=W at hq G h ⊢;have T:ae W (w.heap.size+1) (i*2) (.int .i64 a):=YL;have c1:ae W (w.heap.size+1) (i*2+1) (.int .i64 b):=YN;obtain⟨Z,ab,f0,f1⟩:=dd h;have y:=fc (v0:=.int .i64 a) (v1:=.int .i64 b) h;obtain⟨N,O,-,-⟩:=dd y;have HE:=zH (fe G (af _) (.int .i64 a) (.int .i64 b));unfold qU at N O;clear hq h G U y;exact XV
 .obtain⟨i,rfl⟩:∃i:Nat,k=(i:Int)+9:=⟨(k-9).toNat,Rr⟩;have hi:i<6:=Rr;obtain⟨a,D⟩:=aM (gwI ((i:Int)+9));obtain⟨b,F⟩:=aM (gwO ((i:Int)+9));rw[<-D,<-F];obtain⟨HA,Fc⟩:=bD D F;clear D F;go_enter func167,ntmps167
  go_upto_region 2 with(fail)
  generalize (w.alloc _).alloc _=W at hq G h ⊢;have T:ae W (w.heap.size+1) (i*2) (.int .i64 b):=YN;have c1:ae W (w.heap.size+1) (i*2+1) (.int .i64 a):=YL;obtain⟨V,R⟩:=bD h G;have Y:w.heap.size<W.heap.size:=(aT.1 h).1;clear hq h G U;go_upto_region 5 with(fail)
  have J:=aC W (.cells (bf b a) 207) rfl;have H:=(bJ W (.cells (bf b a) 207) Y).trans V.o;have I:=R.o.alloc R.o.size (.cells (bf b a) 207);generalize W.alloc _=ac at J H I ⊢;obtain⟨Z,ab,f0,f1⟩:=dd H;obtain⟨d0,d1,-,-⟩:=dd J;have y:=fc (v0:=.int .i64 a) (v1:=.int .i64 b) H;obtain⟨N,O,-,-⟩:=dd y;have HE:=zH (fe I (af _) (.int .i64 a) (.int .i64 b));unfold qU at N O;clear J H I y T c1;exact XV
def jt(a b:Int):Bool:=decide (a<=12)&&decide (b<=12)
theorem zga(a b:Int)(w:aa):aw 225 (cy (bf a b)) w (dM w (jt a b)):=by
 have h:=(aj w.heap.size w).alloc (af _) (.cells (bf a b) 207);unfold jt;by_cases h1:a<=12 <;>by_cases h2:b<=12
 all_goals
  go_enter func225,ntmps225
  go_wp2;go_ret
  exact⟨R7,h⟩
def WTo(a b:Int)(ok:Bool)(w:aa)(e:Ending)(w':aa):Prop:=e=.returned (.tuple (jy (bf a b) ok))/\ag w w'
theorem Bz(h D F G:Int)(w:aa):aw 223 #[.int .i64 15,.agg (bf h D),.agg (bf F G)] w (WTo h G (decide (D=F)) w):=by
 have I:=below_alloc3 w (.cells (bf h D) 207) (.cells (bf F G) 207) (.cells eW 207);obtain⟨J,N,H⟩:=cm w (.cells (bf h D) 207) (.cells (bf F G) 207) (.cells eW 207);have U:(D==F)=decide (D=F):=R6;obtain⟨ok,R⟩:=aM (decide (D=F));rw[<-R]at U ⊢;clear R;go_enter func223,ntmps223
 go_upto_region 1 with(fail)
 generalize ((w.alloc _).alloc _).alloc _=W at I J N H ⊢;obtain⟨O,c1,-,-⟩:=dd J;obtain⟨d0,d1,-,-⟩:=dd N;obtain⟨Z,ab,f0,f1⟩:=dd H;have y:=fc (v0:=.int .i64 h) (v1:=.int .i64 G) H;obtain⟨V,Y,-,-⟩:=dd y;have T:=zH (fe I (b:=w.heap.size+1+1) Rr (.int .i64 h) (.int .i64 G));unfold qU at V Y;clear J N H y I;go_wp2_with fail
 go_region_held3 (fun w'=>ae w' w.heap.size 0 (.int .i64 h)/\ae w' w.heap.size 1 (.int .i64 D)/\ae w' (w.heap.size+1) 0 (.int .i64 F)/\ae w' (w.heap.size+1) 1 (.int .i64 G))
  (first|exact⟨O,c1,d0,d1⟩|exact⟨js Sp O,js Sp c1,js Sp d0,js Sp d1⟩) (fail)
 go_wp2;exact aE (v:=.tuple (jy (bf h G) ok)) U3 rfl ⟨rfl,T.o.drew⟩
theorem BA(h D F G:Int)(w:aa)(bi:0<=h)(bo:h<=1000)(bp:0<=D)(bq:D<=1000)(br:0<=F)(bu:F<=1000)(bv:0<=G)(bz:G<=1000):aw 223 #[.int .i64 16,.agg (bf h D),.agg (bf F G)] w (WTo (h+F) (D+G) (jt (h+F) (D+G)) w):=by
 have R:=below_alloc3 w (.cells (bf h D) 207) (.cells (bf F G) 207) (.cells eW 207);obtain⟨V,Y,Z⟩:=cm w (.cells (bf h D) 207) (.cells (bf F G) 207) (.cells eW 207);have b0:IntKind.i64.wrap (h+F)=h+F:=Sq;have b1:IntKind.i64.wrap (D+G)=D+G:=Sq;clear bi bo bp bq br bu bv bz;go_enter func223,ntmps223
 go_upto_region 1 with(fail)
 have H:w.heap.size+3=(((w.alloc (.cells (bf h D) 207)).alloc (.cells (bf F G) 207)).alloc (.cells eW 207)).heap.size:=Rq;generalize ((w.alloc _).alloc _).alloc _=W at R V Y Z H ⊢;obtain⟨ba,c1,-,-⟩:=dd V;obtain⟨d0,d1,-,-⟩:=dd Y;obtain⟨ab,a4,am⟩:=dO R Z H;clear V Y Z R H;go_upto_region 4 with(fail)
 generalize ap:h+F=x at b0 ⊢;generalize a0:D+G=y at b1 ⊢;have U:=aC W (.cells (bf x y) 207) rfl;have J:=(bJ W (.cells (bf x y) 207) (k:=w.heap.size+1+1) (by have:=am.o;omega)).trans a4.o;have T:=ab.o.alloc ab.o.size (.cells (bf x y) 207);generalize W.alloc _=a9 at U J T ⊢;obtain⟨N,O,-,-⟩:=dd U;obtain⟨b2,b3,f0,f1⟩:=dd J;have ao:W.heap.size≠w.heap.size+1+1:=by have:=am.o;omega
 obtain⟨a5,ac,ad,a6,a7⟩:=mD J T ao ap a0;clear ba c1 d0 d1 U J T ap a0 ao;go_region_held3 (fun w'=>ae w' W.heap.size 0 (.int .i64 x)/\ae w' W.heap.size 1 (.int .i64 y))
  (first|exact⟨N,O⟩|exact t1|exact⟨js ad.o t1.1,js ad.o t1.2⟩)
  ((go_at_call 225;refine(zga x y _).mono ?_;rintro e b6 ⟨rfl,I⟩;have a2:=zH (ac.o.drew.trans (I.mono ac.o.size));have t1:=aF (al I N) (al I O);have H:=ah (w:=a9.drew) a5.o I;obtain⟨bb,bc,bd,bg⟩:=dd H;have a8:=zH H;clear H I))
 have a1:=fc (v0:=.int .i64 x) (v1:=.int .i64 y) a8.o;obtain⟨b4,b5,-,-⟩:=dd a1;have a3:=zH (fe a2.o (b:=w.heap.size+1+1) Rr (.int .i64 x) (.int .i64 y));unfold qU at b4 b5;clear a1 b2 b3 f0 f1 bb bc bd bg N O t1;go_wp2;exact aE (v:=.tuple (jy (bf x y) (jt x y))) U3 rfl ⟨by rw[a6.o,a7.o],a3.o⟩
theorem zgT(p v h a b c:Int)(A:aq)(cap:Nat)(rows:aN)(w:aa)(bd:aq)(n b3:Nat)(bo:bk w A rows)(d1:rows.length<=160)(EM:∀r∈rows,r.length<=1000)(bq:1<=p)(br:p<=1000)(c4:0<=a)(c5:a<rows.length)(hb:0<=b)(c7:b<rows.length)(c6:a≠b)(a3:0<=c)(ct:c<=1000)(hx:∀r∈rows,∀x∈r,0<=x/\x<=1000)(m:Nat)(a4:∀r∈rows,r.length=m):aw 96 (iK p (ar v h A rows cap) (qc a b c bd n b3)) w fun e w'=>∃u,e=.returned (.agg (dK v h u))/\aU w' w.heap.size u (rows.set b.toNat (dD p c (rows.getD b.toNat []) (rows.getD a.toNat [])))/\ag w w':=by
 obtain⟨F,Fk⟩:=aB (Rr:a.toNat<rows.length);obtain⟨D,FE⟩:=aB (Rr:b.toNat<rows.length);obtain⟨b5,b8,ci,cj,Z⟩:=mD (TN:rows.getD a.toNat []=F) (TM:rows.getD b.toNat []=D) (show ∀x∈F,0<=x/\x<=1000 from hx F (aY Fk)) (show ∀x∈D,0<=x/\x<=1000 from hx D (aY FE)) (by rw[a4 F (aY Fk),a4 D (aY FE)]:D.length=F.length);have d4:F.length<=1000:=EM F (aY Fk);clear hx a4;obtain⟨ca,cb⟩:=bD (Rr:rows.length<=1048576) (show ∀r∈rows,r.length<=1048576 from fun r hr=>T3);go_enter func96,m6
 go_wp2_with fail
 refine(jl _ _ _ _ _ _ (bo.ext (((aj _ _).alloc Rq _ |>.alloc Rq _).alloc Sp _)) ca.o cb.o).mono ?_;rintro e I ⟨u,rfl,⟨us,hu⟩,ab⟩;obtain⟨V,Ff,rfl,_,_,_⟩:=aU.view ⟨us,hu⟩;obtain⟨b0,ap,a0⟩:=cm w (.cells (ar v h A rows cap) 57) (.cells (qc a b c bd n b3) 97) (.cells bj 57);have cF:=ab.size;simp only[dt]at cF;go_upto_region 2 with(fail)
 obtain⟨J,EJ⟩:=aM (I.alloc (.cells (ar v h V rows Ff) 57));rw[<-EJ];have a2:ag I J:=Vj;have d5:J.heap.size=I.heap.size+1:=So;have Y:=ab.trans (a2.mono ab.size);have a8:aW J I.heap.size (ar v h V rows Ff) 57:=Uo;have bv:=cH Y b0;have a7:=cH Y ap;have bz:=cH Y a0;have Fa:bC J (w.heap.size+3) (.slice V rows.length Ff) rows us:=(hu.ext a2).mono Rq;have bu:∀g',V=some ⟨g',0,none⟩->g'<I.heap.size:=fun g' e=>U8
 have R:∀(k:Nat) (x:ax),us[k]?=some x->∀b,x.ownBlock=some b->b<I.heap.size:=fun k x hx b hb=>VA
 have bp:ag w J:=(below_alloc3 w _ _ _).trans (Y.mono Sp);clear hu ab a2 Y bo EM b0 ap a0 EJ;obtain⟨d8,Fx,a5⟩:=Fa.get Fk;obtain⟨d9,GQ,ad⟩:=Fa.get FE;obtain⟨g,cu,db,dr⟩:∃g,V=some ⟨g,0,none⟩/\w.heap.size+3<=g/\g<J.heap.size:=j5 Fa Rr;subst cu;have dT:=bu g rfl;obtain⟨bb,bg,rfl,bi,_⟩:=a5.view;obtain⟨U,N,rfl,_,_⟩:=ad.view;have b4:ae J g a.toNat (.slice bb F.length bg):=Vg;have ba:ae J g b.toNat (.slice U D.length N):=Vm;obtain⟨y0,y1,y2,y3,y4⟩:=ez a7;obtain⟨b1,b2,a9⟩:=aG a8;have b6:=zH (fun O H (cq:(Value.slice bb F.length bg).ownBlock=some O) (cr:(Value.slice U D.length N).ownBlock=some H)=>show O≠H from fun e=>by have:=Fa.apart _ _ _ _ O Fx GQ cq (by rw[e];exact cr);omega)
 obtain⟨ce,b7,ch,a1,cc,b9,ck,cn,co,cp,bc,Ga⟩:=zgw Fa bp GQ ad a5 bi bv a7 bz a8 (R _ _ GQ) (fv Fa.outer ad);clear Fa bp Fx GQ a5 ad Fk FE bi bu R bv a7 bz a8;go_wp2;go_loopw [84] (fun i wr=>∃k:Nat,k<=F.length/\i=.int .i64 k/\wr.ownsRow (w.heap.size+3) 3 1 (.slice U D.length N) D.length ((rK p c D F k).map (Value.int .i64))/\J.grownBy wr (Value.slice U D.length N).ownBlock)
  (fun i _=>F.length-(intOf i).toNat)
 case atStart=>exact⟨0,aX _,rfl,by rw[Ay];exact a1.o,⟨rfl,rfl,rfl,af _,fun _ _ _=>rfl⟩⟩
 case round=>
  obtain⟨k,d0,rfl,T,G⟩:=hrel;by_cases ac:k<F.length
  .have cB:k<D.length:=by have:=Z.o;omega
   obtain⟨y,ao⟩:=aB ac;obtain⟨x,hx⟩:=aB cB;obtain⟨H,rfl,dl,_⟩:=kh a1.o Rr;obtain⟨O,rfl,dc,_⟩:=kh cc.o Rr;have dq:=bc.o H rfl;have d2:g≠H:=Xb;have d3:O≠H:=b6.o O H rfl rfl;have t2:ae wr (w.heap.size+1) 2 (.int .i64 b):=G.cell y2 Uu;have t3:ae wr (w.heap.size+1) 3 (.int .i64 c):=G.cell y3 Uu;have t5:ae wr I.heap.size 2 (.slice (some ⟨g,0,none⟩) rows.length Ff):=G.cell a9 Uu;have t6:ae wr g b.toNat (.slice (some ⟨H,0,none⟩) D.length N):=G.cell ba Uu;have t7:ae wr O k (.int .i64 y):=by
    rcases b9.o with h|⟨c3,d7,h,a3⟩
    .rw[h]at ac;simp at ac
    .simp only[dZ,sG]at h;obtain⟨rfl,rfl,_⟩:=h;have:=a3 k y ao;rw[iO]at this;exact G.cell this Uu
   have c8:ae wr H k (.int .i64 x):=by rw[T.cellAt k Rr,cC,Cz _ _ _ _ _ ac Z.o,hx];rfl
   have c9:=T.frozenAt k;obtain⟨ap,a0⟩:=cj.o x (aY hx);obtain⟨cO,c0⟩:=ci.o y (aY ao);have cI:=gU (y*c) (Rr:p≠0);have d6:=gV (y*c) (Rr:0<p);have a6:(x+y*c)%p=(x+c*y)%p:=by rw[Int.mul_comm]
   have am:=T.stored k (.int .i64 ((x+y*c)%p));rw[a6,<-fh,CA _ _ _ _ _ _ _ hx ao,<-a6]at am;obtain⟨HS,HG⟩:=bD am.1 (bN G am.2);have cz:(b.toNat:Int)=b:=Rr;clear am hx ao T G b1 b2 a9 y0 y1 y2 y3 y4 b4 ba a6 cz;go_wp2_with fail
   refine cR (S:=fun W=>ae W (w.heap.size+1) 2 (.int .i64 b)/\ae W (w.heap.size+1) 3 (.int .i64 c)/\ae W I.heap.size 2 (.slice (some ⟨g,0,none⟩) rows.length Ff)/\ae W g b.toNat (.slice (some ⟨H,0,none⟩) D.length N)/\ae W H k (.int .i64 x)) 24 RP Rz (fun hHeld=>?_);refine aP 0 ?_;simp only[Act.put,zA];refine aP 1 ?_;simp only[Act.put,zA];refine aP 2 ?_;simp only[Act.put,zA];refine aP 3 ?_;simp only[Act.put,zA];refine aP 4 ?_;simp only[Act.put,zA];refine aP 5 ?_;simp only[Act.put,zA];refine aP 6 ?_;simp only[Act.put,zA];refine aP 7 ?_;simp only[Act.put,zA];refine aP 8 ?_;simp only[Act.put,zA];refine aP 9 ?_;simp only[Act.put,zA];refine aP 10 ?_;simp only[Act.put,zA];refine aP 11 ?_;simp only[Act.put,zA];refine aP 12 ?_;simp only[Act.put,zA];refine aP 13 ?_;simp only[Act.put,zA];refine aP 14 ?_;simp only[Act.put,zA];refine aP 15 ?_;simp only[Act.put,zA];refine aP 16 ?_;simp only[Act.put,zA];refine aP 17 ?_;simp only[Act.put,zA];refine aP 18 ?_;simp only[Act.put,zA];refine aP 19 ?_;simp only[Act.put,zA];refine aP 20 ?_;simp only[Act.put,zA];refine cw 21 fun K hK=>?_
   go_simp;refine(CQ p y c _ bq br cO c0 a3 ct).mono ?_;rintro e w' ⟨rfl,rfl⟩;go_simp;refine hK.out _ _ (fun _=>hHeld) (fun hHeld=>?_);clear hK K;try simp only[Act.put,zA]
   have hHeld:=hHeld Rs;refine cw 22 fun K hK=>?_
   go_simp;refine(CR p x (y*c%p) _ bq br ap a0 cI Rr).mono ?_;rintro e w' ⟨rfl,rfl⟩;go_simp;refine hK.out _ _ (fun _=>hHeld) (fun hHeld=>?_);clear hK K;try simp only[Act.put,zA]
   have hHeld:=hHeld Rs;refine cw 23 fun K hK=>?_
   go_simp;refine hK.out _ _ (fun _=>hHeld) (fun hHeld=>?_);clear hK K;try simp only[Act.put,zA]
   have hHeld:=hHeld Rs;refine cw 24 fun K hK=>?_
   go_simp;refine hK.out _ _ (fun h=>absurd h Rs) (fun _=>?_);clear hK K;try simp only[Act.put,zA]
   refine gN RP ?_ _;exact Ym
  .have GP:∀b,(Value.slice U D.length N).ownBlock=some b->w.heap.size+3<=b/\b<I.heap.size:=fun b hb=>⟨(bL a1.o b hb).1,bc.o b hb⟩
   have Jt:=(G.block I.heap.size Rr (fun e=>Ut)).trans cp.o;have Js:=(G.block w.heap.size Rr (fun e=>Ut)).trans ck.o;have Jq:=(G.block (w.heap.size+1) Rr (fun e=>Ut)).trans cn.o;have Jr:=(G.block (w.heap.size+1+1) Rr (fun e=>Ut)).trans co.o;have cA:k=F.length:=Rr;subst cA;have R:=ce.o.inner (r':=dD p c D F) ch.o G (by
    unfold aD;rw[show(dD p c D F).length=D.length by simp[dD,Z.o],<-Cy p c D F Z.o F.length (af _)];exact T)
   rw[<-b5.o,<-b8.o]at R;have HO:=zH (show aU wr (w.heap.size+3) (.slice (some ⟨g,0,none⟩) rows.length Ff) (rows.set b.toNat (dD p c (rows.getD b.toNat []) (rows.getD a.toNat []))) by exact⟨_,R⟩)
   have HE:=zH (b7.o.grown G Rr fun b hb=>Ud);clear T G GP R b1 b2 a9 y0 y1 y2 y3 y4 b4 ba;exact ZH
end Go.Proofs.YtpieilkmmiopfaaGreatDoor
