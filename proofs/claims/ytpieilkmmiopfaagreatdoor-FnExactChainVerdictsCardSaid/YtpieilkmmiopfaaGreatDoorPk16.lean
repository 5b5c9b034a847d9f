/- Parts of the walks and laws (El4, El5, El6). Conditions: as stated with each. -/
import Derived.Test.YtpieilkmmiopfaaGreatDoorPk12
import Derived.Test.YtpieilkmmiopfaaGreatDoorPk15
import Derived.Test.YtpieilkmmiopfaaGreatDoorPk8
namespace Go.Proofs.YtpieilkmmiopfaaGreatDoor
open Go.RowKit Tryz
set_option linter.all false
set_option maxHeartbeats 8000000
set_option maxRecDepth 100000
variable{A:aq}{B B' H b c d hi i j k lo n r:Nat}{K:mE}{M QI Rd:aN}{QJ QS r':aH}{R T u v:ax}{a:Act}{o:fR}{ops:gP}{p:Int}{rest:List Oper}{row:Option Nat}{us:bU}{w w':aa}
theorem fI.el(h:fI p H n M):∀r∈M,∀x∈r,0<=x/\x<p:=fun r F x J=>by obtain⟨i,hi⟩:=fk.1 F;obtain⟨d,D⟩:=fk.1 J;have I:=(bG.1 hi).1;have G:=(bG.1 D).1;have:=h.2.2 i d (by rw[<-h.1];exact I) (by rw[<-h.row r F];exact G);unfold eM at this;rwa[getD_some hi,getD_some D]at this
theorem pA.inner(h:pA w lo hi v M us)(F:us[k]?=some u)(D:w.grownBy w' u.ownBlock)(G:aD w' lo u r'):pA w' lo hi v (M.set k r') us:=⟨h.own.inner F D G,h.up,h.ups⟩
theorem pA.swap{g cap:Nat}(h:pA w lo hi (.slice (some ⟨g,0,none⟩) n cap) M us)(H:n=M.length)(hi':us[i]?=some R)(G:us[j]?=some T)(I:M[i]?=some QS)(J:M[j]?=some QJ):pA ((w.setCell ⟨g,i,none⟩ T).setCell ⟨g,j,none⟩ R) lo hi (.slice (some ⟨g,0,none⟩) n cap) ((M.set i QJ).set j QS) ((us.set i T).set j R):=
 ⟨h.own.swap H hi' G I J,h.up,fun u N b F=>by
  rcases mem_set N with D|rfl
  .rcases mem_set D with D|rfl
   .exact h.ups u D b F
   .exact h.ups _ (aY G) b F
  .exact h.ups _ (aY hi') b F⟩
def Chg(lo hi:Nat)(v:ax)(M:aN)(w:aa)(e:Ending)(w':aa):Prop:=e=.returned (.tuple #[])/\Has w' lo hi v M/\bn lo hi w w'
theorem ym(p c:Int)(a b lo hi n cap:Nat)(A:aq)(M:aN)(us:bU)(w:aa)(h:pA w lo hi (.slice A n cap) M us)(a7:hi<=w.heap.size)(Z:a<M.length)(ab:b<M.length)(a5:a≠b):aw 222 (oJ (vU a b c) p A n cap) w (Chg lo hi (.slice A n cap) (Bh M a b) w):=by
 obtain⟨T,G⟩:=aB Z;obtain⟨rb,H⟩:=aB ab;have Fb:=zH (by unfold Bh;rw[getD_some G,getD_some H]:Bh M a b=(M.set a rb).set b T);have ap:n=M.length:=Xx;subst ap;go_enter func222,ntmps222
 go_upto_region 3 with(fail)
 have F:Below w.heap.size w (w.alloc (.cells (vU a b c) 267)):=(aj _ _).alloc (af _) _;have D:=h.ext F;obtain⟨g,U,V,rfl,O,ac,ad,am,a6,_⟩:=D.own.at G;obtain⟨a4,Ab,cb,Y,R,Km,FY,_⟩:=D.own.at H;cases Y
 have ao:=h.up g rfl;have I:(w.alloc (.cells (vU a b c) 267)).heap[w.heap.size]?=some (.cells (vU a b c) 267 (0,0)):=aC _ _ rfl;obtain⟨W2,J⟩:=aM (w.alloc (.cells (vU a b c) 267));rw[<-J]at F D ac ad Km FY I ⊢;obtain⟨a0,a1,a2,a3⟩:=tI I;simp only[cZ,cP]at a0 a1 a2 a3;have N:=D.swap rfl O R G H;obtain⟨HS,HE⟩:=bD N ((bn.eu (lo:=lo) (hi:=hi) F).trans ((bn.AL (b:=g) (w:=W2) (w':=(W2.setCell ⟨g,a,none⟩ (.slice Ab rb.length cb)).setCell ⟨g,b,none⟩ (.slice U T.length V)) (bN (D.own.outer.stored a _).2 ((D.own.outer.stored a (.slice Ab rb.length cb)).1.stored b _).2) am ao)));have a8:g≠w.heap.size:=Rr;clear J N O R G H I F D h;refine ze (S:=fun w'=>ae w' w.heap.size 1 (.int .i64 a)/\ae w' w.heap.size 2 (.int .i64 b)) RP Rz (fun hHeld=>?_);refine ep 0 ?_;simp only[Act.put,zA];refine ep 1 ?_;simp only[Act.put,zA];refine ep 2 ?_;simp only[Act.put,zA];refine ep 3 ?_;simp only[Act.put,zA];refine ep 4 ?_;simp only[Act.put,zA];refine ep 5 ?_;simp only[Act.put,zA];refine ep 6 ?_;simp only[Act.put,zA];refine ep 7 ?_;simp only[Act.put,zA];refine ep 8 ?_;simp only[Act.put,zA];refine ep 9 ?_;simp only[Act.put,zA];refine ep 11 ?_;simp only[Act.put,zA];refine ep 12 ?_;simp only[Act.put,zA];refine ep 13 ?_;simp only[Act.put,zA];refine ep 14 ?_;simp only[Act.put,zA];refine jD (rs:=[10,15]) RP Rq ?_;refine mA rfl (fun K hK=>?_) (mA rfl (fun K hK=>?_) jE)
 .go_simp;refine hK.out _ _ RO (fun hHeld=>?_);clear hK K;try simp only[Act.put,zA]
  refine jD (rs:=[15]) RP Rq ?_;exact ZZ
 .go_simp;refine hK.out _ _ RO (fun hHeld=>?_);clear hK K;try simp only[Act.put,zA]
  refine jD (rs:=[10]) RP Rq ?_;exact ZZ
theorem ux(p c b:Int)(a lo hi n cap bg m:Nat)(A:aq)(M:aN)(us:bU)(w:aa)(h:pA w lo hi (.slice A n cap) M us)(b8:hi<=w.heap.size)(Y:cN p=true)(a5:1<=c)(a6:c<p)(bo:a<M.length)(ap:fI p bg m M)(b9:m<=1048576):aw 222 (oJ (vT a b c) p A n cap) w (Chg lo hi (.slice A n cap) (scL p (mG p c) M a) w):=by
 obtain⟨D,O⟩:=aB bo;obtain⟨f1,f2,f3⟩:=zaF Y a5 a6;obtain⟨p2,ch⟩:=di Y;have a1:=zH (ap.el D (aY O));have ca:D.length<9223372036854775807:=by have:=ap.row D (aY O);omega
 obtain⟨F,T⟩:=aM (mG p c);obtain⟨JK,bd⟩:=bD (by unfold scL;rw[getD_some O,T]:scL p (mG p c) M a=M.set a (iZ p F D)) (fun w=>(by rw[T];exact Eg p c w Y a5 a6:aw 224 (bf p c) w fun e w'=>e=.returned (.int .i64 F)/\w=w'));rw[<-T]at f2 f3;clear f1 T ap Y;have br:n=M.length:=Xx;subst br;go_enter func222,ntmps222
 go_upto_region 5 with(fail)
 have R:Below w.heap.size w (w.alloc (.cells (vT a b c) 267)):=(aj _ _).alloc (af _) _;have H:=h.ext R;obtain⟨g,ao,J,rfl,a0,V,bp,b3,b4,Z⟩:=H.own.at O;have b7:=h.up g rfl;have ab:(w.alloc (.cells (vT a b c) 267)).heap[w.heap.size]?=some (.cells (vT a b c) 267 (0,0)):=aC _ _ rfl;obtain⟨bi,a4⟩:=aM (w.alloc (.cells (vT a b c) 267));rw[<-a4]at R H V bp ab Z ⊢;have am:=a_ ab 1;have a2:=a_ ab 3;simp only[cZ,cP]at am a2;have a9:=H.ups _ (aY a0);obtain⟨ba,bc,GR,bb,a3,Ga⟩:=kE H a0 Z R a9 (fv H.own.outer Z);have cb:g≠w.heap.size:=Rr;clear a4 a0 ab R H h O Z a9;go_wp2_with ((go_at_call 224;refine(bd.o _).mono ?_;rintro e w' ⟨rfl,rfl⟩))
 go_loopw [43] (fun i wr=>∃k:Nat,k<=D.length/\i=.int .i64 k/\wr.ownsRow lo 3 1 (.slice ao D.length J) D.length ((mC p F D k).map (Value.int .i64))/\bi.grownBy wr (Value.slice ao D.length J).ownBlock)
  (fun i _=>D.length-(intOf i).toNat)
 case atStart=>exact⟨0,aX _,rfl,Tx,⟨rfl,rfl,rfl,af _,fun _ _ _=>rfl⟩⟩
 case round=>
  obtain⟨k,a7,rfl,I,G⟩:=hrel;by_cases a8:k<D.length
  .obtain⟨x,ad⟩:=aB a8;obtain⟨N,rfl,b5,_⟩:=kh GR.o Rr;have b6:=a3.o N rfl;have cc:g≠N:=Xb;have ci:ae wr w.heap.size 1 (.int .i64 a):=G.cell am Uu;have cj:ae wr g a (.slice (some ⟨N,0,none⟩) D.length J):=G.cell V Uu;have b1:ae wr N k (.int .i64 x):=by rw[I.cellAt k Rr,cC,xB _ _ _ _ a8,ad];rfl
   have b2:=I.frozenAt k;obtain⟨v1,v2⟩:=a1.o x (aY ad);have bu:0<=x*F:=y_ v1 Rr;have ce:x*F<=1000000:=by have:=Int.mul_le_mul (Rr:x<=97) (Rr:F<=97) Rr Rr;omega
   have ac:=I.stored k (.int .i64 (x*F%p));rw[<-fh,xC _ _ _ _ _ ad]at ac;obtain⟨HS,HG⟩:=bD ac.1 (bN G ac.2);have bz:=gU (x*F) (Rr:p≠0);have H:=gV (x*F) (Rr:0<p);have bv:¬p=0:=Rr;have b0:(x*F).tmod p=x*F%p:=DW bu;clear ac ad I G am a2 V a1;go_wp2_with fail
   go_region_held3 (fun w'=>ae w' w.heap.size 1 (.int .i64 a)/\ae w' g a (.slice (some ⟨N,0,none⟩) D.length J))
    (first|(simp[*];done)|(refine⟨?_,?_⟩<;>(first|(refine(eV Sp).trans ?_;assumption)|(refine(kO Sp).trans ?_;assumption)))) (fail)
   exact Ym
  .have bq:k=D.length:=Rr;subst bq;rw[xA p F D D.length (af _)]at I;have HN:=zH (ba.o.inner (r':=iZ p F D) bc.o G (by unfold aD;rw[show(iZ p F D).length=D.length by simp[iZ]];exact I));have HE:=zH (show bn lo hi w wr from(bn.eu bb.o).trans (by
    cases U:(Value.slice ao D.length J).ownBlock with
    |none=>rw[U]at G;exact bn.eu ⟨G.os,G.tape,G.output,G.size,fun k a7=>G.block k a7 Rq⟩
    |some b=>rw[U]at G;exact bn.AL G (GR.o.lt b U).1 (a3.o b U)))
   clear I G V am a2 a1;exact WY
theorem uL(p c:Int)(a b lo hi n cap b5 m:Nat)(A:aq)(M:aN)(us:bU)(w:aa)(h:pA w lo hi (.slice A n cap) M us)(cA:hi<=w.heap.size)(cI:2<=p)(cO:p<=97)(cp:0<=c)(cq:c<p)(b7:a<M.length)(b9:b<M.length)(co:a≠b)(ac:fI p b5 m M)(ch:m<=1048576):aw 222 (oJ (su a b c) p A n cap) w (Chg lo hi (.slice A n cap) (M.set a (dD p (-c) (M.getD a []) (M.getD b []))) w):=by
 obtain⟨G,O⟩:=aB b7;obtain⟨I,R⟩:=aB b9;obtain⟨JK,T,am,b3,b4⟩:=mD (by rw[getD_some O,getD_some R]:M.set a (dD p (-c) (M.getD a []) (M.getD b []))=M.set a (dD p (-c) G I)) (ac.row G (aY O)) (ac.row I (aY R)) (show ∀x∈G,0<=x/\x<=1000 from fun x ba=>by have:=ac.el G (aY O) x ba;omega) (show ∀x∈I,0<=x/\x<=1000 from fun x ba=>by have:=ac.el I (aY R) x ba;omega);have ci:n=M.length:=Xx;subst ci;clear ac;go_enter func222,ntmps222
 go_upto_region 12 with(fail)
 have U:Below w.heap.size w (w.alloc (.cells (su a b c) 267)):=(aj _ _).alloc (af _) _;have H:=h.ext U;obtain⟨g,bb,ao,rfl,ad,Y,ca,cr,ct,J⟩:=H.own.at O;obtain⟨cn,bc,ap,b6,a0,Z,cb,_,_,ab⟩:=H.own.at R;cases b6
 have cz:=h.up g rfl;have N:(w.alloc (.cells (su a b c) 267)).heap[w.heap.size]?=some (.cells (su a b c) 267 (0,0)):=aC _ _ rfl;obtain⟨a6,a9⟩:=aM (w.alloc (.cells (su a b c) 267));rw[<-a9]at U H Y ca Z cb N J ab ⊢;have a1:=a_ N 1;have a2:=a_ N 2;have a3:=a_ N 3;simp only[cZ,cP]at a1 a2 a3;have c0:IntKind.i64.wrap (-c)=-c:=Sq;obtain⟨a5,bg,ck,cj,bd,b2,b8⟩:=zH7 H ad a0 J U (H.ups _ (aY ad)) (fv H.own.outer J);have cB:g≠w.heap.size:=Rr;have V:=ab.view;obtain⟨_,_,bi,V,_⟩:=V;simp only[dW]at bi;obtain⟨rfl,_,rfl⟩:=bi;rcases wL m with a8|a8
 .obtain rfl:G=[]:=fC (by rw[T.o];exact a8);obtain rfl:I=[]:=fC (by rw[am.o];exact a8);have a4:=zH (pE p (-c) bb bc ao ap a6.drew);clear a9 ad a0 N U H h O R J ab V;simp only[il]at Y Z;go_region_held3 (fun w'=>ae w' w.heap.size 1 (.int .i64 a)/\ae w' w.heap.size 2 (.int .i64 b)/\ae w' w.heap.size 3 (.int .i64 c)/\ae w' g a (.slice bb 0 ao)/\ae w' g b (.slice bc 0 ap))
   (first|exact⟨a1,a2,a3,Y,Z⟩)
   ((go_at_call 176;refine a4.o.mono ?_;rintro e wr ⟨rfl,rfl⟩))
  go_wp2;go_end0
  refine⟨rfl,⟨us,?_⟩,(bn.eu bd.o).trans (bn.eu (aj _ _).drew)⟩;rw[JK.o,show dD p (-c) [] []=([]:aH) from rfl,kb (by
   obtain⟨r,h1,bq⟩:=a5.o.own.kC bg.o;have:=kn bq;obtain⟨_,_,e,_,_⟩:=bq.view;simp only[dW]at e;rw[h1,fC e.2.1.symm])]
  exact a5.o.ext (aj _ _).drew
 .obtain⟨D,rfl,cc,_⟩:=kh J (by have:=T.o;omega);obtain⟨a7,rfl,cu,_⟩:=kh ab (by have:=am.o;omega);have ce:=b2.o D rfl;have cF:a7≠D:=fun e=>by have:=H.own.apart _ _ _ _ D ad a0 rfl (by rw[<-e];rfl);omega
  have bp:g≠D:=by
   rcases b8.o with h1|h1
   .cases h1
   .exact Wo
  have a4:=zH (pR p (-c) lo D ao ap (some ⟨a7,0,none⟩) G I a6.drew Rr Rr Rr Rr (wE J) (V.ext (aj _ _).drew) (fun b o e=>by simp only[dZ,sG]at e;omega) (by rw[T.o,am.o]) (by rw[T.o];exact ch) b3.o b4.o);clear a9 ad a0 N U H h O R J ab V;go_region_held3 (fun w'=>ae w' w.heap.size 1 (.int .i64 a)/\ae w' w.heap.size 2 (.int .i64 b)/\ae w' w.heap.size 3 (.int .i64 c)/\ae w' g a (.slice (some ⟨D,0,none⟩) G.length ao)/\ae w' g b (.slice (some ⟨a7,0,none⟩) I.length ap))
   (first|exact bo|exact⟨a1,a2,a3,Y,Z⟩)
   ((go_at_call 176;refine a4.o.mono ?_;rintro e wr ⟨rfl,br,F⟩;have bu:=oe F (a:=⟨w.heap.size,1,none⟩) a1 (Rr:w.heap.size≠D);have bv:=oe F (a:=⟨w.heap.size,2,none⟩) a2 (Rr:w.heap.size≠D);have bz:=oe F (a:=⟨w.heap.size,3,none⟩) a3 (Rr:w.heap.size≠D);have b0:=oe F (a:=⟨g,a,none⟩) Y bp;have b1:=oe F (a:=⟨g,b,none⟩) Z bp;have bo:=aF bu (aF bv (aF bz (aF b0 b1)))))
  have F:=bN (dP a6 (some D)) F;have HN:=zH (a5.o.inner (r':=dD p (-c) G I) bg.o F (by
   unfold aD;rw[show(dD p (-c) G I).length=G.length by simp[dD,T.o,am.o]];exact br))
  have HE:=zH (show bn lo hi w wr from(bn.eu bd.o).trans (bn.AL F cc ce));clear br F bo bu bv bz b0 b1;exact WY
def ziu(D F G h:Nat)(v1 v2:ax)(M X:aN)(w:aa)(e:Ending)(w':aa):Prop:=
 e=.returned (.tuple #[])/\Has w' D F v1 M/\Has w' G h v2 X/\bn D h w w'
theorem zdJ(p k a b c:Int)(I G H h R n2 O F N Z J:Nat)(A1 D:aq)(M X V Y:aN)(us2:bU)(w:aa)(hp:ae w N 0 (.int .i64 p))(hr:ae w Z 0 (.slice A1 R O))(ha:ae w J 0 (.slice D n2 F))(Ld:N<I∨G<=N)(Lg:J<I∨G<=J)(ab:pA w H h (.slice D n2 F) X us2)(h12:G<=H)(a1:H<=h)(a0:I<=G)(ao:h<=w.heap.size)(am:¬k=0∨(k=0/\¬b=a))(T:∀W,ag w W->aw 222 (oJ (mR k a b c) p A1 R O) W (Chg I G (.slice A1 R O) V W))(U:∀W,h<=W.heap.size->pA W H h (.slice D n2 F) X us2->aw 222 (oJ (mR k a b c) p D n2 F) W (Chg H h (.slice D n2 F) Y W)):aw 221 (sv (mR k a b c) (some ⟨N,0,none⟩) (some ⟨Z,0,none⟩) (some ⟨J,0,none⟩)) w (ziu I G H h (.slice A1 R O) (.slice D n2 F) V Y w):=by
 obtain⟨H1,H2⟩:=bD T U;clear T U;have K7:=zH ab;have a2:=iC hp;have a3:=iC hr;have ap:=iC ha;clear ab;have ac:Below w.heap.size w (w.alloc (.cells (mR k a b c) 267)):=(aj _ _).alloc (af _) _;obtain⟨HB,HQ⟩:=bD ac (show(w.alloc (.cells (mR k a b c) 267)).heap[w.heap.size]?=some (.cells (mR k a b c) 267 (0,0)) from aC _ _ rfl);clear ac;rcases am with ad|⟨rfl,ad⟩
 ·
  exact ZM
 ·
  exact ZM
structure AD(p:Int)(lo1 hi1 lo2 hi2 N cap1 cap2 bp br ba:Nat)(A1 A2:aq)(w:aa):Prop where
 hp:ae w bp 0 (.int .i64 p)
 hr:ae w br 0 (.slice A1 N cap1)
 ha:ae w ba 0 (.slice A2 N cap2)
 bp1:hi2<=bp
 br1:hi2<=br
 ba1:hi2<=ba
 h12:hi1<=lo2
 hl1:lo1<=hi1
 hl2:lo2<=hi2
 h2w:hi2<=w.heap.size
 f:cN p=true
structure wR(p:Int)(lo1 hi1 lo2 hi2 N n n2 cap1 cap2:Nat)(A1 A2:aq)(M X:aN)(w wr:aa):Prop where
 h1:Has wr lo1 hi1 (.slice A1 N cap1) M
 h2:Has wr lo2 hi2 (.slice A2 N cap2) X
 s1:fI p N n M
 s2:fI p N n2 X
 wi:bn lo1 hi2 w wr
section
variable{p:Int}{lo1 hi1 lo2 hi2 N n n2 cap1 cap2 bp br ba:Nat}{A1 A2:aq}{M X:aN}{w wr:aa}
def RTo(p:Int)(lo1 hi1 lo2 hi2 N n n2 cap1 cap2:Nat)(A1 A2:aq)(M X:aN)(w:aa)(e:Ending)(w':aa):Prop:=
 e=.returned (.tuple #[])/\wR p lo1 hi1 lo2 hi2 N n n2 cap1 cap2 A1 A2 M X w w'
theorem AD.size(B:AD p lo1 hi1 lo2 hi2 N cap1 cap2 bp br ba A1 A2 w)(S:wR p lo1 hi1 lo2 hi2 N n n2 cap1 cap2 A1 A2 M X w wr):hi2<=wr.heap.size:=by have:=S.wi.size;have:=B.h2w;omega
theorem AD.cells(B:AD p lo1 hi1 lo2 hi2 N cap1 cap2 bp br ba A1 A2 w)(S:wR p lo1 hi1 lo2 hi2 N n n2 cap1 cap2 A1 A2 M X w wr):ae wr bp 0 (.int .i64 p)/\ae wr br 0 (.slice A1 N cap1)/\ae wr ba 0 (.slice A2 N cap2):=⟨S.wi.cell B.hp (an B.bp1),S.wi.cell B.hr (an B.br1),S.wi.cell B.ha (an B.ba1)⟩
theorem wR.go{k a b c:Int}(B:AD p lo1 hi1 lo2 hi2 N cap1 cap2 bp br ba A1 A2 w)(S:wR p lo1 hi1 lo2 hi2 N n n2 cap1 cap2 A1 A2 M X w wr)(R:¬k=0∨(k=0/\¬b=a))(t1:fI p N n Rd)(t2:fI p N n2 QI)(D:∀us W,hi1<=W.heap.size->pA W lo1 hi1 (.slice A1 N cap1) M us->aw 222 (oJ (mR k a b c) p A1 N cap1) W (Chg lo1 hi1 (.slice A1 N cap1) Rd W))(F:∀us W,hi2<=W.heap.size->pA W lo2 hi2 (.slice A2 N cap2) X us->aw 222 (oJ (mR k a b c) p A2 N cap2) W (Chg lo2 hi2 (.slice A2 N cap2) QI W)):aw 221 (sv (mR k a b c) (some ⟨bp,0,none⟩) (some ⟨br,0,none⟩) (some ⟨ba,0,none⟩)) wr (RTo p lo1 hi1 lo2 hi2 N n n2 cap1 cap2 A1 A2 Rd QI w):=by obtain⟨Z,I⟩:=S.h1;obtain⟨us2,J⟩:=S.h2;obtain⟨c1,c2,G⟩:=B.cells S;have T:=B.size S;have:=B.h12;have:=B.hl1;have:=B.hl2;have:=B.bp1;have:=B.ba1;refine(zdJ p k a b c lo1 hi1 lo2 hi2 N N cap1 cap2 bp br ba A1 A2 M X Rd QI us2 wr c1 c2 G (an Rr) (an Rr) J B.h12 B.hl2 B.hl1 T R (fun W h=>D Z W (by have:=h.size;omega) (I.ext h)) (fun W h H=>F us2 W h H)).mono ?_;rintro e w' ⟨O,U,V,Y⟩;exact⟨O,U,V,t1,t2,S.wi.trans Y⟩
theorem wR.sw{a:Nat}(B:AD p lo1 hi1 lo2 hi2 N cap1 cap2 bp br ba A1 A2 w)(S:wR p lo1 hi1 lo2 hi2 N n n2 cap1 cap2 A1 A2 M X w wr)(ha:a<N)(h:b<N)(G:a≠b):aw 221 (sv (vS a b) (some ⟨bp,0,none⟩) (some ⟨br,0,none⟩) (some ⟨ba,0,none⟩)) wr (RTo p lo1 hi1 lo2 hi2 N n n2 cap1 cap2 A1 A2 (Bh M a b) (Bh X a b) w):=wR.go B S (an ⟨rfl,Rr⟩) (yO S.s1 ha h) (yO S.s2 ha h)
  (fun us W F D=>ym p 0 a b lo1 hi1 N cap1 A1 M us W D F TH (by rw[S.s1.1];exact h) G)
  (fun us W F D=>ym p 0 a b lo2 hi2 N cap2 A2 X us W D F TG (by rw[S.s2.1];exact h) G)
theorem wR.dv{a:Nat}{c:Int}(B:AD p lo1 hi1 lo2 hi2 N cap1 cap2 bp br ba A1 A2 w)(S:wR p lo1 hi1 lo2 hi2 N n n2 cap1 cap2 A1 A2 M X w wr)(ha:a<N)(G:1<=c)(H:c<p)(I:n<=1048576)(J:n2<=1048576):aw 221 #[.agg #[.int .i64 1,a,(),c],.pointer (some ⟨bp,0,none⟩),.pointer (some ⟨br,0,none⟩),.pointer (some ⟨ba,0,none⟩)] wr (RTo p lo1 hi1 lo2 hi2 N n n2 cap1 cap2 A1 A2 (scL p (mG p c) M a) (scL p (mG p c) X a) w):=by
 have F:=(di B.f).1;exact wR.go B S (au Rs) (yP F S.s1 ha) (yP F S.s2 ha)
  (fun us W D h=>ux p c 0 a lo1 hi1 N cap1 N n A1 M us W h D B.f G H TH S.s1 I)
  (fun us W D h=>ux p c 0 a lo2 hi2 N cap2 N n2 A2 X us W h D B.f G H TG S.s2 J)
theorem wR.sb{a:Nat}{c:Int}(B:AD p lo1 hi1 lo2 hi2 N cap1 cap2 bp br ba A1 A2 w)(S:wR p lo1 hi1 lo2 hi2 N n n2 cap1 cap2 A1 A2 M X w wr)(ha:a<N)(D:b<N)(H:a≠b)(I:0<=c)(J:c<p)(O:n<=1048576)(R:n2<=1048576):aw 221 (sv (su a b c) (some ⟨bp,0,none⟩) (some ⟨br,0,none⟩) (some ⟨ba,0,none⟩)) wr (RTo p lo1 hi1 lo2 hi2 N n n2 cap1 cap2 A1 A2 (M.set a (dD p (-c) (M.getD a []) (M.getD b []))) (X.set a (dD p (-c) (X.getD a []) (X.getD b []))) w):=by
 have h:=di B.f;exact wR.go B S (au Rs) (yQ h.1 S.s1 ha D).1 (yQ h.1 S.s2 ha D).1
  (fun us W G F=>uL p c a b lo1 hi1 N cap1 N n A1 M us W F G h.1 h.2 I J TH (by rw[S.s1.1];exact D) H S.s1 O)
  (fun us W G F=>uL p c a b lo2 hi2 N cap2 N n2 A2 X us W F G h.1 h.2 I J TG (by rw[S.s2.1];exact D) H S.s2 R)
theorem wR.sw0{a:Nat}(B:AD p lo1 hi1 lo2 hi2 N cap1 cap2 bp br ba A1 A2 w)(S:wR p lo1 hi1 lo2 hi2 N n n2 cap1 cap2 A1 A2 M X w wr):aw 221 (sv (vS a a) (some ⟨bp,0,none⟩) (some ⟨br,0,none⟩) (some ⟨ba,0,none⟩)) wr (RTo p lo1 hi1 lo2 hi2 N n n2 cap1 cap2 A1 A2 M X w):=by
 have h:Below wr.heap.size wr (wr.alloc (.cells (vS a a) 267)):=(aj _ _).alloc (af _) _;have D:Hd (RTo p lo1 hi1 lo2 hi2 N n n2 cap1 cap2 A1 A2 M X w (.returned (.tuple #[])) (wr.alloc (.cells (vS a a) 267))):=
  zH ⟨rfl,S.h1.ext h,S.h2.ext h,S.s1,S.s2,S.wi.trans (bn.eu h)⟩
 clear S B h;go_enter func221,ntmps221
 go_wp2;go_end0
 exact D.o
theorem wR.ex{a:Nat}(B:AD p lo1 hi1 lo2 hi2 N cap1 cap2 bp br ba A1 A2 w)(S:wR p lo1 hi1 lo2 hi2 N n n2 cap1 cap2 A1 A2 M X w wr)(H:a<N)(I:b<N):aw 221 (sv (vS a b) (some ⟨bp,0,none⟩) (some ⟨br,0,none⟩) (some ⟨ba,0,none⟩)) wr (RTo p lo1 hi1 lo2 hi2 N n n2 cap1 cap2 A1 A2 (Bh M a b) (Bh X a b) w):=by
 by_cases F:a=b
 .subst F;have G:∀{h:aN},h.length=N->Bh h a a=h:=fun {h} J=>by unfold Bh;obtain⟨x,D⟩:=aB (Rr:a<h.length);rw[getD_some D,kb D,kb D]
  rw[G S.s1.1,G S.s2.1];exact wR.sw0 B S
 .exact wR.sw B S H I F
theorem wR.at1(S:wR p lo1 hi1 lo2 hi2 N n n2 cap1 cap2 A1 A2 M X w wr)(hi:i<N)(Y:d<n):∃g h c,A1=some ⟨g,0,none⟩/\ae wr g i (.slice (some ⟨h,0,none⟩) n c)/\ae wr h d (.int .i64 (eM M i d)):=by
 obtain⟨us,G⟩:=S.h1;obtain⟨r,D⟩:=aB (by rw[S.s1.1];exact hi:i<M.length);have R:=S.s1.row r (aY D);obtain⟨x,I⟩:=aB (Rr:d<r.length);have O:eM M i d=x:=by unfold eM;rw[getD_some D,getD_some I]
 obtain⟨g,U,c,rfl,T,H,_⟩:=G.own.at D;obtain⟨h,V,F,J,_⟩:=G.own.zr D I;rw[T]at F;simp only[dZ,dW]at F;obtain⟨rfl,_,rfl⟩:=F;rw[R]at H;rw[O];exact⟨g,h,c,rfl,H,J⟩
end
def zh4(p:Int)(F J N D h n H I:Nat)(A1 G:aq)(M X:aN)(w:aa)(e:Ending)(w':aa):Prop:=
 e=.returned (.int .i64 ((iq p n M X).1:Nat))/\Has w' F J (.slice A1 h H) (iq p n M X).2.1/\Has w' N D (.slice G h I) (iq p n M X).2.2/\bn F D w w'
structure RAt(p:Int)(lo1 hi1 lo2 hi2 N n n2 cap1 cap2:Nat)(A1 A2:aq)(M X:aN)(w wr:aa)(c:Nat)(z:Nat×(List (List Int)×List (List Int))):Prop where
 c1:c<=n
 c2:z.1<=N
 el:sX p (n-c) c z=iq p n M X
 st:wR p lo1 hi1 lo2 hi2 N n n2 cap1 cap2 A1 A2 z.2.1 z.2.2 w wr
theorem zdC{z2:aN}(F:c<n)(G:r<H)(h:Rd.length=H):sX p (n-c) c (r,Rd,z2)=sX p (n-(c+1)) (c+1) (if uT Rd c r=H then(r,Rd,z2) else(r+1,BB p r (uT Rd c r) c (Rd,z2))):=by obtain⟨m,D⟩:∃m,n-c=m+1:=⟨n-c-1,Rr⟩;rw[D,sX];dsimp only;rw[ay Rr,h,show n-(c+1)=m by omega]
theorem tc(p:Int)(Z R V T h n n2 H I:Nat)(A1 G:aq)(M X:aN)(w:aa)(ab:cN p=true)(b7:Has w Z R (.slice A1 h H) M)(b8:Has w V T (.slice G h I) X)(ck:fI p h n M)(cn:fI p h n2 X)(c4:R<=V)(c7:Z<=R)(c8:V<=T)(c5:T<=w.heap.size)(d5:h<=1048576)(cb:n<=1048576)(cc:n2<=1048576):aw 213 #[p,.slice A1 h H,n,.slice G h I] w (zh4 p Z R V T h n H I A1 G M X w):=by
 obtain⟨p2,ei⟩:=di ab;have db:∀(b5:Fn) (first cap:eU) (w:aa),(Instr.makeFunc b5 first cap).run prog w=.ok (.func b5 first cap) w:=fun _ _ _ _=>rfl
 obtain⟨cr,ct,cA,cB,cq⟩:=mD b7 b8 ck cn ab;clear b7 b8 ck cn ab;go_enter func213,ntmps213
 go_upto_region 3 with(fail)
 clear db;obtain⟨bg,bi,bo⟩:=cm w (.cells (bs p) 3) (.cells (cg A1 h H) 55) (.cells (cg G h I) 55);have am:=below_alloc3 w (.cells (bs p) 3) (.cells (cg A1 h H) 55) (.cells (cg G h I) 55);have cj:w.heap.size+3=(((w.alloc (.cells (bs p) 3)).alloc (.cells (cg A1 h H) 55)).alloc (.cells (cg G h I) 55)).heap.size:=Rq;obtain⟨ad,ca⟩:=aM (((w.alloc (.cells (bs p) 3)).alloc (.cells (cg A1 h H) 55)).alloc (.cells (cg G h I) 55));rw[<-ca]at bg bi bo am cj ⊢;clear ca;have bq:=a_ bg 0;have a1:=a_ bi 0;have ac:=a_ bo 0;simp only[cZ]at bq a1 ac;obtain⟨B,b1,HB⟩:=dO (show AD p Z R V T h H I w.heap.size (w.heap.size+1) (w.heap.size+1+1) A1 G ad from⟨bq,a1,ac,c5,Rr,Rr,c4,c7,c8,Rr,cq.o⟩) (show wR p Z R V T h n n2 H I A1 G M X ad ad from⟨cr.o.ext am,ct.o.ext am,cA.o,cB.o,bn.refl _ _ _⟩) am;clear bg bi bo bq a1 ac cj am;go_wp2;go_loopw [9,11] (fun u9 u11 wr=>∃(c:Nat) (z:Nat×(List (List Int)×List (List Int))),u9=.int .i64 (z.1:Nat)/\u11=.int .i64 c/\RAt p Z R V T h n n2 H I A1 G M X ad wr c z)
  (fun _ u _=>n-(intOf u).toNat)
 case atStart=>exact⟨0,(0,(M,X)),rfl,rfl,⟨aX _,aX _,rfl,b1.o⟩⟩
 case round=>
  obtain⟨c,⟨r,J,z2⟩,rfl,rfl,ap⟩:=hrel;clear b1;have d6:=ap.c1;have dc:r<=h:=ap.c2;have HR:=zH ap;obtain⟨-,dl,-⟩:=B.o.cells ap.st;clear ap;by_cases O:c<n
  .by_cases Y:r<h
   .have a5:J.length=h:=HR.o.st.s1.1;obtain⟨f1,f2,f3,f4⟩:=Ct J c r Rr;have br:=zH (zdC (p:=p) (z2:=z2) O Y a5);obtain⟨K,hK⟩:=aM (uT J c r);rw[<-hK]at f1 f2 f3 f4;have bu:=zH hK;rw[a5]at f2 f4;obtain⟨F3,co,cz⟩:=dO f3 f4 a5;clear f3 f4 hK a5;by_cases b9:K=h
    .subst b9;go_wp2;go_loopw [12] (fun u bp=>∃k:Nat,r<=k/\k<=K/\u=.int .i64 k/\bp=wr) (fun u _=>K-(intOf u).toNat)
     case atStart=>exact⟨r,af _,Rr,rfl,rfl⟩
     case round=>
      obtain⟨k,Jj,c6,rfl,rfl⟩:=hrel;by_cases EH:k<K
      .obtain⟨g,b6,b3,rfl,a6,e2⟩:=HR.o.st.at1 EH O;exact YK
      .obtain rfl:k=K:=Rr;go_wp2;go_roundw
       case rel=>exact⟨c+1,(r,J,z2),rfl,Rt,⟨Rr,dc,by have:=HR.o.el;rw[br.o,<-bu.o,ay rfl]at this;exact this,HR.o.st⟩⟩
       case measure=>simp[intOf];omega
    .have ao:K<h:=Rr;have ci:=co.o ao;obtain⟨a1,ac⟩:=HR.o.st.s1.2.2 K c ao O;obtain⟨x,bd⟩:=aM (eM J K c);rw[<-bd]at ci a1 ac;have b0:=zH bd;have eb:(x==0)=false:=by simpa using ci
     clear bd;go_wp2;go_loopw [12] (fun u bp=>∃k:Nat,r<=k/\k<=K/\u=.int .i64 k/\bp=wr) (fun u _=>K-(intOf u).toNat)
     case atStart=>exact⟨r,af _,Rr,rfl,rfl⟩
     case round=>
      obtain⟨k,Jj,c6,rfl,rfl⟩:=hrel;by_cases EH:k<K
      .obtain⟨g,b6,b3,rfl,a6,e2⟩:=HR.o.st.at1 (Rr:k<h) O;exact YK
      .obtain rfl:k=K:=Rr;obtain⟨g,b6,b3,rfl,a6,e2⟩:=HR.o.st.at1 ao O;rw[<-b0.o]at e2;have bc:eM (Bh J r k) r c=x:=by rw[s_ HR.o.st.s1 Y ao,pz];exact b0.o.symm
       have ab:=bu.o;have cu:=zH (show uT J c r=k from ab.symm);clear ab;go_wp2_with fail
       refine(wR.ex B.o HR.o.st Y ao).mono ?_;rintro e ej ⟨rfl,a2⟩;obtain⟨-,dq,-⟩:=B.o.cells a2;obtain⟨c3,d3,d1,a7,cO,b4⟩:=a2.at1 Y O;cases a7
       rw[bc]at b4;obtain⟨bv,cI⟩:=bD a2 bc;clear a2 bc dl a6 e2;go_wp2_with fail
       refine(wR.dv B.o bv.o Y (Rr:1<=x) ac cb cc).mono ?_;rintro e ek ⟨rfl,a3⟩;obtain⟨D,a9⟩:=aM (scL p (mG p x) (Bh J r k) r);obtain⟨F,ba⟩:=aM (scL p (mG p x) (Bh z2 r k) r);rw[<-a9,<-ba]at a3;have cp:=zH (by unfold BB;dsimp only;rw[cz.o,cI.o,a9,ba]:BB p r k c (J,z2)=jZ p r c h (D,F));obtain⟨-,dr,-⟩:=B.o.cells a3;have bz:=zH a3;clear a3 a9 ba bv dq cO b4;go_wp2;go_loopw [65] (fun u dT=>∃i:Nat,i<=h/\u=.int .i64 i/\wR p Z R V T h n n2 H I (some ⟨g,0,none⟩) G (jZ p r c i (D,F)).1 (jZ p r c i (D,F)).2 ad dT) (fun u _=>h-(intOf u).toNat)
       case atStart=>exact⟨0,aX _,rfl,bz.o⟩
       case round=>
        obtain⟨i,hi,rfl,N⟩:=hrel;clear bz dr;obtain⟨-,eg,-⟩:=B.o.cells N;by_cases bb:i<h
        .have U:jZ p r c (i+1) (D,F)=if i≠r/\eM (jZ p r c i (D,F)).1 i c≠0 then
           ((jZ p r c i (D,F)).1.set i (dD p (-(eM (jZ p r c i (D,F)).1 i c)) ((jZ p r c i (D,F)).1.getD i []) ((jZ p r c i (D,F)).1.getD r [])),
            (jZ p r c i (D,F)).2.set i (dD p (-(eM (jZ p r c i (D,F)).1 i c)) ((jZ p r c i (D,F)).2.getD i []) ((jZ p r c i (D,F)).2.getD r [])))
           else jZ p r c i (D,F):=rfl
         obtain⟨q,ce⟩:=aM (jZ p r c i (D,F));rw[<-ce]at U N;clear ce;have Gt:=zH N;by_cases a4:i=r
         .have Lz:=zH (show jZ p r c (i+1) (D,F)=q by rw[U,av (fun a8=>a8.1 a4)]);clear U N;exact Yx
         .obtain⟨v,ch⟩:=aM (eM q.1 i c);obtain⟨c3,d4,d0,a7,d2,c0⟩:=N.at1 bb O;cases a7
          obtain⟨v1,v2⟩:=N.s1.2.2 i c bb O;rw[<-ch]at c0 v1 v2 U;clear ch N;by_cases a0:v=0
          .have Lz:=zH (show jZ p r c (i+1) (D,F)=q by rw[U,av (fun a8=>a8.2 a0)]);subst a0;clear U;exact Yx
          .have Lz:=zH (by rw[U,ay ⟨a4,a0⟩]:jZ p r c (i+1) (D,F)=(q.1.set i (dD p (-v) (q.1.getD i []) (q.1.getD r [])),q.2.set i (dD p (-v) (q.2.getD i []) (q.2.getD r []))));have d9:(v==0)=false:=by simpa using a0
           have ea:(v !=0)=true:=by simpa using a0
           have d8:(i !=r)=true:=by simpa using a4
           have d7:((i:Int)!=(r:Int))=true:=RS;clear U;go_wp2_with fail
           refine(wR.sb B.o Gt.o bb Y a4 v1 v2 cb cc).mono ?_;rintro e em ⟨rfl,b2⟩;have cF:=zH b2;clear b2 Gt;go_wp2;go_roundw
           case rel=>exact⟨i+1,Rr,Rt,by rw[Lz.o];exact cF.o⟩
           case measure=>simp[intOf];omega
        .obtain rfl:i=h:=Rr;have Gt:=zH N;clear N;go_wp2;go_roundw
         case rel=>exact⟨c+1,(r+1,jZ p r c i (D,F)),Rt,Rt,⟨Rr,Rr,by have:=HR.o.el;rw[br.o,cu.o,av b9,cp.o]at this;exact this,Gt.o⟩⟩
         case measure=>simp[intOf];omega
   .have he:=zH (show iq p n M X=(r,J,z2) by rw[<-HR.o.el];obtain⟨m,c9⟩:∃m,n-c=m+1:=⟨n-c-1,Rr⟩;rw[c9,sX];dsimp only;rw[av (by rw[HR.o.st.s1.1];exact Y)])
    exact YB
  .have he:=zH (show iq p n M X=(r,J,z2) by rw[<-HR.o.el,show n-c=0 by omega];rfl);exact YB
def dm(w:aa)(A:aq)(rows:aN):Prop:=
 rows=[]∨∃b o,A=some ⟨b,o,none⟩/\∀k r,rows[k]?=some r->∃h cap,ae w b (o+k) (.slice h r.length cap)/\r.length<=cap/\aJ w h r
theorem dm.at{rows:aN}(D:dm w A rows):bk w A rows:=D.imp id fun⟨b,o,e,H⟩=>⟨b,o,e,fun k r I=>by obtain⟨h,cap,F,_,G⟩:=H k r I;exact⟨h,cap,F,G⟩⟩
theorem dm.take{rows:aN}(h:dm w A rows)(q:Nat):dm w A (rows.take q):=YP
theorem aU.cap{rows:aN}(h:aU w B (.slice A n c) rows):dm w A rows:=by
 obtain⟨us,h⟩:=h;rcases wL rows.length with D|D
 .exact au (fC D)
 .obtain⟨g,O,e,_⟩:=h.form D;simp only[dW]at e;obtain⟨rfl,rfl,rfl⟩:=e;refine an ⟨g,0,rfl,fun k r F=>?_⟩;obtain⟨u,N,J⟩:=h.get F;obtain⟨G,H,rfl,hi,I,_⟩:=J.view;have R:=(bG.1 F).1;exact⟨G,H,by rw[iO,h.outer.cellAt _ Rr,N],I,hi⟩
def fF(w:aa)(B:Nat)(A:aq)(rows:aN):Prop:=∀W:aa,(∀k,B<=k->W.heap[k]?=w.heap[k]?)->dm W A rows
theorem fF.cap{rows:aN}(h:fF w B A rows):dm w A rows:=h w fun _ _=>rfl
theorem fF.at{rows:aN}(h:fF w B A rows):bk w A rows:=h.cap.at
theorem fF.mono{rows:aN}(h:fF w B A rows)(F:B'<=B):fF w B' A rows:=fun W D=>h W fun k G=>D k Rr
theorem fF.setCell{rows:aN}(h:fF w B A rows){a:dk}(G:a.block<B)(v:ax):fF (w.setCell a v) B A rows:=fun W D=>h W fun k F=>(D k F).trans (aZ _ _ _ _ Rr)
theorem aU.from{rows:aN}(h:aU w B (.slice A n c) rows):fF w B A rows:=fun W D=>(h.same D).cap
theorem fF.take{w:aa}{B:Nat}{A:aq}{rows:aN}(h:fF w B A rows)(q:Nat):fF w B A (rows.take q):=fun W D=>(h W D).take q
def zfd(rows:aN)(w:aa)(e:Ending)(w':aa):Prop:=∃A c,e=.returned (.slice A rows.length c)/\fF w' w.heap.size A rows/\ag w w'
theorem zdH{g cap:Nat}{rows:aN}(h:bk w (some ⟨g,0,none⟩) rows)(hc:rows.length<=cap)(q:Nat):∃A:dk,(if cap=q then some (⟨g,0,none⟩:dk) else some ⟨g,q,none⟩)=some A/\bk w (some A) (rows.drop q):=Zi
theorem Cx{rows:aN}(h:aU w B (.slice A n c) rows):(A=none/\n=0/\c=0/\rows=[])∨(∃g,A=some ⟨g,0,none⟩/\n=rows.length/\n<=c/\c<=maxLen):=by
 obtain⟨us,h⟩:=h;rcases h.outer.2 with⟨e,D⟩|⟨g,cap,H,e,I,J,F,G,_⟩
 .simp only[dW]at e;exact au ⟨e.1,e.2.1,e.2.2,fC D⟩
 .simp only[dW]at e;obtain⟨rfl,rfl,rfl⟩:=e;exact an ⟨g,rfl,rfl,F,G⟩
theorem zfe(h:cN p=true)(s:fI p H n M):(sI p n M).length=(iq p n M (List.replicate H [])).1/\(iq p n M (List.replicate H [])).1<=H:=by have D:=(di h).1;obtain⟨c,l,e,F,_,_⟩:=pP (n2:=0) h D s (CZ p H);unfold sI;rw[s.1,cG,e.s1.1];exact⟨Rr,F⟩
theorem rJ(p:Int)(M:aN)(A:aq)(cap h n:Nat)(w:aa)(O:cN p=true)(bc:bk w A M)(s:fI p h n M)(ad:h<=1048576)(ao:n<=1048576):aw 214 #[p,.slice A h cap,n] w (zfd (sI p n M) w):=by
 obtain⟨bp,hi,D,bo,EK⟩:=de jV;obtain⟨U,bq⟩:=zfe O s;have R:sI p n M=(iq p n M (List.replicate h [])).2.1.take (iq p n M (List.replicate h [])).1:=by unfold sI;rw[s.1]
 obtain⟨F,J⟩:=aM (iq p n M (List.replicate h []));rw[<-J]at U bq R;obtain⟨a9,Z,V,a7⟩:=fU J R U (show ∀r∈M,r.length<=1048576 from fun r bg=>by rw[s.row r bg];exact ao);have bb:=s.1;subst bb;obtain⟨a8,a6⟩:=bD s O;clear J R U s O;go_enter func214,ntmps214
 go_wp2_with fail
 refine(tJ _ _ M _ bc ad a7.o).mono ?_;rintro e H ⟨u,rfl,T,N⟩;obtain⟨A1,c1,rfl,_,bu,bv⟩:=T.view;obtain⟨ab,a5⟩:=bD T N;have a1:=N.size;clear T N;go_wp2_with ((at_make;refine jb _ rfl _ _ 55 rfl H.heap.size 26 bp (.slice none 0 0) 1 gF hi D bo .i64 .i64 M.length M.length M.length rfl rfl rfl rfl SA TD (af _) ?_;intro a3 a0 am))
 have G:=cD am;have ap:=bC.made a0;have bi:=G.size;refine(tc p w.heap.size H.heap.size H.heap.size a3.heap.size M.length n 0 c1 M.length A1 (some ⟨H.heap.size,0,none⟩) M (List.replicate M.length []) a3 a6.o ((Has.of ab.o).ext G) (Has.of ⟨_,ap⟩) a8.o (CZ p M.length) (af _) a1 bi (af _) ad ao Rr).mono ?_;rintro e a4 ⟨rfl,I,_,a2⟩;rw[<-a9.o]at I ⊢;obtain⟨ac,Y⟩:=bD (show ag w a4 from(a5.o.trans (G.mono a1)).trans (a2.below (af _) Rr)) (show fF a4 w.heap.size A1 (F.2.1.take F.1) from I.own.from.take _);have bd:=Cx ab.o;clear I a2 G ap a0 am;rcases bd with⟨rfl,br,rfl,_⟩|⟨g,rfl,_,_,_⟩
 .have D:F.1=0:=Rr;have ba:=zH D;rw[D];clear D;go_wp2;go_ret
  exact⟨none,0,by rw[V.o,ba.o];rfl,by rw[Z.o];exact Y.o,ac.o⟩
 .go_wp2;go_ret
  exact⟨some ⟨g,0,none⟩,F.1,by rw[V.o];rfl,by rw[Z.o];exact Y.o,ac.o⟩
def Fr(w:aa)(lo hi:Nat)(P:iT):Prop:=∀W:aa,(∀k,lo<=k->k<hi->W.heap[k]?=w.heap[k]?)->P W
section
variable{w w':aa}{lo hi lo' hi':Nat}{P Q:iT}
theorem Fr.now(h:Fr w lo hi P):P w:=h w fun _ _ _=>rfl
theorem Fr.mono(h:Fr w lo hi P)(F:lo'<=lo)(G:hi<=hi'):Fr w lo' hi' P:=fun W D=>h W fun k a b=>D k Rr Rr
theorem Fr.imp(h:Fr w lo hi P)(f:∀W,P W->Q W):Fr w lo hi Q:=fun W D=>f W (h W D)
theorem Fr.and(D:Fr w lo hi P)(F:Fr w lo hi Q):Fr w lo hi (fun W=>P W/\Q W):=fun W h=>⟨D W h,F W h⟩
theorem Fr.all(h:∀W,P W):Fr w lo hi P:=fun W _=>h W
theorem Fr.same(h:Fr w lo hi P)(F:∀k,lo<=k->k<hi->w'.heap[k]?=w.heap[k]?):Fr w' lo hi P:=fun W D=>h W fun k a b=>(D k a b).trans (F k a b)
theorem Fr.ext(h:Fr w lo hi P)(D:ag w w')(F:hi<=w.heap.size):Fr w' lo hi P:=h.same fun k _ b=>D.block k Rr
theorem Fr.grown(h:Fr w lo hi P)(D:w.grownBy w' row)(G:hi<=w.heap.size)(F:∀g,row=some g->g<lo∨hi<=g):Fr w' lo hi P:=h.same fun k a b=>D.block k Rr fun e=>by have:=F k e.symm;omega
end
theorem CW{w:aa}(D:n<=w.heap.size):(w.heap.extract 0 n)[k]?=if k<n then w.heap[k]? else none:=by
 by_cases h:k<n
 .rw[ay h,Array.getElem?_extract];simp;omega
 .rw[av h,wQ RS]
theorem pZ{w:aa}{B:Nat}{P:iT}(F:∀W:aa,(∀k,B<=k->W.heap[k]?=w.heap[k]?)->P W)(I:∀a b:aa,ag a b->P a->P b)(J:B<=w.heap.size):Fr w B w.heap.size P:=fun W G=>by
 by_cases H:w.heap.size<=W.heap.size
 .have D:=F {W with heap:=W.heap.extract 0 w.heap.size} fun k h=>by
   show(W.heap.extract 0 w.heap.size)[k]?=_
   rw[CW H];split
   .exact G k h RO
   .rw[wQ Rr]
  refine I {W with heap:=W.heap.extract 0 w.heap.size} W ⟨rfl,rfl,rfl,?_,fun k h=>?_⟩ D
  .show(W.heap.extract 0 w.heap.size).size<=W.heap.size
   rw[Array.size_extract];omega
  .replace h:k < (W.heap.extract 0 w.heap.size).size:=h
   rw[Array.size_extract]at h
   show W.heap[k]?=(W.heap.extract 0 w.heap.size)[k]?
   rw[CW H,ay Rr]
 .refine F W fun k h=>?_
  by_cases D:k<w.heap.size
  .exact G k h D
  .rw[wQ Rr,wQ Rr]
theorem aD.fr{w:aa}{B:Nat}{xs:aH}(h:aD w B (.slice A n c) xs)(F:B<=w.heap.size):Fr w B w.heap.size (fun W=>aJ W A xs):=pZ (fun W G=>by obtain⟨I,J,e,D,_⟩:=(h.same G).view;cases e;exact D) (fun _ _ H h=>h.ext H) F
theorem fF.fr{w:aa}{B:Nat}{rows:aN}(h:fF w B A rows)(D:B<=w.heap.size):Fr w B w.heap.size (fun W=>bk W A rows):=pZ (fun W F=>(h W F).at) (fun _ _ G h=>h.ext G) D
theorem aU.fr{w:aa}{B:Nat}{rows:aN}(h:aU w B (.slice A n c) rows)(D:B<=w.heap.size):Fr w B w.heap.size (fun W=>bk W A rows):=h.from.fr D
theorem za8{w:aa}{B s m cap:Nat}{T:du}{xs:bU}(h:w.ownsRow B T s (.slice A m cap) m xs)(N:n<=m):w.ownsRow B T s (.slice A n cap) n (xs.take (n*s)):=by
 have O:n*s<=m*s:=vX _ N;refine⟨by rw[cG,h.1];omega,?_⟩;rcases h.2 with⟨e,R⟩|⟨g,c,D,e,F,G,U,H,I,J⟩
 .left;obtain rfl:n=0:=Rr;cases e
  exact⟨rfl,rfl⟩
 .right;cases e
  refine⟨g,cap,D,rfl,F,G,Rr,H,I,?_⟩;rw[<-J,lk,gR O]
theorem oC{α:Type}{l:List α}{x:α}(h:(l.take n)[k]?=some x):l[k]?=some x:=by
 rw[gm]at h;split at h
 .exact h
 .cases h
def bF{α:Type}(s:Nat)(E:World->α->List Value->Prop)(w:aa)(A:aq)(xs:List α):Prop:=
 xs=[]∨∃b o,A=some ⟨b,o,none⟩/\∀(k:Nat) (x:α),xs[k]?=some x->∃c,(∀(j:Nat) (y:ax),c[j]?=some y->ae w b (o+k*s+j) y)/\E w x c
theorem bF.ext{α:Type}{s:Nat}{E:World->α->List Value->Prop}{w w':aa}{xs:List α}(G:∀x c,E w x c->E w' x c)(h:bF s E w A xs)(H:ag w w'):bF s E w' A xs:=
 h.imp id fun⟨b,o,e,I⟩=>⟨b,o,e,fun k x N=>by obtain⟨c,D,F⟩:=I k x N;exact⟨c,fun j y J=>al H (D j y J),G x c F⟩⟩
theorem bF.here{α:Type}{s:Nat}{E:World->α->List Value->Prop}{w:aa}{xs:List α}(h:bF s E w A xs)(D:k<xs.length):∃b o,A=some ⟨b,o,none⟩/\∀(k:Nat) (x:α),xs[k]?=some x->∃c,(∀(j:Nat) (y:ax),c[j]?=some y->ae w b (o+k*s+j) y)/\E w x c:=by
 rcases h with h|h
 .simp[h]at D
 .exact h
def iV{α:Type}(E:World->α->List Value->Prop)(w:aa)(B:Nat)(v:ax)(x:α)(c:bU):Prop:=
 ∃lo hi,B<=lo/\hi<=w.heap.size/\(∀g,v.ownBlock=some g->g<lo∨hi<=g)/\Fr w lo hi (fun W=>E W x c)
structure kV{α:Type}(T:du)(s:Nat)(E:World->α->List Value->Prop)(w:aa)(B:Nat)(v:ax)(xs:List α)(cs:List (List Value)):Prop where
 outer:w.ownsRow B T s v xs.length cs.flatten
 len:cs.length=xs.length
 each:∀(k:Nat) (x:α) (c:bU),xs[k]?=some x->cs[k]?=some c->c.length=s/\(∀u∈c,u.oneCell'=true)/\iV E w B v x c
def aV{α:Type}(T:du)(s:Nat)(E:World->α->List Value->Prop)(w:aa)(B:Nat)(v:ax)(xs:List α):Prop:=∃cs,kV T s E w B v xs cs
theorem kA{s:Nat}:∀{cs:List (List Value)} {k j:Nat} {c:bU},(∀c∈cs,c.length=s)->cs[k]?=some c->j<s->cs.flatten[k*s+j]?=c[j]?
 |[],k,j,c,_,h,_=>RM
 |d::cs,0,j,c,D,h,G=>by simp at h;subst h;have:=D d (lh ..);rw[qy,df Rr];simp
 |d::cs,k+1,j,c,D,h,G=>by have F:=D d (lh ..);have:=kA (cs:=cs) (k:=k) (j:=j) (c:=c) (fun c H=>D c (lg _ H)) R9 G;rw[qy,ef (by rw[F,wH];omega),F,<-this];congr 1;rw[wH];omega
theorem vL{s:Nat}:∀{cs:List (List Value)} (n:Nat),(∀c∈cs,c.length=s)->(cs.take n).flatten=cs.flatten.take (n*s)
 |[],n,_=>Rq
 |c::cs,0,_=>Rq
 |c::cs,n+1,h=>by have D:=h c (lh ..);rw[qt,qy,qy,vL n fun c F=>h c (lg _ F),wH,Nat.add_comm,<-D,List.take_length_add_append]
section
variable{α:Type}{T:du}{s:Nat}{E:World->α->List Value->Prop}{w w':aa}{B:Nat}{v:ax}{xs:List α}{cs:List (List Value)}
theorem iV.kept{x:α}{c:bU}(h:iV E w B v x c)(G:w.grownBy w' row)(J:∀g,row=some g->v.ownBlock=some g)(N:∀g,R.ownBlock=some g->v.ownBlock=some g∨w.heap.size<=g):iV E w' B R x c:=by obtain⟨lo,hi,H,D,F,I⟩:=h;exact⟨lo,hi,H,aR D G.size,fun g e=>(N g e).elim (F g) fun h=>Rr,I.grown G D fun g e=>F g (J g e)⟩
theorem iV.ext{x:α}{c:bU}(h:iV E w B v x c)(hb:ag w w'):iV E w' B v x c:=XN
theorem kV.cl(h:kV T s E w B v xs cs):∀c∈cs,c.length=s:=fun c F=>by obtain⟨k,D⟩:=fk.1 F;obtain⟨x,G⟩:=aB (by rw[<-h.len];exact(bG.1 D).1:k<xs.length);exact(h.each k x c G D).1
theorem kV.ext(D:kV T s E w B v xs cs)(h:ag w w'):kV T s E w' B v xs cs:=
 ⟨ik D.outer (row:=none) ⟨h.os,h.tape,h.output,h.size,fun k J _=>h.block k J⟩ Uj,D.len,fun k x c N I=>by obtain⟨F,G,H⟩:=D.each k x c N I;exact⟨F,G,H.ext h⟩⟩
theorem aV.ext(h:aV T s E w B v xs)(D:ag w w'):aV T s E w' B v xs:=by obtain⟨cs,h⟩:=h;exact⟨cs,h.ext D⟩
theorem aV.nil(T:du)(s:Nat)(E:World->α->List Value->Prop)(w:aa)(B:Nat):aV T s E w B (.slice none 0 0) []:=⟨[],qv _ _ _ _,rfl,fun k x c h=>by simp at h⟩
theorem aV.lit(T:du)(s:Nat)(E:World->α->List Value->Prop)(W:aa)(B:Nat)(h:B<=W.heap.size):aV T s E (W.alloc (.cells #[] T)) B (.slice (some ⟨W.heap.size,0,none⟩) 0 0) []:=⟨[],World.ownsRow_made W #[] 0 h Rs Rq,rfl,fun k x c D=>by simp at D⟩
theorem aV.view(h:aV T s E w B v xs):∃A cap,v=.slice A xs.length cap/\bF s E w A xs/\xs.length<=cap/\cap<=maxLen:=by
 obtain⟨cs,h⟩:=h;have J:=fun g=>lL h.outer (g:=g)
 rcases h.outer.2 with⟨rfl,hn⟩|⟨g,cap,R,rfl,U,V,hn,O,Y⟩
 .exact WO
 .refine⟨_,cap,rfl,an ⟨g,0,rfl,fun k x G=>?_⟩,hn,O⟩;obtain⟨c,D⟩:=aB (by rw[h.len];exact(bG.1 G).1:k<cs.length);obtain⟨H,_,lo,hi,_,_,_,I⟩:=h.each k x c G D;refine⟨c,fun j y F=>?_,I.now⟩;have N:j<s:=by rw[<-H];exact(bG.1 F).1
  have:=J g rfl (k*s+j) y (by rw[kA h.cl D N];exact F);rwa[dj,<-oO]at this
theorem aV.form(h:aV T s E w B v xs)(D:0<xs.length):∃g cap,v=.slice (some ⟨g,0,none⟩) xs.length cap/\B<=g/\g<w.heap.size:=by obtain⟨cs,h⟩:=h;exact kn h.outer D
theorem aV.mono(h:aV T s E w B v xs)(V:B'<=B):aV T s E w B' v xs:=by obtain⟨cs,h⟩:=h;refine⟨cs,⟨h.outer.1,h.outer.2.imp id fun⟨g,cap,G,D,R,F⟩=>⟨g,cap,G,D,Rr,F⟩⟩,h.len,fun k x c O N=>?_⟩;obtain⟨H,I,lo,hi,U,J⟩:=h.each k x c O N;exact⟨H,I,lo,hi,Rr,J⟩
theorem aV.same(h:aV T s E w B v xs)(G:∀k,B<=k->k<w.heap.size->w'.heap[k]?=w.heap[k]?)(ac:w.heap.size<=w'.heap.size):aV T s E w' B v xs:=by obtain⟨cs,h⟩:=h;refine⟨cs,⟨h.outer.1,h.outer.2.imp id fun⟨g,cap,J,H,D,F,I⟩=>⟨g,cap,J,H,D,by rw[G g D (aT.1 F).1];exact F,I⟩⟩,h.len,fun k x c Z Y=>?_⟩;obtain⟨N,O,lo,hi,R,ab,U,V⟩:=h.each k x c Z Y;exact⟨N,O,lo,hi,R,Rr,U,V.same fun k a b=>G k Rr Rr⟩
theorem aV.setCell(h:aV T s E w B v xs){a:dk}(D:a.block<B)(u:ax):aV T s E (w.setCell a u) B v xs:=h.same (fun k F _=>aZ _ _ _ _ Rr) Rq
theorem aV.fr(D:aV T s E w B (.slice A n c) xs)(R:∀a b x c,ag a b->E a x c->E b x c)(O:B<=w.heap.size):Fr w B w.heap.size (fun W=>bF s E W A xs):=by
 intro W G;by_cases H:w.heap.size<=W.heap.size
 .obtain⟨I,J,e,F,_⟩:=(D.same G H).view;cases e
  exact F
 .rcases wL xs.length with h|h
  .exact au (fC h)
  .obtain⟨g,cap,e,F,N⟩:=D.form h;have:=G (w.heap.size-1) Rr Rr;rw[wQ Rr,Array.getElem?_eq_getElem (Rr:w.heap.size-1<w.heap.size)]at this;cases this
theorem aV.pop{m cap:Nat}(h:aV T s E w B (.slice A m cap) xs)(R:m=xs.length)(U:n<=m):aV T s E w B (.slice A n cap) (xs.take n):=by
 obtain⟨cs,h⟩:=h;subst R;have D:(xs.take n).length=n:=Sr;refine⟨cs.take n,?_,by rw[cG,D,h.len];omega,fun k x c V O=>?_⟩;rotate_left
 .obtain⟨F,G,lo,hi,H,I,J,N⟩:=h.each k x c (oC V) (oC O);exact⟨F,G,lo,hi,H,I,fun g e=>J g (by cases A with|none=>simp[Value.ownBlock]at e|some a=>simpa[Value.ownBlock]using e),N⟩
 rw[D,vL n h.cl];exact za8 h.outer U
theorem kV.nm{ys:List α}{ds:List (List Value)}(h:kV T s E w B v xs cs)(U:ds.length=ys.length)(O:∀(k:Nat) (x:α) (c:bU),ys[k]?=some x->ds[k]?=some c->c.length=s/\(∀u∈c,u.oneCell'=true)/\iV E w B v x c)(V:w'.ownsRow B T s R (xs.length+ys.length) (cs.flatten++ds.flatten))(J:w.grownBy w' v.ownBlock)(N:∀g,R.ownBlock=some g->v.ownBlock=some g∨w.heap.size<=g):kV T s E w' B R (xs++ys) (cs++ds):=by
 refine⟨by rw[bx,DU];exact V,by rw[bx,bx,h.len,U],fun k x c F D=>?_⟩;by_cases hk:k<cs.length
 .rw[df hk]at D;rw[df TQ]at F;obtain⟨G,H,I⟩:=h.each k x c F D;exact⟨G,H,I.kept J (fun g e=>e) N⟩
 .rw[ef Rr]at D;rw[ef (by rw[<-h.len];omega),<-h.len]at F;obtain⟨G,H,I⟩:=O _ x c F D;exact⟨G,H,I.kept J (fun g e=>e) N⟩
end
theorem iV.flat{α:Type}{T:du}{s:Nat}{E:World->α->List Value->Prop}{w:aa}{B:Nat}{v:ax}{xs:List α}{x:α}{c:bU}(h:aV T s E w B v xs)(D:B<=w.heap.size)(F:∀W,E W x c):iV E w B v x c:=by obtain⟨cs,h⟩:=h;exact⟨B,B,af _,D,fun g e=>an (bL h.outer g e).1,Fr.all F⟩
structure RT(P:iU)(t T:du)(s:Nat)(z:ax)(bytes:Nat):Prop where
 und:P.underlying t=some (.slice T)
 info:(P.info? T).map (fun i=>(i.zero,i.size,i.bytes))=some (some z,s,bytes)
 zs:z.cells.size=s
 pos:0<s
 bts:bytes<=1000
section
variable{α:Type}{t T:du}{s bytes:Nat}{z:ax}{E:World->α->List Value->Prop}
theorem vM(h:RT prog t T s z bytes){Q:gj}(O x:jk)(ac:o.op=.call {callee:=.builtin .append,args:=#[O,x],argTypes:=#[t,t]})(B:Nat)(W:aa)(v:ax)(xs:List α)(y:α)(c:bU)(J:Nat)(F:aV T s E W B v xs)(Y:c.length=s)(V:∀u∈c,u.oneCell'=true)(a0:iV E W B v y c)(ab:xs.length+1<=1048576)(R:B<=W.heap.size)(am:a.eval O=v)(ap:a.eval x=.slice (some ⟨J,0,none⟩) 1 1)(ad:aW W J c.toArray T)(H:∀g cap w',aV T s E w' B (.slice (some ⟨g,0,none⟩) (xs.length+1) cap) (xs++[y])->W.grownBy w' v.ownBlock->(v.ownBlock=some g∨g=W.heap.size)->Below B W w'->K (a.put o.dst (.slice (some ⟨g,0,none⟩) (xs.length+1) cap)) w'):o.wp prog a W K Q:=by
 obtain⟨a4,hi,a1,a2,a3⟩:=de h.info;obtain⟨cs,F⟩:=F;refine wp_append_lies (w:=W) O x t ac B T a4 z s bytes h.und hi a1 a2 a3 h.zs h.pos v _ _ am F.outer ⟨J,0,none⟩ 1 1 c ap Rr (World.news_of_block ad) V Rs ?_ ?_ R _ rfl ?_
 .unfold maxLen;omega
 .have:=h.bts;have:(xs.length+1)*bytes<=1048576*1000:=Nat.mul_le_mul ab h.bts;omega
 .intro g cap w' EF N U _;have ao:∀G,(Value.slice (some ⟨g,0,none⟩) (xs.length+1) cap).ownBlock=some G->v.ownBlock=some G∨W.heap.size<=G:=fun G e=>by
   cases e
   rcases U with H|H
   .exact au H
   .exact an (by show W.heap.size<=g;omega)
  refine H g cap w' ⟨cs++[c],F.nm (ys:=[y]) (ds:=[c]) rfl ?_ SC N ao⟩ N U ((aj _ _).grown N R fun k Z=>(bL F.outer k Z).1);intro k a6 a5 D I
  match k,D,I with
  |0,D,I=>simp at D I;subst D I;exact⟨Y,V,a0⟩
  |k+1,D,_=>simp at D
theorem cL(O:RT prog t T s z bytes){Q:gj}(V:o.guard=none)(D x:jk)(Z:o.op=.call {callee:=.builtin .append,args:=#[D,x],argTypes:=#[t,t]})(B:Nat)(W:aa)(v:ax)(xs:List α)(y:α)(c:bU)(h:Nat)(R:aV T s E W B v xs)(U:c.length=s)(ab:∀u∈c,u.oneCell'=true)(ao:iV E W B v y c)(Y:xs.length+1<=1048576)(N:B<=W.heap.size)(ad:a.eval D=v)(am:a.eval x=.slice (some ⟨h,0,none⟩) 1 1)(ac:aW W h c.toArray T)(F:∀g cap w',aV T s E w' B (.slice (some ⟨g,0,none⟩) (xs.length+1) cap) (xs++[y])->W.grownBy w' v.ownBlock->(v.ownBlock=some g∨g=W.heap.size)->Below B W w'->wpList prog ops Q rest (a.put o.dst (.slice (some ⟨g,0,none⟩) (xs.length+1) cap)) w'):wpList prog ops Q (o::rest) a W:=lj V fun _ hK=>vM O D x Z B W v xs y c h R U ab ao Y N ad am ac fun g cap w' G H I J=>hK _ _ (F g cap w' G H I J)
theorem fN(I:RT prog t T s z bytes){Q:gj}{F:Prop}(G0:o.guard=none)(D x:jk)(R:o.op=.call {callee:=.builtin .append,args:=#[D,x],argTypes:=#[t,t]})(B:Nat)(W:aa)(v:ax)(xs:List α)(y:α)(c:bU)(h:Nat)(J:aV T s E W B v xs)(N:c.length=s)(U:∀u∈c,u.oneCell'=true)(ac:iV E W B v y c)(O:xs.length+1<=1048576)(H:B<=W.heap.size)(Y:a.eval D=v)(ab:a.eval x=.slice (some ⟨h,0,none⟩) 1 1)(V:aW W h c.toArray T)(G:∀g cap w',aV T s E w' B (.slice (some ⟨g,0,none⟩) (xs.length+1) cap) (xs++[y])->W.grownBy w' v.ownBlock->(v.ownBlock=some g∨g=W.heap.size)->Below B W w'->K (a.put o.dst (.slice (some ⟨g,0,none⟩) (xs.length+1) cap)) w'):if Region.wanted o (yielded ops a.tmps)=true then o.wp prog a W K Q else F:=by have Z:Region.wanted o (yielded ops a.tmps)=true:=Uh;rw[ay Z];exact vM I D x R B W v xs y c h J N U ac O H Y ab V G
end
end Go.Proofs.YtpieilkmmiopfaaGreatDoor
