/- Parts of the walks. Conditions: as stated with each. -/
import Derived.Test.YtdpgblncijojiaaGreatDoorPk38
namespace Go.Proofs.YtdpgblncijojiaaGreatDoor
open Go.RowKit Tryz
set_option linter.all false
set_option maxHeartbeats 16000000
set_option maxRecDepth 100000
variable{D J Rc c hi k lo m n:Nat}{E Rh V W w:aa}{Q:iF}{R:ir}{Rd Rq:aH}{a:Act}{g:Gr}{o:ie}{p:Int}
def oF{o x:Obj}(h:W.heap[k]?=some x):(W.alloc o).heap[k]?=some x:=aA h (aE W o)
def oG{x:Obj}(h:W.heap[k]?=some x):W.drew.heap[k]?=some x:=h
def DR{cs:bN}{rows:aC}(J:aW W D cs.toArray 27)(B:lo<=D)(E:D<hi)(Q:∀(k:Nat) (r:aH),rows[k]?=some r->∃g,cs[k]?=some (.slice (aX g) n n)/\r.length=n/\Fr W lo hi (fun V=>aU V (some ⟨g,0,none⟩) r)):Fr W lo hi (fun V=>aL V (some ⟨D,0,none⟩) rows):=fun V z=>by refine aB ⟨D,0,rfl,fun k r O=>?_⟩;obtain⟨g,F,H,I⟩:=Q k r O;refine⟨_,n,?_,I V z⟩;rw[fY,aV ((z D B E).trans J) k,H];simpa using F
def zhT{g:Nat}{l:aH}(h:lZ D n g l w)(z:D<=(w:Nat)):Fr w D w (fun V=>aU V (some ⟨g,0,none⟩) l):=h.a.fr z
def zgQ(rows:aC)(w:aa)(e:Ending)(w':aa):Prop:=∃A c,e=.returned (.slice A rows c)/\Fr w' w w' (fun V=>aL V A rows)/\aj w w'
def mG{o:Obj}(h:aj w V):Below w w (V.alloc o):=h.alloc h.size o
def mH(h:aj w V):Below w w V.drew:=h.drew
def xR(z:aj V E)(h:aj w V):aj w E:=bQ h z
def DS{g:Nat}{l:aH}(B:lZ V n g l E)(D:aj V E)(h:aj w V)(F:lo<=(w:Nat)):Fr E lo E (fun z=>aU z (some ⟨g,0,none⟩) l):=(zhT B D.size).to (bE F h.size) (ah _)
def za_(H:Rq.length=n)(B:aj w E)(f1:Fr E w E (fun F=>aU F (some ⟨D,0,none⟩) Rq)):zgQ [Rq] w (.returned (.slice (aX E) 1 1)) (E.alloc (.cells (ey (aX D) n n) 27)):=by
 refine⟨_,1,rfl,DR (n:=n) (cs:=[.slice (aX D) n n]) (aD E _ rfl) B.size Rx fun k r z=>?_,B.alloc B.size _⟩
 match k,z with
 |0,z=>cases z;exact⟨D,rfl,H,f1.later (aE _ _) (ah _)⟩
 |k+1,z=>simp at z
def zhU(H:Rq.length=n)(I:Rd.length=n)(F:aj w E)(f1:Fr E w E (fun B=>aU B (some ⟨D,0,none⟩) Rq))(f2:Fr E w E (fun B=>aU B (some ⟨J,0,none⟩) Rd)):zgQ [Rq,Rd] w (.returned (.slice (aX E) 2 2)) (E.alloc (.cells #[.slice (aX D) n n,.slice (aX J) n n] 27)):=by
 refine⟨_,2,rfl,DR (n:=n) (cs:=[.slice (aX D) n n,.slice (aX J) n n]) (aD E _ rfl) F.size Rx fun k r z=>?_,F.alloc F.size _⟩
 match k,z with
 |0,z=>cases z;exact⟨D,rfl,H,f1.later (aE _ _) (ah _)⟩
 |1,z=>cases z;exact⟨J,rfl,I,f2.later (aE _ _) (ah _)⟩
 |k+2,z=>simp at z
def zba(p:Int)(n:Nat)(e:Ed)(A1 A2:aq)(c1 c2:Nat)(w:aa)(cR:2<=p)(dl:p<=97)(en:n<=4096)(b9:aU w A1 (bC e.i))(cb:aU w A2 (bC e.o))(bo:e.mT=true)(hi:∀x∈e.i,x<n)(eo:∀x∈e.o,x<n)(ev:0<=e.v)(es:e.v<p):ax 136 #[p,(n:Nat),.agg (C8 e A1 c1 A2 c2)] w (zgQ ((e.eqns p).map (l5 p n)) w):=by
 obtain⟨k,v,a8,lo⟩:=e;dsimp only at *;obtain⟨cI,B⟩:=dC w (.cells (jF k v A1 a8 c1 A2 lo c2) 166);obtain⟨cr,ct⟩:=bL (fun V (bm:aj w V)=>b9.ext bm) (fun V (bm:aj w V)=>cb.ext bm);have em:3<=k/\k<=14/\a8.length=oB k/\lo.length=qT k:=by unfold Ed.mT at bo;simp only[bn,cw]at bo;have b8:=bo.2.1;obtain⟨eg,ei⟩:=vu (v:=v) b8;exact⟨b8,by have:=zcG bo.1;dsimp only at this;omega,by rw[<-eg];exact bo.2.2.1,by rw[<-ei];exact bo.2.2.2⟩
 obtain⟨b8,e7,cK,cO⟩:=em;have a2:=zH (fun(L:wg) A A2 c c2 V (h:∀q∈L,q.1<n/\0<=q.2/\q.2<=p) (ac:L.length<=4096) (b8:aU V A (bC (L.map (·.1)))) (ej:aU V A2 (L.map (·.2)))=>BE p n L A A2 c c2 V cR dl en ac b8 ej h);have a3:=zH (fun(L:wg) (h:∀q∈L,q.1<n)=>(AM (p:=p) (n:=n) (L:=L) cR h).1);obtain⟨R,a0⟩:=aK (if 9<=k then k-6 else k);obtain⟨a1,ad⟩:=aK (if 9<=k then lo else a8);obtain⟨no,am⟩:=aK (if 9<=k then a8 else lo);have d6:=zH (show(Ed.mk k v a8 lo).eqns p=Ds p R v a1 no by unfold Ed.eqns;rw[a0,ad,am];split <;>rfl)
 have F:a1.length=gIn R/\no.length=zbk R:=by
  rw[a0,ad,am];by_cases a7:9<=k
  .rw[ar a7,ar a7,ar a7,cO,cK];exact Xj
  .rw[ak a7,ak a7,ak a7,cO,cK];exact Xj
 rw[d6.o];clear bo b9 cb cK cO;obtain⟨ci,ch,b2,c8,c9,da⟩:=lq F (show ∀x∈a1,x<n by rw[ad];split<;>assumption) (show ∀x∈no,x<n by rw[am];split<;>assumption) a0 ad am;clear hi eo F a0 ad am;go_enter func136,ntmps136
 go_upto_region 1 with(fail)
 generalize w.alloc _=W at cI B ⊢;obtain⟨E,Z,d0,d1⟩:=aJ B;obtain⟨ba,cu⟩:=bL cI B;have cz:=aY E (aY Z (aY d0 d1));clear cI B;go_region_held3 (fun V=>af V w 0 (zI k)/\af V w 1 (zI v)/\af V w 2 (.slice A1 a8 c1)/\af V w 3 (.slice A2 lo c2))
  (exact cz)
  ((fail))
 go_upto_if 17 with(fail)
 go_cut [7,8,9] from 10 (fun e0 e1 e2 V=>∃c5 cj c6 ee,e0=.slice c5 a1 cj/\e1=.slice c6 no ee/\e2=.int .i64 R/\aU V c5 (bC a1)/\aU V c6 (bC no)/\aW V w (jF k v A1 a8 c1 A2 lo c2) 166/\aj w V)
 case first=>
  by_cases a7:9<=k
  .have fa:IntKind.i64.wrap (k-9)=k-9:=Sq;have fb:IntKind.i64.wrap (k-9+3)=k-6:=Sq;go_wp2_with fail
   go_region_held3 (fun V=>af V w 0 (zI k)/\af V w 1 (zI v)/\af V w 2 (.slice A1 a8 c1)/\af V w 3 (.slice A2 lo c2))
    (exact cz)
    ((fail))
   go_wp2_with fail
   go_meet
   have a0:=c8.o;have ad:=c9.o;have am:=da.o;rw[ar a7]at a0 ad am;subst a0 ad am;exact⟨A2,c2,A1,c1,rfl,rfl,rfl,ct.o _ ba.drew.drew,cr.o _ ba.drew.drew,cu,ba.drew.drew⟩
  .go_wp2_with fail
   go_meet
   have ek:¬9<=k:=Ry;have a0:=c8.o;have ad:=c9.o;have am:=da.o;rw[ak ek]at a0 ad am;subst a0 ad am;exact⟨A1,c1,A2,c2,rfl,rfl,rfl,cr.o _ ba.drew,ct.o _ ba.drew,cu,ba.drew⟩
 case rest=>
  obtain⟨e3,e5,e4,co,rfl,rfl,rfl,b9,cb,B,dc⟩:=hcut;obtain⟨d8,ao,bb,a6⟩:=fS B dc (fun V (bm:aj wc V)=>b9.ext bm) (fun V (bm:aj wc V)=>cb.ext bm);clear cz E Z d0 d1 b9 cb B dc cu ba cr ct;by_cases b4:R=3
  .have F:=ci.o;rw[b4]at F;obtain⟨x,rfl⟩:∃x,a1=[x]:=wE.1 F.1;obtain⟨z,T,rfl⟩:∃z T,no=[z,T]:=by
    match no,F.2 with
    |[a,b],_=>exact⟨a,b,rfl⟩
   subst b4;have ce:x<n:=ch x Rx;have J:z<n:=b2 z Rx;have c4:T<n:=b2 T Rx;have ca:=(bb wc (ai _ _)).here (k:=0) RQ;have bi:=(a6 wc (ai _ _)).here (k:=0) RQ;obtain⟨b0,b1,rfl,a5⟩:=ca;obtain⟨br,bv,rfl,U⟩:=bi;have ab:=a5 0 (x:Int) rfl;have Q:=U 0 (z:Int) rfl;have cj:=U 1 (T:Int) rfl;rw[jJ]at ab Q;have b3:=aY ab (aY Q cj);have eA:IntKind.i64.wrap (p-1)=p-1:=Sq;obtain⟨bd,d7,be,d9⟩:=fS (a3 [(z,1),(x,p-1)] (fun q B=>by simp at B;rcases B with rfl|rfl;exact J;exact ce)) (a3 [(T,1),(x,p-1)] (fun q B=>by simp at B;rcases B with rfl|rfl;exact c4;exact ce)) (fun H I V (a4:aW V H (oU z x) 3) (ac:aW V I #[.int .i64 1,.int .i64 (p-1)] 3)=>(show ax 135 (yR p n (aX H) (aX I)) V (fun e w'=>∃g,e=.returned (.slice (aX g) n n)/\lZ V n g (l5 p n [(z,1),(x,p-1)]) w'/\aj V w') from a2 [(z,1),(x,p-1)] (some ⟨H,0,none⟩) (some ⟨I,0,none⟩) 2 2 V (fun q B=>by simp at B;rcases B with rfl|rfl;exact⟨J,SP,SP⟩;exact⟨ce,SP,SP⟩) Rx (ja a4 rfl) (ja ac rfl))) (fun H I V (a4:aW V H (oU T x) 3) (ac:aW V I #[.int .i64 1,.int .i64 (p-1)] 3)=>(show ax 135 (yR p n (aX H) (aX I)) V (fun e w'=>∃g,e=.returned (.slice (aX g) n n)/\lZ V n g (l5 p n [(T,1),(x,p-1)]) w'/\aj V w') from a2 [(T,1),(x,p-1)] (some ⟨H,0,none⟩) (some ⟨I,0,none⟩) 2 2 V (fun q B=>by simp at B;rcases B with rfl|rfl;exact⟨c4,SP,SP⟩;exact⟨ce,SP,SP⟩) Rx (ja a4 rfl) (ja ac rfl)));rw[show([x]:bW).length=1 from rfl,show([z,T]:bW).length=2 from rfl];clear a5 U F bb a6 ce J c4 a2 a3 ab Q cj;go_wp2_with fail
   go_region_held3 (fun V=>af V b0 b1 (zI (x:Nat))/\af V br bv (zI (z:Nat))/\af V br (bv+1) (zI (T:Nat)))
    (first|with_reducible exact ru (aE _ _) RV|with_reducible exact ru d4.o RV|with_reducible exact ru bz.o RV|exact b3|assumption)
    ((first|(go_at_call 135;(with_reducible refine qA (be.o _ _ _ ?_ ?_) ?_);(focus (iterate 8 (first|done|with_reducible refine oG ?_|(with_reducible refine aD _ _ ?_;simp;done)|with_reducible refine oF ?_|with_reducible refine ap.o _ _ ?_)));(focus (iterate 8 (first|done|with_reducible refine oG ?_|(with_reducible refine aD _ _ ?_;simp;done)|with_reducible refine oF ?_|with_reducible refine ap.o _ _ ?_)));rintro e cn ⟨cF,rfl,O,D⟩;have bz:=zH D;have ap:=zH (fun(k:Nat) (x:Obj) h=>aA (b:=k) (o:=x) h D);have GX:=zH (xR (w:=wc) D WB);have a9:=zH (DS (w:=wc) (lo:=w.heap.size) O D WB ao.size);clear O D)|(go_at_call 135;(with_reducible refine qA (d9.o _ _ _ ?_ ?_) ?_);(focus (iterate 8 (first|done|with_reducible refine oG ?_|(with_reducible refine aD _ _ ?_;simp;done)|with_reducible refine oF ?_|with_reducible refine ap.o _ _ ?_)));(focus (iterate 8 (first|done|with_reducible refine oG ?_|(with_reducible refine aD _ _ ?_;simp;done)|with_reducible refine oF ?_|with_reducible refine ap.o _ _ ?_)));rintro e fs ⟨e6,rfl,O,D⟩;have d4:=zH D;have eb:=zH (xR (w:=wc) D WB);have d2:=zH (DS (w:=wc) (lo:=w.heap.size) O D WB ao.size);have d3:=zH (a9.later (xR (w:=cn) D WB) (ah _));clear O D)))
   all_goals
    go_wp2_with fail
    go_ret
    exact zhU bd d7 (bQ ao eb) d3 d2
  by_cases b5:R=5
  .have F:=ci.o;rw[b5]at F;obtain⟨z,rfl⟩:∃x,no=[x]:=wE.1 F.2;obtain⟨E,Z,rfl⟩:∃z T,a1=[z,T]:=by
    match a1,F.1 with
    |[a,b],_=>exact⟨a,b,rfl⟩
   subst b5;have J:z<n:=b2 z Rx;have bp:E<n:=ch E Rx;have c0:Z<n:=ch Z Rx;have ca:=(bb wc (ai _ _)).here (k:=0) RQ;have bi:=(a6 wc (ai _ _)).here (k:=0) RQ;obtain⟨b0,b1,rfl,a5⟩:=ca;obtain⟨br,bv,rfl,U⟩:=bi;have Q:=U 0 (z:Int) rfl;have ab:=a5 0 (E:Int) rfl;have db:=a5 1 (Z:Int) rfl;rw[jJ]at ab Q;have b3:=aY Q (aY ab db);have eA:IntKind.i64.wrap (p-1)=p-1:=Sq;obtain⟨bd,be⟩:=bL (a3 [(z,1),(E,p-1),(Z,p-1)] (fun q B=>by simp at B;rcases B with rfl|rfl|rfl;exact J;exact bp;exact c0)) (fun H I V (a4:aW V H #[.int .i64 (z:Nat),.int .i64 (E:Nat),.int .i64 (Z:Nat)] 3) (ac:aW V I #[.int .i64 1,.int .i64 (p-1),.int .i64 (p-1)] 3)=>(show ax 135 #[p,(n:Nat),.slice (aX H) 3 3,.slice (aX I) 3 3] V (fun e w'=>∃g,e=.returned (.slice (aX g) n n)/\lZ V n g (l5 p n [(z,1),(E,p-1),(Z,p-1)]) w'/\aj V w') from a2 [(z,1),(E,p-1),(Z,p-1)] (some ⟨H,0,none⟩) (some ⟨I,0,none⟩) 3 3 V (fun q B=>by simp at B;rcases B with rfl|rfl|rfl;exact⟨J,SP,SP⟩;exact⟨bp,SP,SP⟩;exact⟨c0,SP,SP⟩) Rx (ja a4 rfl) (ja ac rfl)));rw[show([E,Z]:bW).length=2 from rfl,show([z]:bW).length=1 from rfl];clear a5 U F bb a6 J bp c0 a2 a3 ab db Q;go_wp2_with fail
   go_region_held3 (fun V=>af V br bv (zI (z:Nat))/\af V b0 b1 (zI (E:Nat))/\af V b0 (b1+1) (zI (Z:Nat)))
    (first|with_reducible exact ru (aE _ _) RV|with_reducible exact ru bz.o RV|exact b3|assumption)
    ((first|(go_at_call 135;(with_reducible refine qA (be.o _ _ _ ?_ ?_) ?_);(focus (iterate 8 (first|done|with_reducible refine oG ?_|(with_reducible refine aD _ _ ?_;simp;done)|with_reducible refine oF ?_|with_reducible refine ap.o _ _ ?_)));(focus (iterate 8 (first|done|with_reducible refine oG ?_|(with_reducible refine aD _ _ ?_;simp;done)|with_reducible refine oF ?_|with_reducible refine ap.o _ _ ?_)));rintro e cn ⟨cF,rfl,O,D⟩;have bz:=zH D;have GX:=zH (xR (w:=wc) D WB);have a9:=zH (DS (w:=wc) (lo:=w.heap.size) O D WB ao.size);clear O D)))
   all_goals
    go_wp2_with fail
    go_ret
    exact za_ bd (bQ ao GX) a9
  by_cases b6:R=6
  .have F:=ci.o;rw[b6]at F;obtain⟨z,rfl⟩:∃x,no=[x]:=wE.1 F.2;subst b6;have J:z<n:=b2 z Rx;have bi:=(a6 wc (ai _ _)).here (k:=0) RQ;obtain⟨br,bv,rfl,U⟩:=bi;have Q:=U 0 (z:Int) rfl;rw[jJ]at Q;obtain⟨bd,be⟩:=bL (a3 [(z,1)] (fun q B=>by simp at B;rcases B with rfl;exact J)) (fun H I V (a4:aW V H (cA z) 3) (ac:aW V I #[.int .i64 1] 3)=>(show ax 135 #[p,(n:Nat),.slice (aX H) 1 1,.slice (aX I) 1 1] V (fun e w'=>∃g,e=.returned (.slice (aX g) n n)/\lZ V n g (l5 p n [(z,1)]) w'/\aj V w') from a2 [(z,1)] (some ⟨H,0,none⟩) (some ⟨I,0,none⟩) 1 1 V (fun q B=>by simp at B;rcases B with rfl;exact⟨J,SP,SP⟩) Rx (ja a4 rfl) (ja ac rfl)));rw[show([z]:bW).length=1 from rfl];clear U F bb a6 J a2 a3;go_wp2_with (go_at_call 135;(with_reducible refine qA (be.o _ _ _ ?_ ?_) ?_);(focus (iterate 8 (first|done|with_reducible refine oG ?_|(with_reducible refine aD _ _ ?_;simp;done)|with_reducible refine oF ?_|with_reducible refine ap.o _ _ ?_)));(focus (iterate 8 (first|done|with_reducible refine oG ?_|(with_reducible refine aD _ _ ?_;simp;done)|with_reducible refine oF ?_|with_reducible refine ap.o _ _ ?_)));rintro e cn ⟨cF,rfl,O,D⟩;have bz:=zH D;have GX:=zH (xR (w:=wc) D WB);have a9:=zH (DS (w:=wc) (lo:=w.heap.size) O D WB ao.size);clear O D)
   go_ret
   exact za_ bd (bQ ao GX) a9
  by_cases b7:R=7
  .have F:=ci.o;rw[b7]at F;obtain⟨z,rfl⟩:∃x,no=[x]:=wE.1 F.2;obtain⟨E,rfl⟩:∃x,a1=[x]:=wE.1 F.1;subst b7;have J:z<n:=b2 z Rx;have bp:E<n:=ch E Rx;have ca:=(bb wc (ai _ _)).here (k:=0) RQ;have bi:=(a6 wc (ai _ _)).here (k:=0) RQ;obtain⟨b0,b1,rfl,a5⟩:=ca;obtain⟨br,bv,rfl,U⟩:=bi;have Q:=U 0 (z:Int) rfl;have ab:=a5 0 (E:Int) rfl;rw[jJ]at ab Q;obtain⟨-,v1,-,-⟩:=aJ d8;have b3:=aY Q (aY ab v1);have c7:=zH (fun V=>sl p v V cR dl ev es);obtain⟨u,cc⟩:=aK ((p-v)%p);have e8:0<=u:=by rw[cc];exact gI _ Ry
   have e9:u<p:=by rw[cc];exact gJ _ Ry
   rw[<-cc]at c7;obtain⟨ea,bd,be⟩:=dD cc (a3 [(z,1),(E,u)] (fun q B=>by simp at B;rcases B with rfl|rfl;exact J;exact bp)) (fun H I V (a4:aW V H (oU z E) 3) (ac:aW V I #[.int .i64 1,.int .i64 u] 3)=>(show ax 135 (yR p n (aX H) (aX I)) V (fun e w'=>∃g,e=.returned (.slice (aX g) n n)/\lZ V n g (l5 p n [(z,1),(E,u)]) w'/\aj V w') from a2 [(z,1),(E,u)] (some ⟨H,0,none⟩) (some ⟨I,0,none⟩) 2 2 V (fun q B=>by simp at B;rcases B with rfl|rfl;exact⟨J,SP,SP⟩;exact⟨bp,SP,SP⟩) Rx (ja a4 rfl) (ja ac rfl)));rw[show([E]:bW).length=1 from rfl,show([z]:bW).length=1 from rfl];clear a5 U F bb a6 J bp a2 a3 ab Q v1 cc;go_wp2_with fail
   go_region_held3 (fun V=>af V br bv (zI (z:Nat))/\af V b0 b1 (zI (E:Nat))/\af V w 1 (zI v))
    (first|with_reducible exact ru (aE _ _) RV|with_reducible exact ru bz.o RV|exact b3|assumption)
    ((first|(go_at_call 135;(with_reducible refine qA (be.o _ _ _ ?_ ?_) ?_);(focus (iterate 8 (first|done|with_reducible refine oG ?_|(with_reducible refine aD _ _ ?_;simp;done)|with_reducible refine oF ?_|with_reducible refine ap.o _ _ ?_)));(focus (iterate 8 (first|done|with_reducible refine oG ?_|(with_reducible refine aD _ _ ?_;simp;done)|with_reducible refine oF ?_|with_reducible refine ap.o _ _ ?_)));rintro e cn ⟨cF,rfl,O,D⟩;have bz:=zH D;have GX:=zH (xR (w:=wc) D WB);have a9:=zH (DS (w:=wc) (lo:=w.heap.size) O D WB ao.size);clear O D)|(go_at_call 119;(with_reducible refine(c7.o _).mono ?_);rintro e w' ⟨rfl,rfl⟩)))
   all_goals
    go_wp2_with fail
    go_ret
    have dT:=za_ bd (bQ ao GX) a9;rw[ea.o]at dT;exact dT
  have fd:(R==3)=false:=by simpa using b4
  have fl:(R==5)=false:=by simpa using b5
  have fn:(R==6)=false:=by simpa using b6
  have fo:(R==7)=false:=by simpa using b7
  have d5:=zH (by unfold Ds;rw[ak b4,ak b5,ak b6,ak b7]:Ds p R v a1 no=[]);clear b4 b5 b6 b7;go_wp2;go_ret
  rw[d5.o];exact⟨none,0,rfl,Fr.all fun _=>aG rfl,ao⟩
def zR(m:Nat)(r:aH):List Int:=List.replicate m 0++r
def eR(p:Int)(g:Gr)(e:Ed):List (List Int):=((e.eqns p).map (l5 p g.w)).map (zR g.jU)
def sR(p:Int)(g:Gr)(m:Nat):List (List Int):=g.ends p++(g.es.take m).flatMap (eR p g)
def zg2(p:Int)(g:Gr):sR p g 0=g.ends p:=by simp[sR]
def zg3{e:Ed}(h:g.es[m]?=some e):sR p g (m+1)=sR p g m++eR p g e:=by unfold sR;rw[kd h,List.flatMap_append,kW];simp
def zh9(p:Int)(g:Gr):sR p g g.es=g.m9 p:=by
 unfold sR Gr.m9 Gr.rows Gr.eqs;rw[pf];congr 1
 rw[kB,List.map_flatMap];congr 1
 funext e
 unfold eR;rw[kB];rfl
def zh_(m:Nat):(sR p g m).length<=g.jU+2*g.es:=by
 unfold sR;rw[bS];have z:(g.ends p).length=g.jU:=by unfold Gr.ends;simp
 have B:=Af (f:=eR p g) (fun e=>by unfold eR Ed.eqns;rw[bl,bl];split<;>exact Ad ..) (g.es.take m);have D:(g.es.take m).length<=g.es:=Sd;omega
def zjB(S:Sy)(w:aa)(e:Ending)(w':aa):Prop:=∃A c,e=.returned (.agg (ae S.v S.h A S.rows c))/\Fr w' w w' (fun V=>jh V A S.rows)/\aj w w'
def yt{K:oS}{F:Prop}(J:o.guard=none)(s x:kE)(O:o.op=.call {callee:=.builtin .append,args:=#[s,x],argTypes:=#[24,24]})(z:Nat)(B W:aa)(v u:av)(rows:aC)(r:aH)(Es:aI B z v rows)(D:aj B W)(hu:au W B u r)(ap:rows.length+1<=1073741824)(H:z<=(B:Nat))(Z:a.eval s=v)(ab:a.eval x=.slice (aX W) 1 1)(h:∀g cap w',aI w' z (.slice (aX g) (rows.length+1) cap) (rows++[r])->Below z B w'->(W:Nat)<=w'.heap.size->(∀k,k < (W:Nat)->some k≠v.ownBlock->w'.heap[k]?=W.heap[k]?)->(v.ownBlock=some g∨(W:Nat)<=g)->K (a.put o.dst (.slice (aX g) (rows.length+1) cap)) w'):if Region.wanted o (yielded Q a.tmps)=true then Oper.wp prog o a (W.alloc (.cells #[u] 27)) K R else F:=by
 obtain⟨ao,hi,ac,ad,am⟩:=cM jf;obtain⟨us,Es⟩:=Es;have hW:=Es.ext D;have T:=mq hW.outer (.cells #[u] 27);have a0:=D.size;refine zg _ J s x 24 O z 27 ao (.slice none 0 0) 1 24 gE hi ac ad am rfl RC v _ _ Z T ⟨W,0,none⟩ 1 1 [u] ab rfl ?_ ?_ RC ?_ ?_ ?_ _ rfl ?_
 .exact Yi
 .exact XE
 .unfold maxLen;omega
 .omega
 .simp;omega
 .intro g cap w' U EJ I _;have hg:W.grownBy w' v.ownBlock:=⟨EJ.os,EJ.tape,EJ.output,VF,fun k hk E=>(EJ.block k RX E).trans (qE W _ hk)⟩;refine h g cap w' ⟨us++[u],?_,?_,?_⟩ (D.mono H |>.trans ((ai _ _).grown hg Ry fun k hk=>(b_ hW.outer k hk).1)) hg.size (fun k hk E=>hg.block k hk E) (I.imp id fun e=>by rw[e];simp)
  .simpa using U
  .exact Zx
  .exact ZR
structure SyB(B Z:Nat)(V:aa)(jU gw:Nat)(C:aq)(m c:Nat)(rows:aC):Prop where
 box:aW V Z (yT jU gw C m c) 26
 own:aI V B (.slice C m c) rows
 len:rows.length=m
 lz:Z<B
 le:B<=(V:Nat)
def SyB.ext{jU:Nat}{C:aq}{rows:aC}(h:SyB D J V jU Rc C m c rows)(z:aj V E):SyB D J E jU Rc C m c rows:=⟨aA h.box z,h.own.ext z,h.len,h.lz,bE h.le z.size⟩
def SyB.stored{jU:Nat}{C:aq}{B z:Nat}{rows:aC}{r:aH}(h:SyB D J E jU Rc C m c rows)(I:aI Rh D (.slice (aX B) (m+1) z) (rows++[r]))(F:Below D E Rh):SyB D J (Rh.setCell ⟨J,2,none⟩ (.slice (aX B) (m+1) z)) jU Rc (some ⟨B,0,none⟩) (m+1) z (rows++[r])/\aW Rh J (yT jU Rc C m c) 26:=by have H:=(F.block J h.lz).trans h.box;have y:=bw Rh J 2 _ _ (.slice (aX B) (m+1) z) H;simp only[zA]at y;exact⟨⟨y,I.setCell (a:=⟨J,2,none⟩) h.lz _,by rw[bS,h.len];rfl,h.lz,by have:=h.le;have:=F.size;simp;omega⟩,H⟩
def zhm(S:Sy)(w:aa)(e:Ending)(w':aa):Prop:=∃A c,e=.returned (.agg (ae S.v S.h A S.rows c))/\aI w' ((w:Nat)+2) (.slice A S.rows c) S.rows/\aj w w'/\(w:Nat)+2<=w'
def zhm.to{S:Sy}{w:aa}{e:Ending}{w':aa}(h:zhm S w e w'):zjB S w e w':=by obtain⟨A,c,z,B,D,E⟩:=h;exact⟨A,c,z,(B.from.frC E).to Ry (ah _),D⟩
def zel(p:Int)(g:Gr)(A1 A2 A3:aq)(c1 c2 c3:Nat)(w:aa)(bb:2<=p)(e1:p<=97)(b8:oI w A1 A2 A3 g)(ca:g.okB=true)(e5:∀e∈g.es,0<=e.v/\e.v<p):ax 115 (iH p (bF g A1 c1 A2 c2 A3 c3)) w (zhm (g.sys p) w):=by
 obtain⟨g9,gC,g6,g8,Ev⟩:=cM fq;have ao:=Gr.gx.1 ca;have eo:=Gr.lX ca;have gB:g.w<=100:=ao.1;have hA:g.es.length<=60:=ao.2.1;have hB:g.i.length<=12:=ao.2.2.1;have hC:g.o.length<=12:=ao.2.2.2.1;obtain⟨bp,ap,c6,d5,c9⟩:=l_ (fun V (am:aj w V)=>b8.ext am) eo ao.2.2.2.2.1 e5 (fun V (am:aj w V)=>(by have:=ig A2 c2 (bC g.i) V (b8.ext am).i Sl;rw[bf]at this;exact this:ax 80 #[.slice A2 g.i c2] V fun e w'=>∃u,e=.returned u/\au w' V u (bC g.i)/\aj V w'));obtain⟨jU,be⟩:=aK g.jU;have T:=zH be;have e6:(bC g.i++bC g.o).length=jU:=by rw[bS,bf,bf,be];rfl
 have d6:=zH e6;have hD:jU<=24:=by rw[be];unfold Gr.jU;omega
 obtain⟨B,cb⟩:=aK g.w;have R:=zH cb;rw[<-cb]at gB ⊢;obtain⟨N,ea⟩:=aK (jU+B);have g2:IntKind.i64.wrap ((jU:Int)+(B:Int))=(N:Int):=Sq;have eb:N<=4096:=Ry;have br:=zH ea;have g3:IntKind.i64.wrap (p-1)=p-1:=Sq;have b6:=((ai w w).alloc (ah _) (.cells (fG B A1 g.es c1 A2 g.i c2 A3 g.o c3) 151)).alloc Rx (.cells aQ 26);have F:=(bZ (w.alloc (.cells (fG B A1 g.es c1 A2 g.i c2 A3 g.o c3) 151)) (.cells aQ 26) (k:=w.heap.size) Rx).trans (aD w _ rfl);have E:=aD (w.alloc (.cells (fG B A1 g.es c1 A2 g.i c2 A3 g.o c3) 151)) (.cells aQ 26) (n:=(w:Nat)+1) Rx;clear b8 ca e5 ao eo be e6 cb ea;go_enter func115,ntmps115
 go_upto_region 1 with(fail)
 generalize (w.alloc _).alloc _=W at b6 F E ⊢;obtain⟨Z,ab,O,Q⟩:=aJ F;obtain⟨a3,bv,d0,hm⟩:=fS b6 F E (show(w:Nat)+1<W from(aP.1 E).1);have S0:=aY O Q;clear b6 F E Z ab O Q;go_region_held3 (fun V=>af V w 2 (.slice A2 g.i c2)/\af V w 3 (.slice A3 g.o c3))
  (first|with_reducible exact mR GX.o S0|with_reducible exact mR ac.o S0|exact S0)
  ((first|(go_at_call 80;(with_reducible refine(c9.o _ (a3.o.drew)).mono ?_);rintro e fa ⟨u1,rfl,e3,eg⟩;have GX:=zH ((aF W).trans eg);have d4:=zH e3;have db:=zH (bp fa (bQ a3 GX)).o;clear e3 eg)|(refine cQ rfl (.tmp 15) (.tmp 17) rfl W fa u1 (bC g.i) (bC g.o) A3 g.o c3 (bf _).symm rfl rfl d4.o db.o Sl GX.o.size ?_;intro hO w2 e4 D;obtain⟨hh,hp,b0,en,-,-⟩:=e4.view;subst b0;have ac:=zH (GX.trans (D.mono (ah _)));have c7:=zH en;rw[d6.o];clear e4 D en)))
 obtain⟨a4,d1,dl⟩:=dD (bQ a3 ac) (aA d0 ac) (aA bv ac);obtain⟨Z,ab,O,Q⟩:=aJ (aA bv ac);have hk:=zH (bp w2 a4);go_upto_region 3 with(fail)
 obtain⟨H,bm⟩:=dC w2 (.cells (wk jU B) 26);generalize w2.alloc _=w3 at H bm ⊢;obtain⟨FA,cO⟩:=bL (show(w2:Nat)<w3 from(aP.1 bm).1) H;obtain⟨Jg,hl⟩:=bL (show SyB w3 w2 w3 jU B none 0 0 [] from⟨bm,⟨[],kX _ _ _ _,fun k u r h=>RR,fun i j u hN b h=>RR⟩,rfl,FA,ah _⟩) (show(w:Nat)<=w2 from a4.size);clear H bm Z ab O Q S0 a3 bv d0 c9 ac d4 db GX;go_wp2;go_loopw [26] (fun i wr=>∃(k:Nat) (C1:aq) (m1:Nat),k<=jU/\i=.int .i64 k/\SyB w3 w2 wr jU B C1 k m1 ((g.ends p).take k)/\aj w2 wr) (fun i _=>jU-(intOf i).toNat)
 case atStart=>exact⟨0,none,0,aT _,rfl,Jg,cO⟩
 case round=>
  obtain⟨k,C1,m1,hx,rfl,z,D⟩:=hrel;clear Jg;by_cases ba:k<jU
  .obtain⟨x,J⟩:=aw (show k < (g.i++g.o).length by have:=T.o;rw[bS];unfold Gr.jU at this;omega);obtain⟨hn,ho,rfl,a1⟩:=(c7.ext D).here (k:=k) (by rw[d6.o];exact ba);have hv:=a1 k (x:Int) (by rw[<-nY];exact fk J);have g4:x<B:=by
    rw[R.o];rcases eO.1 (aR J)with h|h
    .exact ap x (aG h)
    .exact ap x (aB (aG h))
   have gm:=zH (by rw[bg,J];rfl:(g.i++g.o).getD k 0=x);have GV:=zH (show(g.ends p).take (k+1)=(g.ends p).take k++[l5 p N [(k,1),(jU+x,p-1)]] from by refine kd ?_;unfold Gr.ends;rw[bR,kx (by rw[<-T.o];exact ba),br.o,T.o,R.o,<-gm.o];rfl)
   obtain⟨y,e7⟩:=aK (jU+x);have hE:IntKind.i64.wrap ((jU:Int)+(x:Int))=(y:Int):=Sq;rw[<-e7]at GV;have cr:y<N:=by have:=br.o;omega
   have ch:k<N:=by have:=br.o;omega
   obtain⟨bz,Fi⟩:=bL ((AM (p:=p) (n:=N) (L:=[(k,1),(y,p-1)]) bb (fun q F=>by simp at F;rcases F with rfl|rfl;exact ch;exact cr)).1) (fun b3 b4 V (b5:aW V b3 (oU k y) 3) (a7:aW V b4 #[.int .i64 1,.int .i64 (p-1)] 3)=>(show ax 135 (yR p N (aX b3) (aX b4)) V (fun e w'=>∃g,e=.returned (.slice (aX g) N N)/\lZ V N g (l5 p N [(k,1),(y,p-1)]) w'/\aj V w') from BE p N [(k,1),(y,p-1)] (some ⟨b3,0,none⟩) (some ⟨b4,0,none⟩) 2 2 V bb e1 eb Rx (ja b5 rfl) (ja a7 rfl) (fun q F=>by simp at F;rcases F with rfl|rfl;exact⟨ch,SP,SP⟩;exact⟨cr,SP,SP⟩)));obtain⟨row,e2⟩:=aK (l5 p N [(k,1),(y,p-1)]);rw[<-e2]at GV bz Fi;obtain⟨z0,z1,z2⟩:=al z.box;have S0:=aY z0 (aY z1 z2);obtain⟨Jg,Fl⟩:=bL z D;clear a1 J g4 e7 cr ch e2 z D z0 z1 z2;go_upto_region 6 with(fail)
   refine bk (S:=(fun V=>af V w2 0 (zI (jU:Nat))/\af V w2 1 (zI (B:Nat))/\af V w2 2 (.slice C1 k m1))) 19 RU S0 (fun hHeld=>?_);refine ay 0 ?_;refine ay 1 ?_;refine ay 2 ?_;refine ay 3 ?_;refine ay 4 ?_;refine ay 5 ?_;refine ay 6 ?_;refine ay 7 ?_;refine ay 8 ?_;refine ay 9 ?_;refine ay 10 ?_;refine ay 11 ?_;refine ay 12 ?_;refine ay 14 ?_;refine ay 15 ?_;refine zb0 (i:=13) (j:=16) RU rfl rfl (fun K hK=>?_) (fun K hK=>?_)
   .go_simp;refine hK.out _ _ (fun _=>ru Wz S0) (fun hHeld=>?_);clear hK K hHeld;try simp only[Act.put,zA]
    refine bu 16 fun K hK=>?_
    exact Z8
   .go_simp;refine hK.out _ _ (fun _=>ru Wz S0) (fun hHeld=>?_);clear hK K hHeld;try simp only[Act.put,zA]
    refine bu 13 fun K hK=>?_
    exact Z8
  .have gK:jU=k:=Ry;subst gK;rw[show(g.ends p).take jU=sR p g 0 from by rw[zg2];exact fO (by unfold Gr.ends;simp;have:=T.o;omega)]at z;obtain⟨Z,ab,O,Q⟩:=aJ (aA dl D);obtain⟨d3,c0⟩:=bL z D;clear z D g2 g3 eb cO c7;go_wp2;go_loopw [56] (fun i wr=>∃(j m m1:Nat) (C1:aq),j<=g.es.length/\i=.int .i64 j/\SyB w3 w2 wr jU B C1 m m1 (sR p g j)/\aj w2 wr) (fun i _=>g.es.length-(intOf i).toNat)
   case atStart=>exact⟨0,_,_,_,aT _,rfl,d3,c0⟩
   case round=>
    obtain⟨j,m,m1,C1,hw,rfl,z,D⟩:=hrel;clear d3 c0 Z ab O Q;by_cases ba:j<g.es.length
    .obtain⟨e,a8⟩:=aw ba;obtain⟨hr,hs,cI,d7,cK,d8,b9,u0,u1,u2,u3,cc,ce⟩:=pY (bp wr (bQ a4 D)).es a8;subst b9;obtain⟨ct,cu,b1,b2⟩:=e;dsimp only at u0 u1 u2 u3 cc ce;obtain⟨H,cj⟩:=dC wr (.cells (jF ct cu cI b1 d7 cK b2 d8) 166);have U:=aR a8;have d2:=zH (fun V (am:aj wr V)=>zba p B ⟨ct,cu,b1,b2⟩ cI cK d7 d8 V bb e1 Ry (cc.ext am) (ce.ext am) (c6.o _ U) (fun x J=>by rw[R.o];exact ap x (aB (aB ⟨_,U,aG J⟩))) (fun x J=>by rw[R.o];exact ap x (aB (aB ⟨_,U,aB J⟩))) (d5.o _ U).1 (d5.o _ U).2);obtain⟨I,a0⟩:=aK (((Ed.mk ct cu b1 b2).eqns p).map (l5 p B));rw[<-a0]at d2;have f3:=zH (by rw[zg3 a8,a0,T.o,R.o];rfl:sR p g (j+1)=sR p g j++I.map (zR jU));have bz:=zH (show ∀r∈I,r.length=B from fun r E=>by rw[a0]at E;obtain⟨L,gw,rfl⟩:=cd.1 E;refine(AM bb fun q F=>?_).1;rw[R.o];exact Gr.zfN c6 ap L (wO.2 ⟨_,U,gw⟩) q F)
     have gA:I.length<=2:=by rw[a0,bl];unfold Ed.eqns;split <;>exact Ad ..
     have gR:m<=200:=by have:=z.len;have a7:=zh_ (p:=p) (g:=g) j;have:=T.o;omega
     obtain⟨dT,a5,c4,cR⟩:=fS (aA (aA dl D) H) (z.ext H) (bQ D H) H;clear a8 cc ce U a0 z D;go_upto_region 11 with(fail)
     generalize wr.alloc _=cz at H cj dT a5 c4 cR ⊢;obtain⟨hc,hd,n2,he⟩:=aJ cj;obtain⟨Z,ab,O,Q⟩:=aJ dT;clear u0 u1 u2 u3 cj H;go_wp2_with (go_at_call 136;(with_reducible refine(d2.o _ cR.o).mono ?_);intro e bo h;unfold zgQ at h;obtain⟨hj,hq,b0,ek,Fk⟩:=h;subst b0;have f5:=zH ek;have FX:=zH Fk;have gc:=zH (a5.ext Fk);have fs:=zH (bQ c4 Fk);clear ek Fk)
     have dc:=zH (show ∀g,(Value.slice C1 m m1).ownBlock=some g->g < (cz:Nat) from fun g h=>by obtain⟨us,gV⟩:=a5.own;exact(b_ gV.outer g h).2)
     clear hc hd n2 he Z ab O Q;obtain⟨l,ci⟩:=aK I.length;have c8:=zH ci;rw[<-ci]at gA ⊢;clear ci;go_loopw [66] (fun i wr=>∃(q m m1:Nat) (C1:aq),q<=l/\i=.int .i64 q/\SyB w3 w2 wr jU B C1 m m1 (sR p g j++(I.take q).map (zR jU))/\aj w2 wr/\(∀k,(cz:Nat)<=k->k < (bo:Nat)->wr.heap[k]?=bo.heap[k]?)/\(∀g,(Value.slice C1 m m1).ownBlock=some g->g < (cz:Nat)∨(bo:Nat)<=g)/\(bo:Nat)<=wr/\m<=200+q) (fun i _=>l-(intOf i).toNat)
     case atStart=>exact⟨0,_,_,_,aT _,rfl,(by simpa using gc.o),fs,fun _ _ _=>rfl,fun g h=>aG (dc g h),ah _,gR⟩
     case round=>
      obtain⟨q,e8,e9,cF,F,rfl,z,D,a9,b7,bi,gL⟩:=hrel;clear dc;by_cases hy:q<l
      .obtain⟨r,E⟩:=aw (show q<I.length by have:=c8.o;omega);have cn:r.length=B:=bz r (aR E);rcases f5 wr a9 with h|⟨hL,hM,b9,a1⟩
       .rw[h]at E;simp at E
       subst b9;obtain⟨fd,gs,ej,es⟩:=a1 q r E;rw[cn]at ej;have GV:=zH (by rw[kd E];simp:sR p g j++(I.take (q+1)).map (zR jU)=(sR p g j++(I.take q).map (zR jU))++[zR jU r]);obtain⟨z0,z1,z2⟩:=al z.box;have S0:=aY z0 z2;obtain⟨Jg,Fl,f8,c5,gf,f6,ga⟩:=zH7 z D a9 b7 bi es cn;clear E cn a1 es z0 z1 z2 z D a9 b7 bi;go_upto_region 14 with(fail)
       refine bk (S:=fun V=>af V w2 0 (zI (jU:Nat))/\af V w2 2 (.slice cF e8 e9)) 8 RU S0 (fun hHeld=>?_);refine ay 0 ?_;refine ay 1 ?_;refine ay 2 ?_;refine ay 3 ?_;refine ay 5 ?_;refine bu 4 fun K hK=>?_
       refine sF _ rfl (.tmp 73) (.tmp 73) 27 rfl wr 3 g9 (zI 0) 1 dA gC g6 g8 .i64 .i64 jU jU jU rfl rfl rfl rfl SB TB Rx ?_;intro fb FV em;rw[gl]at FV;obtain⟨a6,gd⟩:=bL ((aF wr).trans (bT em)) (TO:au fb wr (.slice (aX wr) jU jU) (List.replicate jU 0));clear FV em;rw[show(wr.drew:Nat)=wr from rfl];refine hK.out _ _ (fun _=>mR a6 S0) (fun hHeld=>?_);clear hK K hHeld;try simp only[Act.put,zA]
       refine bu 6 fun K hK=>?_
       refine cQ rfl (.tmp 74) (.tmp 75) rfl wr fb (.slice (aX wr) jU jU) (List.replicate jU 0) r fd B gs ga.o.symm rfl rfl gd.o (f6.ext a6) (by rw[iU];omega) a6.o.size ?_;intro hg w7 e0 ei;have ad:=zH (a6.trans ei);have co:au w7 wr hg (zR jU r):=e0;obtain⟨fl,gn,d9,-,-,-⟩:=co.view;obtain⟨hf,eA⟩:=aK ((zR jU r).length);rw[<-eA]at d9;subst d9;have Je:=zH co;clear e0 ei co eA;refine hK.out _ _ (fun _=>mR ad S0) (fun hHeld=>?_);clear hK K hHeld;try simp only[Act.put,zA]
       refine bu 7 fun K hK=>?_
       go_simp;refine hK.out _ _ (fun _=>mR (ad.alloc ad.size _) S0) (fun hHeld=>?_);clear hK K hHeld;try simp only[Act.put,zA]
       refine bu 8 fun K hK=>?_
       refine yt rfl (.tmp 71) (.tmp 77) rfl w3 wr w7 (.slice cF e8 e9) (.slice fl hf gn) _ (zR jU r) Jg.o.own ad.o Je.o (by rw[Jg.o.len];omega) Jg.o.le rfl rfl ?_;intro g5 FW w5 GW Fk Jc Jd ee;rw[Jg.o.len]at GW ⊢;obtain⟨Fj,Jf⟩:=SyB.stored Jg GW Fk;obtain⟨z0,z1,z2⟩:=al Jf;obtain⟨f0,f1,f2⟩:=bt Jf;obtain⟨GY,fo,gb,f7,fn⟩:=l_ Fj Fk Jc Jd ee;clear GW Fk Jc Jd Fj Jf ee;refine hK.out _ _ (fun h=>absurd h RC) (fun _=>?_);clear hK K;try simp only[Act.put,zA]
       refine bu 9 fun K hK=>?_
       go_simp;refine hK.out _ _ (fun h=>absurd h RC) (fun _=>?_);clear hK K;try simp only[Act.put,zA]
       refine bu 10 fun K hK=>?_
       go_simp;refine hK.out _ _ (fun h=>absurd h RC) (fun _=>?_);clear hK K;try simp only[Act.put,zA]
       refine dS RU ?_ _;clear S0 z0 z1 z2 f0 f1 f2 ej;go_wp2;go_roundw
       case rel=>
        have h:=GY.o;rw[<-GV.o]at h;have ht:=a5.le;have hF:=ad.size;have hu:=gb.o;have bi:=gf.o;have hz:=FA.o;refine⟨q+1,_,_,_,Ry,RB,h,(Fl.trans (fo.mono (js FA))).setCell (p:=⟨w2,2,none⟩) (ah _) _,fun k b5 a7=>?_,fun g h=>?_,RX,Ry⟩
        .refine(bx _ _ _ _ (by show k≠w2.heap.size;omega)).trans ((f7 k Ry (fun e=>?_)).trans ((ad.block k Ry).trans (f8 k b5 a7)));have:=c5 k e.symm;omega
        .obtain rfl:g5=g:=by simpa[Value.ownBlock]using h
         rcases fn.o with e|e
         .exact c5 _ e
         .right;omega
       case measure=>simp[intOf];omega
      .have g0:l=q:=Ry;subst g0;rw[fO (lQ c8.symm),<-f3.o]at z;obtain⟨Jg,Fl⟩:=bL z D;clear z D a9 b7 bi gL;go_wp2;go_roundw
       case rel=>exact⟨j+1,_,_,_,Ry,RB,Jg,Fl⟩
       case measure=>simp[intOf];omega
    .have ev:j=g.es.length:=Ry;rw[ev,zh9]at z;obtain⟨z0,z1,z2⟩:=al z.box;have bd:=aA d1 D;obtain⟨hG,hH,hI⟩:=al bd;obtain⟨f0,f1,f2⟩:=bt bd;have y:=gh (v0:=.int .i64 (jU:Nat)) (v1:=.int .i64 (B:Nat)) (v2:=.slice C1 m m1) bd;obtain⟨hP,hQ,hR⟩:=al y;have g1:=FA.o;have a2:(w:Nat)+1<w3:=by have:=(aP.1 d1).1;omega
     obtain⟨f4,fz,f9,da,gi⟩:=l_ ((((z.own.setCell (a:=⟨(w:Nat)+1,0,none⟩) a2 (zI (jU:Nat))).setCell (a:=⟨(w:Nat)+1,1,none⟩) a2 (zI (B:Nat))).setCell (a:=⟨(w:Nat)+1,2,none⟩) a2 (.slice C1 m m1)).mono (show(w:Nat)+2<=w3 from a2)) ((((bQ a4 D).setCell (p:=⟨(w:Nat)+1,0,none⟩) (by show(w:Nat)<=w+1;omega) (zI (jU:Nat))).setCell (p:=⟨(w:Nat)+1,1,none⟩) (by show(w:Nat)<=w+1;omega) (zI (B:Nat))).setCell (p:=⟨(w:Nat)+1,2,none⟩) (by show(w:Nat)<=w+1;omega) (.slice C1 m m1)) (by unfold Gr.sys;rw[T.o,R.o]:g.sys p=⟨(jU:Nat),(B:Nat),g.m9 p⟩) z.len (show(w:Nat)+2<=wr by have:=z.le;omega);clear z D bd y g1 a2 ev;go_wp2;refine az (v:=.agg (yT jU B C1 m m1)) (by simp[results,results115,go_sem, *]) rfl ?_;rw[f9.o];exact⟨C1,m1,by rw[<-da.o],by show aI _ _ (.slice C1 (g.m9 p) m1) (g.m9 p);rw[da.o];exact f4,fz,by simp;have:=gi.o;omega⟩
structure GdT(p:Int)(L:List jR)(t:Tm):Prop where
 tr:jc (dR L) []=some [t]
 ty:∃c,t.ty=some c
 fl:dR L=t.flat
 ln:L.length<=400
 f:cP p=true
 ov:xY p (dR L)=true
 st:xX (dR L)=true
 gb:t.xh=true
section
variable{p:Int}{L:List jR}{t:Tm}(h:GdT p L t)
include h
def GdT.ok:t.gr.okB=true:=Tm.As h.gb
def GdT.over:t.yo p:=by obtain⟨c,z⟩:=h.ty;exact(Tm.ve z).2 (by rw[<-h.fl];exact⟨h.st,h.ov⟩)
def GdT.p2:2<=p/\p<=97:=et h.f
def GdT.val:∀e∈t.gr.es,0<=e.v/\e.v<p:=fun e F=>by
 have E:=Tm.zcW h.over h.gb e F;have B:=E.1;unfold Ed.mT at B;simp only[bn,cw]at B;have I:e.v<p:=zaw h.p2.1 B.1 SP (fun H=>E.2.2.2.2 H);refine⟨?_,I⟩;have z:=B.1;unfold dV at z;dsimp only at z;rw[bn]at z;have z:=z.2;rw[ak Ry]at z;by_cases D:e.k=7∨e.k=13
 .rw[ar D]at z;simp only[bn,cw]at z;omega
 .rw[ak D]at z;simp only[bn,cw]at z;omega
def GdT.sys:(t.gr.sys p).Ok p:=Gr.zfH h.f h.ok
end
end Go.Proofs.YtdpgblncijojiaaGreatDoor
