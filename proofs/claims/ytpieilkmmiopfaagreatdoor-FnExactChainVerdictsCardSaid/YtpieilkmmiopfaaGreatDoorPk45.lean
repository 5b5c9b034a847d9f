/- Parts of the walks and laws (Dn2, Sy1). Conditions: as stated with each. -/
import Derived.Test.YtpieilkmmiopfaaGreatDoorPk39
namespace Go.Proofs.YtpieilkmmiopfaaGreatDoor
open Go.RowKit Tryz
set_option linter.all false
set_option maxHeartbeats 16000000
set_option maxRecDepth 100000
variable{B H QO Q_ Rn c hi k lo n:Nat}{J Rg W w:aa}{K:mE}{Q:gj}{QJ QS:aH}{a:Act}{e:Ed}{g:Gr}{o:fR}{ops:gP}{p:Int}
theorem ou{o x:Obj}(h:W.heap[k]?=some x):(W.alloc o).heap[k]?=some x:=ah h (ak W o)
theorem ow{x:Obj}(h:W.heap[k]?=some x):W.drew.heap[k]?=some x:=h
theorem zan{E:Nat}{cs:bU}{rows:aN}(N:aW W E cs.toArray 26)(F:lo<=E)(G:E<hi)(R:∀(k:Nat) (r:aH),rows[k]?=some r->∃g,cs[k]?=some (.slice (some ⟨g,0,none⟩) n n)/\r.length=n/\Fr W lo hi (fun h=>aJ h (some ⟨g,0,none⟩) r)):Fr W lo hi (fun h=>bk h (some ⟨E,0,none⟩) rows):=fun h D=>by refine an ⟨E,0,rfl,fun k r O=>?_⟩;obtain⟨g,H,I,J⟩:=R k r O;refine⟨_,n,?_,J h D⟩;rw[iO,a_ ((D E F G).trans N) k,I];simpa using H
theorem zg9{g:Nat}{l:aH}(D:ll B n g l w)(F:B<=w.heap.size):Fr w B w.heap.size (fun h=>aJ h (some ⟨g,0,none⟩) l):=D.a.fr F
def zf9(rows:aN)(w:aa)(e:Ending)(w':aa):Prop:=∃A c,e=.returned (.slice A rows.length c)/\Fr w' w.heap.size w'.heap.size (fun h=>bk h A rows)/\ag w w'
theorem l6{o:Obj}(h:ag w J):Below w.heap.size w (J.alloc o):=h.alloc h.size o
theorem l9(h:ag w J):Below w.heap.size w J.drew:=h.drew
theorem xY(D:ag J Rg)(h:ag w J):ag w Rg:=h.trans (D.mono h.size)
theorem zao{g:Nat}{l:aH}(F:ll J.heap.size n g l Rg)(G:ag J Rg)(D:ag w J)(H:lo<=w.heap.size):Fr Rg lo Rg.heap.size (fun h=>aJ h (some ⟨g,0,none⟩) l):=(zg9 F G.size).to (aR H D.size) (af _)
theorem zbJ(G:QS.length=n)(D:ag w J)(f1:Fr J w.heap.size J.heap.size (fun F=>aJ F (some ⟨H,0,none⟩) QS)):zf9 [QS] w (.returned (.slice (some ⟨J.heap.size,0,none⟩) 1 1)) (J.alloc (.cells (cg (some ⟨H,0,none⟩) n n) 26)):=by
 refine⟨_,1,rfl,zan (n:=n) (cs:=[.slice (some ⟨H,0,none⟩) n n]) (aC J _ rfl) D.size Rq fun k r h=>?_,D.alloc D.size _⟩
 match k,h with
 |0,h=>cases h;exact⟨H,rfl,G,f1.later (ak _ _) (af _)⟩
 |k+1,h=>simp at h
theorem zg_(G:QS.length=n)(I:QJ.length=n)(F:ag w J)(f1:Fr J w.heap.size J.heap.size (fun D=>aJ D (some ⟨H,0,none⟩) QS))(f2:Fr J w.heap.size J.heap.size (fun D=>aJ D (some ⟨Rn,0,none⟩) QJ)):zf9 [QS,QJ] w (.returned (.slice (some ⟨J.heap.size,0,none⟩) 2 2)) (J.alloc (.cells (kX (some ⟨H,0,none⟩) n n (some ⟨Rn,0,none⟩) n n) 26)):=by
 refine⟨_,2,rfl,zan (n:=n) (cs:=[.slice (some ⟨H,0,none⟩) n n,.slice (some ⟨Rn,0,none⟩) n n]) (aC J _ rfl) F.size Rq fun k r h=>?_,F.alloc F.size _⟩
 match k,h with
 |0,h=>cases h;exact⟨H,rfl,G,f1.later (ak _ _) (af _)⟩
 |1,h=>cases h;exact⟨Rn,rfl,I,f2.later (ak _ _) (af _)⟩
 |k+2,h=>simp at h
theorem zbK(p:Int)(n:Nat)(e:Ed)(A1 ac:aq)(c1 c2:Nat)(w:aa)(cp:2<=p)(cO:p<=97)(d3:n<=4096)(b4:aJ w A1 (bt e.i))(b6:aJ w ac (bt e.o))(hf:e.jt=true)(hi:∀x∈e.i,x<n)(d4:∀x∈e.o,x<n)(d6:0<=e.v)(d5:e.v<p):aw 113 #[p,(n:Nat),.agg (uQ e A1 c1 ac c2)] w (zf9 ((e.eqns p).map (ku p n)) w):=by
 obtain⟨k,v,a5,lo⟩:=e;dsimp only at *;obtain⟨cn,F⟩:=bA w (.cells (eD k v A1 a5 c1 ac lo c2) 155);obtain⟨ce,ch⟩:=bD (fun h (bc:ag w h)=>b4.ext bc) (fun h (bc:ag w h)=>b6.ext bc);have d2:3<=k/\k<=14/\a5.length=xD k/\lo.length=xE k:=Y7;obtain⟨h3,ey,Jx,Jz⟩:=d2;have a0:=zH (fun(L:gX) A ac c c2 h (b3:∀q∈L,q.1<n/\0<=q.2/\q.2<=p) (am:L.length<=4096) (h3:aJ h A (bt (L.map (·.1)))) (d0:aJ h ac (L.map (·.2)))=>Cw p n L A ac c c2 h cp cO d3 am h3 d0 b3);have a1:=zH (fun(L:gX) (b3:∀q∈L,q.1<n)=>(um (p:=p) (n:=n) (L:=L) cp b3).1);obtain⟨V,JA⟩:=aM (if 9<=k then k-6 else k);obtain⟨ap,Jy⟩:=aM (if 9<=k then lo else a5);obtain⟨no,JB⟩:=aM (if 9<=k then a5 else lo);have c9:=zH (show(Ed.mk k v a5 lo).eqns p=AZ p V v ap no by unfold Ed.eqns;rw[JA,Jy,JB];split <;>rfl)
 have I:ap.length=yD V/\no.length=mv V:=Zb;rw[c9.o];clear hf b4 b6 Jx Jz;obtain⟨b9,b8,bu,cz,cA,cB⟩:=kE I (show ∀x∈ap,x<n by rw[Jy];split<;>assumption) (show ∀x∈no,x<n by rw[JB];split<;>assumption) JA Jy JB;clear hi d4 I JA Jy JB;go_enter func113,ntmps113
 go_upto_region 1 with(fail)
 generalize w.alloc _=W at cn F ⊢;obtain⟨H,ab,c3,c4⟩:=aA F;obtain⟨a7,ci⟩:=bD cn F;have cj:=aF H (aF ab (aF c3 c4));clear cn F;go_region_held3 (fun h=>ae h w.heap.size 0 (.int .i64 k)/\ae h w.heap.size 1 (.int .i64 v)/\ae h w.heap.size 2 (.slice A1 a5.length c1)/\ae h w.heap.size 3 (.slice ac lo.length c2))
  (exact cj)
  ((fail))
 go_upto_if 17 with(fail)
 go_cut [7,8,9] from 10 (fun d8 d9 eg h=>∃cr ca ct dT,d8=.slice cr ap.length ca/\d9=.slice ct no.length dT/\eg=.int .i64 V/\aJ h cr (bt ap)/\aJ h ct (bt no)/\aW h w.heap.size (eD k v A1 a5 c1 ac lo c2) 155/\ag w h)
 case first=>
  by_cases h9:9<=k
  .have e2:IntKind.i64.wrap (k-9)=k-9:=Sq;have e3:IntKind.i64.wrap (k-9+3)=k-6:=Sq;go_wp2_with fail
   go_region_held3 (fun h=>ae h w.heap.size 0 (.int .i64 k)/\ae h w.heap.size 1 (.int .i64 v)/\ae h w.heap.size 2 (.slice A1 a5.length c1)/\ae h w.heap.size 3 (.slice ac lo.length c2))
    (exact cj)
    ((fail))
   go_wp2_with fail
   go_meet
   have JA:=cz.o;have Jy:=cA.o;have JB:=cB.o;rw[ay h9]at JA Jy JB;subst JA Jy JB;exact⟨ac,c2,A1,c1,rfl,rfl,rfl,ch.o _ a7.o.drew.drew,ce.o _ a7.o.drew.drew,ci.o,a7.o.drew.drew⟩
  .go_wp2_with fail
   go_meet
   have d1:¬9<=k:=Rr;have JA:=cz.o;have Jy:=cA.o;have JB:=cB.o;rw[av d1]at JA Jy JB;subst JA Jy JB;exact⟨A1,c1,ac,c2,rfl,rfl,rfl,ce.o _ a7.o.drew,ch.o _ a7.o.drew,ci.o,a7.o.drew⟩
 case rest=>
  obtain⟨em,es,eo,co,rfl,rfl,rfl,b4,b6,F,cI⟩:=hcut;obtain⟨dc,R,a8,a4⟩:=fU F cI (fun h (bc:ag wc h)=>b4.ext bc) (fun h (bc:ag wc h)=>b6.ext bc);clear cj H ab c3 c4 b4 b6 F cI ci a7 ce ch;by_cases bz:V=3
  .have I:=b9.o;rw[bz]at I;obtain⟨x,rfl⟩:∃x,ap=[x]:=lN.1 I.1;obtain⟨D,Y,rfl⟩:∃D Y,no=[D,Y]:=by
    match no,I.2 with
    |[a,b],_=>exact⟨a,b,rfl⟩
   subst bz;have bp:x<n:=b8.o x Rq;have O:D<n:=bu.o D Rq;have cb:Y<n:=bu.o Y Rq;have b5:=(a8.o wc (aj _ _)).here (k:=0) RK;have bb:=(a4.o wc (aj _ _)).here (k:=0) RK;obtain⟨bq,br,rfl,a3⟩:=b5;obtain⟨bg,bi,rfl,Z⟩:=bb;have ad:=a3 0 (x:Int) rfl;have U:=Z 0 (D:Int) rfl;have ca:=Z 1 (Y:Int) rfl;rw[iM]at ad U;have bv:=aF ad (aF U ca);have d7:IntKind.i64.wrap (p-1)=p-1:=Sq;obtain⟨ei,ej,ek,a9,db,ba,dl⟩:=zH7 bp O cb (a1.o [(D,1),(x,p-1)] (fun q F=>by simp at F;rcases F with rfl|rfl;exact O;exact bp)) (a1.o [(Y,1),(x,p-1)] (fun q F=>by simp at F;rcases F with rfl|rfl;exact cb;exact bp)) (fun J N h (a2:aW h J (gl D x) 3) (am:aW h N (qn (p-1)) 3)=>(show aw 112 (yV p n (some ⟨J,0,none⟩) (some ⟨N,0,none⟩)) h (fun e w'=>∃g,e=.returned (.slice (some ⟨g,0,none⟩) n n)/\ll h.heap.size n g (ku p n [(D,1),(x,p-1)]) w'/\ag h w') from a0.o [(D,1),(x,p-1)] (some ⟨J,0,none⟩) (some ⟨N,0,none⟩) 2 2 h (fun q F=>by simp at F;rcases F with rfl|rfl;exact⟨O,SN,SN⟩;exact⟨bp,SN,SN⟩) Rq (iP a2 rfl) (iP am rfl))) (fun J N h (a2:aW h J (gl Y x) 3) (am:aW h N (qn (p-1)) 3)=>(show aw 112 (yV p n (some ⟨J,0,none⟩) (some ⟨N,0,none⟩)) h (fun e w'=>∃g,e=.returned (.slice (some ⟨g,0,none⟩) n n)/\ll h.heap.size n g (ku p n [(Y,1),(x,p-1)]) w'/\ag h w') from a0.o [(Y,1),(x,p-1)] (some ⟨J,0,none⟩) (some ⟨N,0,none⟩) 2 2 h (fun q F=>by simp at F;rcases F with rfl|rfl;exact⟨cb,SN,SN⟩;exact⟨bp,SN,SN⟩) Rq (iP a2 rfl) (iP am rfl)));rw[show([x]:bO).length=1 from rfl,show([D,Y]:bO).length=2 from rfl];clear a3 Z I a8 a4 bp O cb a0 a1 ad U ca;go_wp2_with fail
   go_region_held3 (fun h=>ae h bq br (.int .i64 (x:Nat))/\ae h bg bi (.int .i64 (D:Nat))/\ae h bg (bi+1) (.int .i64 (Y:Nat)))
    (first|with_reducible exact kf (ak _ _) RO|with_reducible exact kf c7.o RO|with_reducible exact kf bo.o RO|exact bv|assumption)
    ((first|(go_at_call 112;(with_reducible refine gG (ba.o _ _ _ ?_ ?_) ?_);(focus (iterate 8 (first|done|with_reducible refine ow ?_|(with_reducible refine aC _ _ ?_;simp;done)|with_reducible refine ou ?_|with_reducible refine ao.o _ _ ?_)));(focus (iterate 8 (first|done|with_reducible refine ow ?_|(with_reducible refine aC _ _ ?_;simp;done)|with_reducible refine ou ?_|with_reducible refine ao.o _ _ ?_)));rintro e cc ⟨ck,rfl,T,G⟩;have bo:=zH G;have ao:=zH (fun(k:Nat) (x:Obj) b3=>ah (b:=k) (o:=x) b3 G);have Fh:=zH (xY (w:=wc) G Wh);have a6:=zH (zao (w:=wc) (lo:=w.heap.size) T G Wh R.o.size);clear T G)|(go_at_call 112;(with_reducible refine gG (dl.o _ _ _ ?_ ?_) ?_);(focus (iterate 8 (first|done|with_reducible refine ow ?_|(with_reducible refine aC _ _ ?_;simp;done)|with_reducible refine ou ?_|with_reducible refine ao.o _ _ ?_)));(focus (iterate 8 (first|done|with_reducible refine ow ?_|(with_reducible refine aC _ _ ?_;simp;done)|with_reducible refine ou ?_|with_reducible refine ao.o _ _ ?_)));rintro e e8 ⟨ev,rfl,T,G⟩;have c7:=zH G;have dr:=zH (xY (w:=wc) G Wh);have c5:=zH (zao (w:=wc) (lo:=w.heap.size) T G Wh R.o.size);have c6:=zH (a6.o.later (xY (w:=cc) G Wh) (af _));clear T G)))
   all_goals
    go_wp2_with fail
    go_ret
    exact zg_ a9.o db.o (R.o.trans (dr.o.mono R.o.size)) c6.o c5.o
  by_cases b0:V=5
  .have I:=b9.o;rw[b0]at I;obtain⟨D,rfl⟩:∃x,no=[x]:=lN.1 I.2;obtain⟨H,ab,rfl⟩:∃D Y,ap=[D,Y]:=by
    match ap,I.1 with
    |[a,b],_=>exact⟨a,b,rfl⟩
   subst b0;have O:D<n:=bu.o D Rq;have bd:H<n:=b8.o H Rq;have cq:ab<n:=b8.o ab Rq;have b5:=(a8.o wc (aj _ _)).here (k:=0) RK;have bb:=(a4.o wc (aj _ _)).here (k:=0) RK;obtain⟨bq,br,rfl,a3⟩:=b5;obtain⟨bg,bi,rfl,Z⟩:=bb;have U:=Z 0 (D:Int) rfl;have ad:=a3 0 (H:Int) rfl;have cF:=a3 1 (ab:Int) rfl;rw[iM]at ad U;have bv:=aF U (aF ad cF);have d7:IntKind.i64.wrap (p-1)=p-1:=Sq;obtain⟨a9,ba⟩:=bD (a1.o [(D,1),(H,p-1),(ab,p-1)] (fun q F=>by simp at F;rcases F with rfl|rfl|rfl;exact O;exact bd;exact cq)) (fun J N h (a2:aW h J #[.int .i64 (D:Nat),.int .i64 (H:Nat),.int .i64 (ab:Nat)] 3) (am:aW h N #[.int .i64 1,.int .i64 (p-1),.int .i64 (p-1)] 3)=>(show aw 112 #[p,(n:Nat),.slice (some ⟨J,0,none⟩) 3 3,.slice (some ⟨N,0,none⟩) 3 3] h (fun e w'=>∃g,e=.returned (.slice (some ⟨g,0,none⟩) n n)/\ll h.heap.size n g (ku p n [(D,1),(H,p-1),(ab,p-1)]) w'/\ag h w') from a0.o [(D,1),(H,p-1),(ab,p-1)] (some ⟨J,0,none⟩) (some ⟨N,0,none⟩) 3 3 h (fun q F=>by simp at F;rcases F with rfl|rfl|rfl;exact⟨O,SN,SN⟩;exact⟨bd,SN,SN⟩;exact⟨cq,SN,SN⟩) Rq (iP a2 rfl) (iP am rfl)));rw[show([H,ab]:bO).length=2 from rfl,show([D]:bO).length=1 from rfl];clear a3 Z I a8 a4 O bd cq a0 a1 ad cF U;go_wp2_with fail
   go_region_held3 (fun h=>ae h bg bi (.int .i64 (D:Nat))/\ae h bq br (.int .i64 (H:Nat))/\ae h bq (br+1) (.int .i64 (ab:Nat)))
    (first|with_reducible exact kf (ak _ _) RO|with_reducible exact kf bo.o RO|exact bv|assumption)
    ((first|(go_at_call 112;(with_reducible refine gG (ba.o _ _ _ ?_ ?_) ?_);(focus (iterate 8 (first|done|with_reducible refine ow ?_|(with_reducible refine aC _ _ ?_;simp;done)|with_reducible refine ou ?_|with_reducible refine ao.o _ _ ?_)));(focus (iterate 8 (first|done|with_reducible refine ow ?_|(with_reducible refine aC _ _ ?_;simp;done)|with_reducible refine ou ?_|with_reducible refine ao.o _ _ ?_)));rintro e cc ⟨ck,rfl,T,G⟩;have bo:=zH G;have Fh:=zH (xY (w:=wc) G Wh);have a6:=zH (zao (w:=wc) (lo:=w.heap.size) T G Wh R.o.size);clear T G)))
   all_goals
    go_wp2_with fail
    go_ret
    exact zbJ a9.o (R.o.trans (Fh.o.mono R.o.size)) a6.o
  by_cases b1:V=6
  .have I:=b9.o;rw[b1]at I;obtain⟨D,rfl⟩:∃x,no=[x]:=lN.1 I.2;subst b1;have O:D<n:=bu.o D Rq;have bb:=(a4.o wc (aj _ _)).here (k:=0) RK;obtain⟨bg,bi,rfl,Z⟩:=bb;have U:=Z 0 (D:Int) rfl;rw[iM]at U;obtain⟨a9,ba⟩:=bD (a1.o [(D,1)] (fun q F=>by simp at F;rcases F with rfl;exact O)) (fun J N h (a2:aW h J (eE D) 3) (am:aW h N #[.int .i64 1] 3)=>(show aw 112 #[p,(n:Nat),.slice (some ⟨J,0,none⟩) 1 1,.slice (some ⟨N,0,none⟩) 1 1] h (fun e w'=>∃g,e=.returned (.slice (some ⟨g,0,none⟩) n n)/\ll h.heap.size n g (ku p n [(D,1)]) w'/\ag h w') from a0.o [(D,1)] (some ⟨J,0,none⟩) (some ⟨N,0,none⟩) 1 1 h (fun q F=>by simp at F;rcases F with rfl;exact⟨O,SN,SN⟩) Rq (iP a2 rfl) (iP am rfl)));rw[show([D]:bO).length=1 from rfl];clear Z I a8 a4 O a0 a1;go_wp2_with (go_at_call 112;(with_reducible refine gG (ba.o _ _ _ ?_ ?_) ?_);(focus (iterate 8 (first|done|with_reducible refine ow ?_|(with_reducible refine aC _ _ ?_;simp;done)|with_reducible refine ou ?_|with_reducible refine ao.o _ _ ?_)));(focus (iterate 8 (first|done|with_reducible refine ow ?_|(with_reducible refine aC _ _ ?_;simp;done)|with_reducible refine ou ?_|with_reducible refine ao.o _ _ ?_)));rintro e cc ⟨ck,rfl,T,G⟩;have bo:=zH G;have Fh:=zH (xY (w:=wc) G Wh);have a6:=zH (zao (w:=wc) (lo:=w.heap.size) T G Wh R.o.size);clear T G)
   go_ret
   exact zbJ a9.o (R.o.trans (Fh.o.mono R.o.size)) a6.o
  by_cases b2:V=7
  .have I:=b9.o;rw[b2]at I;obtain⟨D,rfl⟩:∃x,no=[x]:=lN.1 I.2;obtain⟨H,rfl⟩:∃x,ap=[x]:=lN.1 I.1;subst b2;have O:D<n:=bu.o D Rq;have bd:H<n:=b8.o H Rq;have b5:=(a8.o wc (aj _ _)).here (k:=0) RK;have bb:=(a4.o wc (aj _ _)).here (k:=0) RK;obtain⟨bq,br,rfl,a3⟩:=b5;obtain⟨bg,bi,rfl,Z⟩:=bb;have U:=Z 0 (D:Int) rfl;have ad:=a3 0 (H:Int) rfl;rw[iM]at ad U;obtain⟨-,v1,-,-⟩:=aA dc.o;have bv:=aF U (aF ad v1);have cu:=zH (fun h=>zc0 p v h cp cO d6 d5);obtain⟨u,b7⟩:=aM ((p-v)%p);have e0:0<=u:=by rw[b7];exact gU _ Rr
   have e1:u<p:=by rw[b7];exact gV _ Rr
   rw[<-b7]at cu;obtain⟨dq,a9,ba⟩:=dO b7 (a1.o [(D,1),(H,u)] (fun q F=>by simp at F;rcases F with rfl|rfl;exact O;exact bd)) (fun J N h (a2:aW h J (gl D H) 3) (am:aW h N (qn u) 3)=>(show aw 112 (yV p n (some ⟨J,0,none⟩) (some ⟨N,0,none⟩)) h (fun e w'=>∃g,e=.returned (.slice (some ⟨g,0,none⟩) n n)/\ll h.heap.size n g (ku p n [(D,1),(H,u)]) w'/\ag h w') from a0.o [(D,1),(H,u)] (some ⟨J,0,none⟩) (some ⟨N,0,none⟩) 2 2 h (fun q F=>by simp at F;rcases F with rfl|rfl;exact⟨O,SN,SN⟩;exact⟨bd,SN,SN⟩) Rq (iP a2 rfl) (iP am rfl)));rw[show([H]:bO).length=1 from rfl,show([D]:bO).length=1 from rfl];clear a3 Z I a8 a4 O bd a0 a1 ad U v1 b7;go_wp2_with fail
   go_region_held3 (fun h=>ae h bg bi (.int .i64 (D:Nat))/\ae h bq br (.int .i64 (H:Nat))/\ae h w.heap.size 1 (.int .i64 v))
    (first|with_reducible exact kf (ak _ _) RO|with_reducible exact kf bo.o RO|exact bv|assumption)
    ((first|(go_at_call 112;(with_reducible refine gG (ba.o _ _ _ ?_ ?_) ?_);(focus (iterate 8 (first|done|with_reducible refine ow ?_|(with_reducible refine aC _ _ ?_;simp;done)|with_reducible refine ou ?_|with_reducible refine ao.o _ _ ?_)));(focus (iterate 8 (first|done|with_reducible refine ow ?_|(with_reducible refine aC _ _ ?_;simp;done)|with_reducible refine ou ?_|with_reducible refine ao.o _ _ ?_)));rintro e cc ⟨ck,rfl,T,G⟩;have bo:=zH G;have Fh:=zH (xY (w:=wc) G Wh);have a6:=zH (zao (w:=wc) (lo:=w.heap.size) T G Wh R.o.size);clear T G)|(go_at_call 156;(with_reducible refine(cu.o _).mono ?_);rintro e w' ⟨rfl,rfl⟩)))
   all_goals
    go_wp2_with fail
    go_ret
    have c0:=zbJ a9.o (R.o.trans (Fh.o.mono R.o.size)) a6.o;rw[dq.o]at c0;exact c0
  have e4:(V==3)=false:=by simpa using bz
  have e5:(V==5)=false:=by simpa using b0
  have e6:(V==6)=false:=by simpa using b1
  have e7:(V==7)=false:=by simpa using b2
  have c8:=zH (by unfold AZ;rw[av bz,av b0,av b1,av b2]:AZ p V v ap no=[]);clear bz b0 b1 b2;go_wp2;go_ret
  rw[c8.o];exact⟨none,0,rfl,Fr.all fun _=>au rfl,R.o⟩
def zR(m:Nat)(r:aH):List Int:=List.replicate m 0++r
def eR(p:Int)(g:Gr)(e:Ed):List (List Int):=((e.eqns p).map (ku p g.w)).map (zR g.fq)
def sR(p:Int)(g:Gr)(m:Nat):List (List Int):=g.ends p++(g.es.take m).flatMap (eR p g)
theorem zcH(p:Int)(g:Gr):sR p g 0=g.ends p:=by simp[sR]
theorem zcI{m:Nat}(h:g.es[m]?=some e):sR p g (m+1)=sR p g m++eR p g e:=by unfold sR;rw[gY h,D9,fj];simp
theorem zfp(p:Int)(g:Gr):sR p g g.es.length=g.lF p:=by
 unfold sR Gr.lF Gr.rows Gr.eqs;rw[k_];congr 1
 rw[oP,List.map_flatMap];congr 1
 funext e
 unfold eR;rw[oP];rfl
theorem zfq(m:Nat):(sR p g m).length<=g.fq+2*g.es.length:=by
 unfold sR;rw[bx];have h:(g.ends p).length=g.fq:=by unfold Gr.ends;simp
 have D:=AN (f:=eR p g) (fun e=>by unfold eR Ed.eqns;rw[bh,bh];split<;>exact vA ..) (g.es.take m);have F:(g.es.take m).length<=g.es.length:=Sr;omega
def zd0(S:Sy)(w:aa)(e:Ending)(w':aa):Prop:=∃A c,e=.returned (.agg (cU S A c))/\Fr w' w.heap.size w'.heap.size (fun h=>bk h A S.rows)/\ag w w'
theorem qL{E:Prop}(J:o.guard=none)(s x:jk)(N:o.op=.call {callee:=.builtin .append,args:=#[s,x],argTypes:=#[55,55]})(B:Nat)(h W:aa)(v u:ax)(rows:aN)(r:aH)(EF:aU h B v rows)(D:ag h W)(hu:aD W h.heap.size u r)(ac:rows.length+1<=1073741824)(H:B<=h.heap.size)(T:a.eval s=v)(U:a.eval x=.slice (some ⟨W.heap.size,0,none⟩) 1 1)(G:∀g cap w',aU w' B (.slice (some ⟨g,0,none⟩) (rows.length+1) cap) (rows++[r])->Below B h w'->W.heap.size<=w'.heap.size->(∀k,k<W.heap.size->some k≠v.ownBlock->w'.heap[k]?=W.heap[k]?)->(v.ownBlock=some g∨W.heap.size<=g)->K (a.put o.dst (.slice (some ⟨g,0,none⟩) (rows.length+1) cap)) w'):if Region.wanted o (yielded ops a.tmps)=true then Oper.wp prog o a (W.alloc (.cells #[u] 26)) K Q else E:=by
 obtain⟨ab,hi,V,Y,Z⟩:=de jV;obtain⟨us,EF⟩:=EF;have hW:=EF.ext D;have O:=km hW.outer (.cells #[u] 26);have ad:=D.size;refine zc _ J s x 55 N B 26 ab (.slice none 0 0) 1 24 gF hi V Y Z rfl Rs v _ _ T O ⟨W.heap.size,0,none⟩ 1 1 [u] U rfl ?_ ?_ Rs ?_ ?_ ?_ _ rfl ?_
 .exact Yb
 .exact Xr
 .unfold maxLen;omega
 .omega
 .simp;omega
 .intro g cap w' R Fy I _;have hg:W.grownBy w' v.ownBlock:=⟨Fy.os,Fy.tape,Fy.output,Vi,fun k hk F=>(Fy.block k RS F).trans (sC W _ hk)⟩;refine G g cap w' ⟨us++[u],?_,?_,?_⟩ (D.mono H |>.trans ((aj _ _).grown hg Rr fun k hk=>(bL hW.outer k hk).1)) hg.size (fun k hk F=>hg.block k hk F) (I.imp id fun e=>by rw[e];simp)
  .simpa using R
  .exact Zt
  .exact ZK
structure Du(B Z:Nat)(V:aa)(fq gw:Nat)(C:aq)(m c:Nat)(rows:aN):Prop where
 box:aW V Z (iJ fq gw C m c) 57
 own:aU V B (.slice C m c) rows
 len:rows.length=m
 lz:Z<B
 le:B<=V.heap.size
theorem Du.ext{fq:Nat}{C:aq}{m:Nat}{rows:aN}(h:Du B H J fq Rn C m c rows)(D:ag J Rg):Du B H Rg fq Rn C m c rows:=⟨ah h.box D,h.own.ext D,h.len,h.lz,aR h.le D.size⟩
theorem Du.stored{fq:Nat}{C:aq}{m:Nat}{rows:aN}{r:aH}(h:Du B H J fq Rn C m c rows)(G:aU Rg B (.slice (some ⟨Q_,0,none⟩) (m+1) QO) (rows++[r]))(D:Below B J Rg):Du B H (Rg.setCell ⟨H,2,none⟩ (.slice (some ⟨Q_,0,none⟩) (m+1) QO)) fq Rn (some ⟨Q_,0,none⟩) (m+1) QO (rows++[r])/\aW Rg H (iJ fq Rn C m c) 57:=by have F:=(D.block H h.lz).trans h.box;have y:=bm Rg H 2 _ _ (.slice (some ⟨Q_,0,none⟩) (m+1) QO) F;simp only[zA]at y;exact⟨⟨y,G.setCell (a:=⟨H,2,none⟩) h.lz _,by rw[bx,h.len];rfl,h.lz,by have:=h.le;have:=D.size;simp;omega⟩,F⟩
end Go.Proofs.YtpieilkmmiopfaaGreatDoor
