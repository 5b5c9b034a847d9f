/- Parts of the walks. Conditions: as stated with each. -/
import Derived.Test.YtpieilkmmiopfaaGreatDoorPk33
namespace Go.Proofs.YtpieilkmmiopfaaGreatDoor
open Go.RowKit Tryz
set_option linter.all false
set_option maxHeartbeats 16000000
set_option maxRecDepth 100000
variable{B J hi k lo n:Nat}{V W w:aa}{rows:aP}
def q7{o x}(h:W.heap[k]?=some x):(W.alloc o).heap[k]?=some x:=ai h (aw W o)
def q8{x}(h:W.heap[k]?=some x):W.drew.heap[k]?=some x:=h
def zdg{E}{cs:cL}(J:bA W E cs.toArray 26)(D:lo<=E)(F:E<hi)(T:∀(k:Nat) (r:aL),rows[k]?=some r->∃g,cs[k]?=some (.slice (bH g) n n)/\r.length=n/\Fr W lo hi (fun V=>aO V (some ⟨g,0,none⟩) r)):Fr W lo hi (fun V=>bt V (some ⟨E,0,none⟩) rows):=fun V h=>by refine au ⟨E,0,rfl,fun k r O=>?_⟩;obtain⟨g,G,H,I⟩:=T k r O;refine⟨_,n,?_,I V h⟩;rw[jU,bB ((h E D F).t J) k,H];simpa using G
def zlz{g}{l}(h:nC B n g l w)(D:B<=(w:Nat)):Fr w B w (fun V=>aO V (some ⟨g,0,none⟩) l):=h.a.fr D
def zhg(rows:aP)(w:aa)(e:Ending)(w':aa):Prop:=∃A c,e=.returned (.slice A rows c)/\Fr w' w w' (fun V=>bt V A rows)/\ag w w'
def oX{o}(h:ag w V):Below w w (V.alloc o):=h.alloc h.size o
def oY(h:ag w V):Below w w V.drew:=h.drew
def BX{h}(F:ag V h)(D:ag w V):ag w h:=aT D F
def zdh{h}{g}{l}(G:nC V n g l h)(H:ag V h)(F:ag w V)(I:lo<=(w:Nat)):Fr h lo h (fun D=>aO D (some ⟨g,0,none⟩) l):=(zlz G H.size).to (aZ I F.size) (ae _)
def zeW{h}{G}(I:G.length=n)(F:ag w h)(f1:Fr h w h (fun H=>aO H (some ⟨J,0,none⟩) G)):zhg [G] w (.returned (.slice (bH h) 1 1)) (h.alloc (.cells (bZ (bH J) n n) 26)):=by
 refine⟨_,1,rfl,zdg (n:=n) (cs:=[.slice (bH J) n n]) (aH h _ rfl) F.size Qt fun k r D=>?_,F.alloc F.size _⟩
 match k,D with
 |0,D=>cases D;exact⟨J,rfl,I,f1.later (aw _ _) (ae _)⟩
 |k+1,D=>simp at D
def zlA{h}{F}{I O}(T:I.length=n)(U:O.length=n)(H:ag w h)(f1:Fr h w h (fun G=>aO G (some ⟨J,0,none⟩) I))(f2:Fr h w h (fun G=>aO G (some ⟨F,0,none⟩) O)):zhg [I,O] w (.returned (.slice (bH h) 2 2)) (h.alloc (.cells (nj (bH J) n n (bH F) n n) 26)):=by
 refine⟨_,2,rfl,zdg (n:=n) (cs:=[.slice (bH J) n n,.slice (bH F) n n]) (aH h _ rfl) H.size Qt fun k r D=>?_,H.alloc H.size _⟩
 match k,D with
 |0,D=>cases D;exact⟨J,rfl,T,f1.later (aw _ _) (ae _)⟩
 |1,D=>cases D;exact⟨F,rfl,U,f2.later (aw _ _) (ae _)⟩
 |k+2,D=>simp at D
def yi p n(e:Ed)A1 A2 c1 c2 w(b0:2<=p)(cb:p<=97)(cB:n<=4096)(hI:aO w A1 (bD e.i))(hO:aO w A2 (bD e.o))(hf:e.jd=true)(hi:∀x∈e.i,x<n)(cF:∀x∈e.o,x<n)(cK:0<=e.v)(cI:e.v<p):az 113 #[p,(n:Nat),.agg (zj e A1 c1 A2 c2)] w (zhg ((e.G p).map (iE p n)) w):=by
 obtain⟨k,v,li,lo⟩:=e;refine Nz fun hB hq HI HO h3 Nf Ns I2=>?_
 have am:=zH (fun(L:iH) A A2 c c2 V (bi:∀q∈L,q.1<n/\0<=q.2/\q.2<=p) (ab:L.length<=4096) (h3:aO V A (bD (L.map (·.1)))) (cz:aO V A2 (L.map (·.2)))=>zaP p n L A A2 c c2 V b0 cb cB ab h3 cz bi);have an:=zH (fun(L:iH) (bi:∀q∈L,q.1<n)=>(sD (p:=p) (n:=n) (L:=L) b0 bi).1);have⟨T,Ni⟩:=aR (if 9<=k then k-6 else k);have⟨ah,Nr⟩:=aR (if 9<=k then lo else li);have⟨no,Jv⟩:=aR (if 9<=k then li else lo);have ck:=zH (show(Ed.mk k v li lo).G p=BK p T v ah no by unfold Ed.G;rw[Ni,Nr,Jv];split<;>rfl)
 have F:ah.length=xz T/\no.length=mf T:=Y_;rw[ck.o];clear hf hI hO Ns I2;obtain⟨br,bq,bb,b6,b7,b8⟩:=ny F (show ∀x∈ah,x<n by rw[Nr];split<;>assumption) (show ∀x∈no,x<n by rw[Jv];split<;>assumption) Ni Nr Jv;clear hi cF F Ni Nr Jv;go_enter func113,ntmps113
 go_upto_region 1 with(fail)
 generalize w.alloc _=W at hB hq ⊢;refine NQ fun x0 x1 x2 x3 HB HQ=>?_
 have S0:=aQ x0 (aQ x1 (aQ x2 x3));clear hB hq;refine Nh ?_;go_upto_if 17 with(fail)
 go_cut [7,8,9] from 10 (fun cR cV cW V=>∃b3 bu b4 cu,cR=.slice b3 ah bu/\cV=.slice b4 no cu/\cW=.int .i64 T/\aO V b3 (bD ah)/\aO V b4 (bD no)/\bA V w (eh k v A1 li c1 A2 lo c2) 155/\ag w V)
 case first=>
  by_cases h9:9<=k
  .have c8:IntKind.i64.wrap (k-9)=k-9:=Rt;have c9:IntKind.i64.wrap (k-9+3)=k-6:=Rt;go_wp2_with fail
   refine Nh ?_;go_wp2_with fail
   go_meet
   have Ni:=b6.o;have Nr:=b7.o;have Jv:=b8.o;rw[ak h9]at Ni Nr Jv;subst Ni Nr Jv;exact⟨A2,c2,A1,c1,rfl,rfl,rfl,HO.o _ HB.drew.drew,HI.o _ HB.drew.drew,HQ,HB.drew.drew⟩
  .go_wp2_with fail
   go_meet
   have cA:¬9<=k:=Qu;have Ni:=b6.o;have Nr:=b7.o;have Jv:=b8.o;rw[aj cA]at Ni Nr Jv;subst Ni Nr Jv;exact⟨A1,c1,A2,c2,rfl,rfl,rfl,HI.o _ HB.drew,HO.o _ HB.drew,HQ,HB.drew⟩
 case rest=>
  obtain⟨c0,c4,c3,co,rfl,rfl,rfl,hI,hO,hq,ca⟩:=hcut;have⟨cp,ac,a1,av⟩:=gG hq ca (fun V (hV:ag wc V)=>hI.ext hV) (fun V (hV:ag wc V)=>hO.ext hV);clear S0 x0 x1 x2 x3 hI hO hq ca HQ HB HI HO;by_cases bd:T=3
  .have F:=br.o;rw[bd]at F;obtain⟨x,rfl⟩:∃x,ah=[x]:=oH.1 F.1;obtain⟨h,U,rfl⟩:∃h U,no=[h,U]:=by
    match no,F.2 with
    |[a,b],_=>exact⟨a,b,rfl⟩
   subst bd;have bp:x<n:=bq x Qt;have I:h<n:=bb h Qt;have b2:U<n:=bb U Qt;have bn:=(a1 wc (al _ _)).θ (k:=0) QM;have a4:=(av wc (al _ _)).θ (k:=0) QM;obtain⟨a9,ba,rfl,ap⟩:=bn;obtain⟨a6,a7,rfl,Y⟩:=a4;have Z:=ap 0 (x:Int) rfl;have O:=Y 0 (h:Int) rfl;have bu:=Y 1 (U:Int) rfl;rw[jf]at Z O;have bc:=aQ Z (aQ O bu);have cO:IntKind.i64.wrap (p-1)=p-1:=Rt;obtain⟨a2,cn,a3,cq⟩:=gG (an [(h,1),(x,p-1)] (fun q hq=>by simp at hq;rcases hq with rfl|rfl;exact I;exact bp)) (an [(U,1),(x,p-1)] (fun q hq=>by simp at hq;rcases hq with rfl|rfl;exact b2;exact bp)) (fun G H V (ao:bA V G (iL h x) 3) (ab:bA V H (uq (p-1)) 3)=>(show az 112 (CV p n (bH G) (bH H)) V (fun e w'=>∃g,e=.returned (.slice (bH g) n n)/\nC V n g (iE p n [(h,1),(x,p-1)]) w'/\ag V w') from am [(h,1),(x,p-1)] (some ⟨G,0,none⟩) (some ⟨H,0,none⟩) 2 2 V (fun q hq=>by simp at hq;rcases hq with rfl|rfl;exact⟨I,RY,RY⟩;exact⟨bp,RY,RY⟩) Qt (ki ao rfl) (ki ab rfl))) (fun G H V (ao:bA V G (iL U x) 3) (ab:bA V H (uq (p-1)) 3)=>(show az 112 (CV p n (bH G) (bH H)) V (fun e w'=>∃g,e=.returned (.slice (bH g) n n)/\nC V n g (iE p n [(U,1),(x,p-1)]) w'/\ag V w') from am [(U,1),(x,p-1)] (some ⟨G,0,none⟩) (some ⟨H,0,none⟩) 2 2 V (fun q hq=>by simp at hq;rcases hq with rfl|rfl;exact⟨b2,RY,RY⟩;exact⟨bp,RY,RY⟩) Qt (ki ao rfl) (ki ab rfl)));rw[show([x]:bP).length=1 from rfl,show([h,U]:bP).length=2 from rfl];clear ap Y F a1 av bp I b2 am an Z O bu;go_wp2_with fail
   go_region_held3 (fun V=>af V a9 ba (zI (x:Nat))/\af V a6 a7 (zI (h:Nat))/\af V a6 (a7+1) (zI (U:Nat)))
    (first|with_reducible exact jH (aw _ _) QR|with_reducible exact jH ci.o QR|with_reducible exact jH a8.o QR|exact bc|assumption)
    ((first|(go_at_call 112;(with_reducible refine iB (a3.o _ _ _ ?_ ?_) ?_);(focus (iterate 8 (first|done|with_reducible refine q8 ?_|(with_reducible refine aH _ _ ?_;simp;done)|with_reducible refine q7 ?_|with_reducible refine ad.o _ _ ?_)));(focus (iterate 8 (first|done|with_reducible refine q8 ?_|(with_reducible refine aH _ _ ?_;simp;done)|with_reducible refine q7 ?_|with_reducible refine ad.o _ _ ?_)));rintro e bv ⟨bz,rfl,J,D⟩;have a8:=zH D;have ad:=zH (fun(k:Nat) (x:Obj) bi=>ai (b:=k) (o:=x) bi D);have GY:=zH (BX (w:=wc) D VW);have a0:=zH (zdh (w:=wc) (lo:=w.heap.size) J D VW ac.size);clear J D)|(go_at_call 112;(with_reducible refine iB (cq.o _ _ _ ?_ ?_) ?_);(focus (iterate 8 (first|done|with_reducible refine q8 ?_|(with_reducible refine aH _ _ ?_;simp;done)|with_reducible refine q7 ?_|with_reducible refine ad.o _ _ ?_)));(focus (iterate 8 (first|done|with_reducible refine q8 ?_|(with_reducible refine aH _ _ ?_;simp;done)|with_reducible refine q7 ?_|with_reducible refine ad.o _ _ ?_)));rintro e dr ⟨c5,rfl,J,D⟩;have ci:=zH D;have ct:=zH (BX (w:=wc) D VW);have ce:=zH (zdh (w:=wc) (lo:=w.heap.size) J D VW ac.size);have ch:=zH (a0.later (BX (w:=bv) D VW) (ae _));clear J D)))
   all_goals
    go_wp2_with fail
    go_ret
    exact zlA a2 cn (aT ac ct) ch ce
  by_cases be:T=5
  .have F:=br.o;rw[be]at F;obtain⟨h,rfl⟩:∃x,no=[x]:=oH.1 F.2;obtain⟨x0,x1,rfl⟩:∃h U,ah=[h,U]:=by
    match ah,F.1 with
    |[a,b],_=>exact⟨a,b,rfl⟩
   subst be;have I:h<n:=bb h Qt;have a5:x0<n:=bq x0 Qt;have b1:x1<n:=bq x1 Qt;have bn:=(a1 wc (al _ _)).θ (k:=0) QM;have a4:=(av wc (al _ _)).θ (k:=0) QM;obtain⟨a9,ba,rfl,ap⟩:=bn;obtain⟨a6,a7,rfl,Y⟩:=a4;have O:=Y 0 (h:Int) rfl;have Z:=ap 0 (x0:Int) rfl;have b9:=ap 1 (x1:Int) rfl;rw[jf]at Z O;have bc:=aQ O (aQ Z b9);have cO:IntKind.i64.wrap (p-1)=p-1:=Rt;obtain⟨a2,a3⟩:=bJ (an [(h,1),(x0,p-1),(x1,p-1)] (fun q hq=>by simp at hq;rcases hq with rfl|rfl|rfl;exact I;exact a5;exact b1)) (fun G H V (ao:bA V G #[.int .i64 (h:Nat),.int .i64 (x0:Nat),.int .i64 (x1:Nat)] 3) (ab:bA V H #[.int .i64 1,.int .i64 (p-1),.int .i64 (p-1)] 3)=>(show az 112 #[p,(n:Nat),.slice (bH G) 3 3,.slice (bH H) 3 3] V (fun e w'=>∃g,e=.returned (.slice (bH g) n n)/\nC V n g (iE p n [(h,1),(x0,p-1),(x1,p-1)]) w'/\ag V w') from am [(h,1),(x0,p-1),(x1,p-1)] (some ⟨G,0,none⟩) (some ⟨H,0,none⟩) 3 3 V (fun q hq=>by simp at hq;rcases hq with rfl|rfl|rfl;exact⟨I,RY,RY⟩;exact⟨a5,RY,RY⟩;exact⟨b1,RY,RY⟩) Qt (ki ao rfl) (ki ab rfl)));rw[show([x0,x1]:bP).length=2 from rfl,show([h]:bP).length=1 from rfl];clear ap Y F a1 av I a5 b1 am an Z b9 O;go_wp2_with fail
   go_region_held3 (fun V=>af V a6 a7 (zI (h:Nat))/\af V a9 ba (zI (x0:Nat))/\af V a9 (ba+1) (zI (x1:Nat)))
    (first|with_reducible exact jH (aw _ _) QR|with_reducible exact jH a8.o QR|exact bc|assumption)
    ((first|(go_at_call 112;(with_reducible refine iB (a3.o _ _ _ ?_ ?_) ?_);(focus (iterate 8 (first|done|with_reducible refine q8 ?_|(with_reducible refine aH _ _ ?_;simp;done)|with_reducible refine q7 ?_|with_reducible refine ad.o _ _ ?_)));(focus (iterate 8 (first|done|with_reducible refine q8 ?_|(with_reducible refine aH _ _ ?_;simp;done)|with_reducible refine q7 ?_|with_reducible refine ad.o _ _ ?_)));rintro e bv ⟨bz,rfl,J,D⟩;have a8:=zH D;have GY:=zH (BX (w:=wc) D VW);have a0:=zH (zdh (w:=wc) (lo:=w.heap.size) J D VW ac.size);clear J D)))
   all_goals
    go_wp2_with fail
    go_ret
    exact zeW a2 (aT ac GY) a0
  by_cases bg:T=6
  .have F:=br.o;rw[bg]at F;obtain⟨h,rfl⟩:∃x,no=[x]:=oH.1 F.2;subst bg;have I:h<n:=bb h Qt;have a4:=(av wc (al _ _)).θ (k:=0) QM;obtain⟨a6,a7,rfl,Y⟩:=a4;have O:=Y 0 (h:Int) rfl;rw[jf]at O;obtain⟨a2,a3⟩:=bJ (an [(h,1)] (fun q hq=>by simp at hq;rcases hq with rfl;exact I)) (fun G H V (ao:bA V G (fm h) 3) (ab:bA V H #[.int .i64 1] 3)=>(show az 112 #[p,(n:Nat),.slice (bH G) 1 1,.slice (bH H) 1 1] V (fun e w'=>∃g,e=.returned (.slice (bH g) n n)/\nC V n g (iE p n [(h,1)]) w'/\ag V w') from am [(h,1)] (some ⟨G,0,none⟩) (some ⟨H,0,none⟩) 1 1 V (fun q hq=>by simp at hq;rcases hq with rfl;exact⟨I,RY,RY⟩) Qt (ki ao rfl) (ki ab rfl)));rw[show([h]:bP).length=1 from rfl];clear Y F a1 av I am an;go_wp2_with (go_at_call 112;(with_reducible refine iB (a3.o _ _ _ ?_ ?_) ?_);(focus (iterate 8 (first|done|with_reducible refine q8 ?_|(with_reducible refine aH _ _ ?_;simp;done)|with_reducible refine q7 ?_|with_reducible refine ad.o _ _ ?_)));(focus (iterate 8 (first|done|with_reducible refine q8 ?_|(with_reducible refine aH _ _ ?_;simp;done)|with_reducible refine q7 ?_|with_reducible refine ad.o _ _ ?_)));rintro e bv ⟨bz,rfl,J,D⟩;have a8:=zH D;have GY:=zH (BX (w:=wc) D VW);have a0:=zH (zdh (w:=wc) (lo:=w.heap.size) J D VW ac.size);clear J D)
   go_ret
   exact zeW a2 (aT ac GY) a0
  by_cases bh:T=7
  .have F:=br.o;rw[bh]at F;obtain⟨h,rfl⟩:∃x,no=[x]:=oH.1 F.2;obtain⟨x0,rfl⟩:∃x,ah=[x]:=oH.1 F.1;subst bh;have I:h<n:=bb h Qt;have a5:x0<n:=bq x0 Qt;have bn:=(a1 wc (al _ _)).θ (k:=0) QM;have a4:=(av wc (al _ _)).θ (k:=0) QM;obtain⟨a9,ba,rfl,ap⟩:=bn;obtain⟨a6,a7,rfl,Y⟩:=a4;have O:=Y 0 (h:Int) rfl;have Z:=ap 0 (x0:Int) rfl;rw[jf]at Z O;obtain⟨-,v1,-,-⟩:=aB cp;have bc:=aQ O (aQ Z v1);have b5:=zH (fun V=>zah p v V b0 cb cK cI);have⟨u,bo⟩:=aR ((p-v)%p);have c6:0<=u:=by rw[bo];exact gV _ Qu
   have c7:u<p:=by rw[bo];exact gW _ Qu
   rw[<-bo]at b5;obtain⟨cr,a2,a3⟩:=er bo (an [(h,1),(x0,u)] (fun q hq=>by simp at hq;rcases hq with rfl|rfl;exact I;exact a5)) (fun G H V (ao:bA V G (iL h x0) 3) (ab:bA V H (uq u) 3)=>(show az 112 (CV p n (bH G) (bH H)) V (fun e w'=>∃g,e=.returned (.slice (bH g) n n)/\nC V n g (iE p n [(h,1),(x0,u)]) w'/\ag V w') from am [(h,1),(x0,u)] (some ⟨G,0,none⟩) (some ⟨H,0,none⟩) 2 2 V (fun q hq=>by simp at hq;rcases hq with rfl|rfl;exact⟨I,RY,RY⟩;exact⟨a5,RY,RY⟩) Qt (ki ao rfl) (ki ab rfl)));rw[show([x0]:bP).length=1 from rfl,show([h]:bP).length=1 from rfl];clear ap Y F a1 av I a5 am an Z O v1 bo;go_wp2_with fail
   go_region_held3 (fun V=>af V a6 a7 (zI (h:Nat))/\af V a9 ba (zI (x0:Nat))/\af V w 1 (zI v))
    (first|with_reducible exact jH (aw _ _) QR|with_reducible exact jH a8.o QR|exact bc|assumption)
    ((first|(go_at_call 112;(with_reducible refine iB (a3.o _ _ _ ?_ ?_) ?_);(focus (iterate 8 (first|done|with_reducible refine q8 ?_|(with_reducible refine aH _ _ ?_;simp;done)|with_reducible refine q7 ?_|with_reducible refine ad.o _ _ ?_)));(focus (iterate 8 (first|done|with_reducible refine q8 ?_|(with_reducible refine aH _ _ ?_;simp;done)|with_reducible refine q7 ?_|with_reducible refine ad.o _ _ ?_)));rintro e bv ⟨bz,rfl,J,D⟩;have a8:=zH D;have GY:=zH (BX (w:=wc) D VW);have a0:=zH (zdh (w:=wc) (lo:=w.heap.size) J D VW ac.size);clear J D)|(go_at_call 156;(with_reducible refine(b5.o _).x ?_);rintro e w' ⟨rfl,rfl⟩)))
   all_goals
    go_wp2_with fail
    go_ret
    have cc:=zeW a2 (aT ac GY) a0;rw[cr.o]at cc;exact cc
  have db:(T==3)=false:=by simpa using bd
  have dc:(T==5)=false:=by simpa using be
  have dl:(T==6)=false:=by simpa using bg
  have dq:(T==7)=false:=by simpa using bh
  have cj:=zH (by unfold BK;rw[aj bd,aj be,aj bg,aj bh]:BK p T v ah no=[]);clear bd be bg bh;go_wp2;go_ret
  rw[cj.o];exact⟨none,0,rfl,Fr.all fun _=>ay rfl,ac⟩
end Go.Proofs.YtpieilkmmiopfaaGreatDoor
