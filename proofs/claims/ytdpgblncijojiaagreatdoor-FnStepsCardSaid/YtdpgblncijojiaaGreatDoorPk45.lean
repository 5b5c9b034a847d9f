/- Parts of the walks. Conditions: as stated with each. -/
import Derived.Test.YtdpgblncijojiaaGreatDoorPk43
namespace Go.Proofs.YtdpgblncijojiaaGreatDoor
open Go.RowKit Tryz
set_option linter.all false
set_option maxHeartbeats 16000000
set_option maxRecDepth 100000
variable{B D RP c hi k lo m n:Nat}{E RL V W w:aa}{J:iq}{Q:gU}{RC RM:aG}{a:Act}{g:Gr}{o:gI}{p:Int}
def nS{o x:Obj}(h:W.heap[k]?=some x):(W.alloc o).heap[k]?=some x:=ak h (aD W o)
def nT{x:Obj}(h:W.heap[k]?=some x):W.drew.heap[k]?=some x:=h
def C3{cs:bG}{rows:aE}(O:aU W D cs.toArray 27)(E:lo<=D)(F:D<hi)(R:∀(k:Nat) (r:aG),rows[k]?=some r->∃g,cs[k]?=some (.slice (aY g) n n)/\r.length=n/\Fr W lo hi (fun V=>aT V (some ⟨g,0,none⟩) r)):Fr W lo hi (fun V=>aX V (some ⟨D,0,none⟩) rows):=fun V z=>by refine aA ⟨D,0,rfl,fun k r Q=>?_⟩;obtain⟨g,H,I,J⟩:=R k r Q;refine⟨_,n,?_,J V z⟩;rw[iw,aW ((z D E F).trans O) k,I];simpa using H
def zhu{g:Nat}{l:aG}(h:lF B n g l w)(z:B<=(w:Nat)):Fr w B w (fun V=>aT V (some ⟨g,0,none⟩) l):=h.a.fr z
def zgk(rows:aE)(w:aa)(e:Ending)(w':aa):Prop:=∃A c,e=.returned (.slice A rows c)/\Fr w' w w' (fun V=>aX V A rows)/\ai w w'
def mh{o:Obj}(h:ai w V):Below w w (V.alloc o):=h.alloc h.size o
def mi(h:ai w V):Below w w V.drew:=h.drew
def wH(z:ai V E)(h:ai w V):ai w E:=cC h z
def C4{g:Nat}{l:aG}(D:lF V n g l E)(F:ai V E)(h:ai w V)(H:lo<=(w:Nat)):Fr E lo E (fun z=>aT z (some ⟨g,0,none⟩) l):=(zhu D F.size).to (bc H h.size) (ag _)
def zaz(I:RM.length=n)(F:ai w E)(f1:Fr E w E (fun H=>aT H (some ⟨D,0,none⟩) RM)):zgk [RM] w (.returned (.slice (aY E) 1 1)) (E.alloc (.cells (eG (aY D) n n) 27)):=by
 refine⟨_,1,rfl,C3 (n:=n) (cs:=[.slice (aY D) n n]) (az E _ rfl) F.size RS fun k r z=>?_,F.alloc F.size _⟩
 match k,z with
 |0,z=>cases z;exact⟨D,rfl,I,f1.later (aD _ _) (ag _)⟩
 |k+1,z=>simp at z
def zhv(I:RM.length=n)(J:RC.length=n)(H:ai w E)(f1:Fr E w E (fun F=>aT F (some ⟨D,0,none⟩) RM))(f2:Fr E w E (fun F=>aT F (some ⟨RP,0,none⟩) RC)):zgk [RM,RC] w (.returned (.slice (aY E) 2 2)) (E.alloc (.cells #[.slice (aY D) n n,.slice (aY RP) n n] 27)):=by
 refine⟨_,2,rfl,C3 (n:=n) (cs:=[.slice (aY D) n n,.slice (aY RP) n n]) (az E _ rfl) H.size RS fun k r z=>?_,H.alloc H.size _⟩
 match k,z with
 |0,z=>cases z;exact⟨D,rfl,I,f1.later (aD _ _) (ag _)⟩
 |1,z=>cases z;exact⟨RP,rfl,J,f2.later (aD _ _) (ag _)⟩
 |k+2,z=>simp at z
def zaA(p:Int)(n:Nat)(e:Ed)(A1 A2:an)(c1 c2:Nat)(w:aa)(cR:2<=p)(dl:p<=97)(eo:n<=4096)(ca:aT w A1 (bF e.i))(cc:aT w A2 (bF e.o))(bp:e.mE=true)(hi:∀x∈e.i,x<n)(es:∀x∈e.o,x<n)(eA:0<=e.v)(ev:e.v<p):aw 136 #[p,(n:Nat),.agg (Cr e A1 c1 A2 c2)] w (zgk ((e.eqns p).map (lG p n)) w):=by
 obtain⟨k,v,a9,lo⟩:=e;dsimp only at *;obtain⟨cF,D⟩:=dK w (.cells (ju k v A1 a9 c1 A2 lo c2) 166);obtain⟨cr,ct⟩:=bS (fun V (bo:ai w V)=>ca.ext bo) (fun V (bo:ai w V)=>cc.ext bo);have en:3<=k/\k<=14/\a9.length=nP k/\lo.length=qq k:=by unfold Ed.mE at bp;simp only[bC,cK]at bp;have b9:=bp.2.1;obtain⟨ei,ej⟩:=uk (v:=v) b9;exact⟨b9,by have:=zb5 bp.1;dsimp only at this;omega,by rw[<-ei];exact bp.2.2.1,by rw[<-ej];exact bp.2.2.2⟩
 obtain⟨b9,e8,cI,cO⟩:=en;have a3:=zH (fun(L:vj) A A2 c c2 V (h:∀q∈L,q.1<n/\0<=q.2/\q.2<=p) (ad:L.length<=4096) (b9:aT V A (bF (L.map (·.1)))) (ek:aT V A2 (L.map (·.2)))=>AO p n L A A2 c c2 V cR dl eo ad b9 ek h);have a4:=zH (fun(L:vj) (h:∀q∈L,q.1<n)=>(zt (p:=p) (n:=n) (L:=L) cR h).1);obtain⟨U,a1⟩:=aO (if 9<=k then k-6 else k);obtain⟨a2,am⟩:=aO (if 9<=k then lo else a9);obtain⟨no,ao⟩:=aO (if 9<=k then a9 else lo);have d6:=zH (show(Ed.mk k v a9 lo).eqns p=CG p U v a2 no by unfold Ed.eqns;rw[a1,am,ao];split <;>rfl)
 have H:a2.length=gIn U/\no.length=zaO U:=by
  rw[a1,am,ao];by_cases a8:9<=k
  .rw[ay a8,ay a8,ay a8,cO,cI];exact Xy
  .rw[al a8,al a8,al a8,cO,cI];exact Xy
 rw[d6.o];clear bp ca cc cI cO;obtain⟨cj,ci,b3,c8,c9,da⟩:=mA H (show ∀x∈a2,x<n by rw[am];split<;>assumption) (show ∀x∈no,x<n by rw[ao];split<;>assumption) a1 am ao;clear hi es H a1 am ao;go_enter func136,ntmps136
 go_upto_region 1 with(fail)
 generalize w.alloc _=W at cF D ⊢;obtain⟨F,ab,d0,d1⟩:=aK D;obtain⟨bb,cu⟩:=bS cF D;have cy:=bn F (bn ab (bn d0 d1));clear cF D;go_region_held3 (fun V=>ah V w 0 (zI k)/\ah V w 1 (zI v)/\ah V w 2 (.slice A1 a9 c1)/\ah V w 3 (.slice A2 lo c2))
  (exact cy)
  ((fail))
 go_upto_if 17 with(fail)
 go_cut [7,8,9] from 10 (fun e1 e2 e3 V=>∃c5 ck c6 eg,e1=.slice c5 a2 ck/\e2=.slice c6 no eg/\e3=.int .i64 U/\aT V c5 (bF a2)/\aT V c6 (bF no)/\aU V w (ju k v A1 a9 c1 A2 lo c2) 166/\ai w V)
 case first=>
  by_cases a8:9<=k
  .have fb:IntKind.i64.wrap (k-9)=k-9:=SQ;have fd:IntKind.i64.wrap (k-9+3)=k-6:=SQ;go_wp2_with fail
   go_region_held3 (fun V=>ah V w 0 (zI k)/\ah V w 1 (zI v)/\ah V w 2 (.slice A1 a9 c1)/\ah V w 3 (.slice A2 lo c2))
    (exact cy)
    ((fail))
   go_wp2_with fail
   go_meet
   have a1:=c8.o;have am:=c9.o;have ao:=da.o;rw[ay a8]at a1 am ao;subst a1 am ao;exact⟨A2,c2,A1,c1,rfl,rfl,rfl,ct.o _ bb.drew.drew,cr.o _ bb.drew.drew,cu,bb.drew.drew⟩
  .go_wp2_with fail
   go_meet
   have em:¬9<=k:=RU;have a1:=c8.o;have am:=c9.o;have ao:=da.o;rw[al em]at a1 am ao;subst a1 am ao;exact⟨A1,c1,A2,c2,rfl,rfl,rfl,cr.o _ bb.drew,ct.o _ bb.drew,cu,bb.drew⟩
 case rest=>
  obtain⟨e4,e6,e5,co,rfl,rfl,rfl,ca,cc,D,dc⟩:=hcut;obtain⟨d8,ap,bd,a7⟩:=fU D dc (fun V (bo:ai wc V)=>ca.ext bo) (fun V (bo:ai wc V)=>cc.ext bo);clear cy F ab d0 d1 ca cc D dc cu bb cr ct;by_cases b5:U=3
  .have H:=cj.o;rw[b5]at H;obtain⟨x,rfl⟩:∃x,a2=[x]:=vy.1 H.1;obtain⟨z,Y,rfl⟩:∃z Y,no=[z,Y]:=by
    match no,H.2 with
    |[a,b],_=>exact⟨a,b,rfl⟩
   subst b5;have ch:x<n:=ci x RS;have O:z<n:=b3 z RS;have c4:Y<n:=b3 Y RS;have cb:=(bd wc (aj _ _)).here (k:=0) Se;have bm:=(a7 wc (aj _ _)).here (k:=0) Se;obtain⟨b1,b2,rfl,a6⟩:=cb;obtain⟨bv,bz,rfl,Z⟩:=bm;have ac:=a6 0 (x:Int) rfl;have R:=Z 0 (z:Int) rfl;have ck:=Z 1 (Y:Int) rfl;rw[jz]at ac R;have b4:=bn ac (bn R ck);have e0:IntKind.i64.wrap (p-1)=p-1:=SQ;obtain⟨be,d7,bi,d9⟩:=fU (a4 [(z,1),(x,p-1)] (fun q D=>by simp at D;rcases D with rfl|rfl;exact O;exact ch)) (a4 [(Y,1),(x,p-1)] (fun q D=>by simp at D;rcases D with rfl|rfl;exact c4;exact ch)) (fun I J V (a5:aU V I (ox z x) 3) (ad:aU V J #[.int .i64 1,.int .i64 (p-1)] 3)=>(show aw 135 (xI p n (aY I) (aY J)) V (fun e w'=>∃g,e=.returned (.slice (aY g) n n)/\lF V n g (lG p n [(z,1),(x,p-1)]) w'/\ai V w') from a3 [(z,1),(x,p-1)] (some ⟨I,0,none⟩) (some ⟨J,0,none⟩) 2 2 V (fun q D=>by simp at D;rcases D with rfl|rfl;exact⟨O,Tg,Tg⟩;exact⟨ch,Tg,Tg⟩) RS (iX a5 rfl) (iX ad rfl))) (fun I J V (a5:aU V I (ox Y x) 3) (ad:aU V J #[.int .i64 1,.int .i64 (p-1)] 3)=>(show aw 135 (xI p n (aY I) (aY J)) V (fun e w'=>∃g,e=.returned (.slice (aY g) n n)/\lF V n g (lG p n [(Y,1),(x,p-1)]) w'/\ai V w') from a3 [(Y,1),(x,p-1)] (some ⟨I,0,none⟩) (some ⟨J,0,none⟩) 2 2 V (fun q D=>by simp at D;rcases D with rfl|rfl;exact⟨c4,Tg,Tg⟩;exact⟨ch,Tg,Tg⟩) RS (iX a5 rfl) (iX ad rfl)));rw[show([x]:bX).length=1 from rfl,show([z,Y]:bX).length=2 from rfl];clear a6 Z H bd a7 ch O c4 a3 a4 ac R ck;go_wp2_with fail
   go_region_held3 (fun V=>ah V b1 b2 (zI (x:Nat))/\ah V bv bz (zI (z:Nat))/\ah V bv (bz+1) (zI (Y:Nat)))
    (first|with_reducible exact qH (aD _ _) Sh|with_reducible exact qH d4.o Sh|with_reducible exact qH b0.o Sh|exact b4|assumption)
    ((first|(go_at_call 135;(with_reducible refine pS (bi.o _ _ _ ?_ ?_) ?_);(focus (iterate 8 (first|done|with_reducible refine nT ?_|(with_reducible refine az _ _ ?_;simp;done)|with_reducible refine nS ?_|with_reducible refine a0.o _ _ ?_)));(focus (iterate 8 (first|done|with_reducible refine nT ?_|(with_reducible refine az _ _ ?_;simp;done)|with_reducible refine nS ?_|with_reducible refine a0.o _ _ ?_)));rintro e cn ⟨cz,rfl,Q,E⟩;have b0:=zH E;have a0:=zH (fun(k:Nat) (x:Obj) h=>ak (b:=k) (o:=x) h E);have GG:=zH (wH (w:=wc) E WU);have ba:=zH (C4 (w:=wc) (lo:=w.heap.size) Q E WU ap.size);clear Q E)|(go_at_call 135;(with_reducible refine pS (d9.o _ _ _ ?_ ?_) ?_);(focus (iterate 8 (first|done|with_reducible refine nT ?_|(with_reducible refine az _ _ ?_;simp;done)|with_reducible refine nS ?_|with_reducible refine a0.o _ _ ?_)));(focus (iterate 8 (first|done|with_reducible refine nT ?_|(with_reducible refine az _ _ ?_;simp;done)|with_reducible refine nS ?_|with_reducible refine a0.o _ _ ?_)));rintro e fs ⟨e7,rfl,Q,E⟩;have d4:=zH E;have eb:=zH (wH (w:=wc) E WU);have d2:=zH (C4 (w:=wc) (lo:=w.heap.size) Q E WU ap.size);have d3:=zH (ba.later (wH (w:=cn) E WU) (ag _));clear Q E)))
   all_goals
    go_wp2_with fail
    go_ret
    exact zhv be d7 (cC ap eb) d3 d2
  by_cases b6:U=5
  .have H:=cj.o;rw[b6]at H;obtain⟨z,rfl⟩:∃x,no=[x]:=vy.1 H.2;obtain⟨F,ab,rfl⟩:∃z Y,a2=[z,Y]:=by
    match a2,H.1 with
    |[a,b],_=>exact⟨a,b,rfl⟩
   subst b6;have O:z<n:=b3 z RS;have br:F<n:=ci F RS;have c0:ab<n:=ci ab RS;have cb:=(bd wc (aj _ _)).here (k:=0) Se;have bm:=(a7 wc (aj _ _)).here (k:=0) Se;obtain⟨b1,b2,rfl,a6⟩:=cb;obtain⟨bv,bz,rfl,Z⟩:=bm;have R:=Z 0 (z:Int) rfl;have ac:=a6 0 (F:Int) rfl;have db:=a6 1 (ab:Int) rfl;rw[jz]at ac R;have b4:=bn R (bn ac db);have e0:IntKind.i64.wrap (p-1)=p-1:=SQ;obtain⟨be,bi⟩:=bS (a4 [(z,1),(F,p-1),(ab,p-1)] (fun q D=>by simp at D;rcases D with rfl|rfl|rfl;exact O;exact br;exact c0)) (fun I J V (a5:aU V I #[.int .i64 (z:Nat),.int .i64 (F:Nat),.int .i64 (ab:Nat)] 3) (ad:aU V J #[.int .i64 1,.int .i64 (p-1),.int .i64 (p-1)] 3)=>(show aw 135 #[p,(n:Nat),.slice (aY I) 3 3,.slice (aY J) 3 3] V (fun e w'=>∃g,e=.returned (.slice (aY g) n n)/\lF V n g (lG p n [(z,1),(F,p-1),(ab,p-1)]) w'/\ai V w') from a3 [(z,1),(F,p-1),(ab,p-1)] (some ⟨I,0,none⟩) (some ⟨J,0,none⟩) 3 3 V (fun q D=>by simp at D;rcases D with rfl|rfl|rfl;exact⟨O,Tg,Tg⟩;exact⟨br,Tg,Tg⟩;exact⟨c0,Tg,Tg⟩) RS (iX a5 rfl) (iX ad rfl)));rw[show([F,ab]:bX).length=2 from rfl,show([z]:bX).length=1 from rfl];clear a6 Z H bd a7 O br c0 a3 a4 ac db R;go_wp2_with fail
   go_region_held3 (fun V=>ah V bv bz (zI (z:Nat))/\ah V b1 b2 (zI (F:Nat))/\ah V b1 (b2+1) (zI (ab:Nat)))
    (first|with_reducible exact qH (aD _ _) Sh|with_reducible exact qH b0.o Sh|exact b4|assumption)
    ((first|(go_at_call 135;(with_reducible refine pS (bi.o _ _ _ ?_ ?_) ?_);(focus (iterate 8 (first|done|with_reducible refine nT ?_|(with_reducible refine az _ _ ?_;simp;done)|with_reducible refine nS ?_|with_reducible refine a0.o _ _ ?_)));(focus (iterate 8 (first|done|with_reducible refine nT ?_|(with_reducible refine az _ _ ?_;simp;done)|with_reducible refine nS ?_|with_reducible refine a0.o _ _ ?_)));rintro e cn ⟨cz,rfl,Q,E⟩;have b0:=zH E;have GG:=zH (wH (w:=wc) E WU);have ba:=zH (C4 (w:=wc) (lo:=w.heap.size) Q E WU ap.size);clear Q E)))
   all_goals
    go_wp2_with fail
    go_ret
    exact zaz be (cC ap GG) ba
  by_cases b7:U=6
  .have H:=cj.o;rw[b7]at H;obtain⟨z,rfl⟩:∃x,no=[x]:=vy.1 H.2;subst b7;have O:z<n:=b3 z RS;have bm:=(a7 wc (aj _ _)).here (k:=0) Se;obtain⟨bv,bz,rfl,Z⟩:=bm;have R:=Z 0 (z:Int) rfl;rw[jz]at R;obtain⟨be,bi⟩:=bS (a4 [(z,1)] (fun q D=>by simp at D;rcases D with rfl;exact O)) (fun I J V (a5:aU V I (cG z) 3) (ad:aU V J #[.int .i64 1] 3)=>(show aw 135 #[p,(n:Nat),.slice (aY I) 1 1,.slice (aY J) 1 1] V (fun e w'=>∃g,e=.returned (.slice (aY g) n n)/\lF V n g (lG p n [(z,1)]) w'/\ai V w') from a3 [(z,1)] (some ⟨I,0,none⟩) (some ⟨J,0,none⟩) 1 1 V (fun q D=>by simp at D;rcases D with rfl;exact⟨O,Tg,Tg⟩) RS (iX a5 rfl) (iX ad rfl)));rw[show([z]:bX).length=1 from rfl];clear Z H bd a7 O a3 a4;go_wp2_with (go_at_call 135;(with_reducible refine pS (bi.o _ _ _ ?_ ?_) ?_);(focus (iterate 8 (first|done|with_reducible refine nT ?_|(with_reducible refine az _ _ ?_;simp;done)|with_reducible refine nS ?_|with_reducible refine a0.o _ _ ?_)));(focus (iterate 8 (first|done|with_reducible refine nT ?_|(with_reducible refine az _ _ ?_;simp;done)|with_reducible refine nS ?_|with_reducible refine a0.o _ _ ?_)));rintro e cn ⟨cz,rfl,Q,E⟩;have b0:=zH E;have GG:=zH (wH (w:=wc) E WU);have ba:=zH (C4 (w:=wc) (lo:=w.heap.size) Q E WU ap.size);clear Q E)
   go_ret
   exact zaz be (cC ap GG) ba
  by_cases b8:U=7
  .have H:=cj.o;rw[b8]at H;obtain⟨z,rfl⟩:∃x,no=[x]:=vy.1 H.2;obtain⟨F,rfl⟩:∃x,a2=[x]:=vy.1 H.1;subst b8;have O:z<n:=b3 z RS;have br:F<n:=ci F RS;have cb:=(bd wc (aj _ _)).here (k:=0) Se;have bm:=(a7 wc (aj _ _)).here (k:=0) Se;obtain⟨b1,b2,rfl,a6⟩:=cb;obtain⟨bv,bz,rfl,Z⟩:=bm;have R:=Z 0 (z:Int) rfl;have ac:=a6 0 (F:Int) rfl;rw[jz]at ac R;obtain⟨-,v1,-,-⟩:=aK d8;have b4:=bn R (bn ac v1);have c7:=zH (fun V=>vT p v V cR dl eA ev);obtain⟨u,ce⟩:=aO ((p-v)%p);have e9:0<=u:=by rw[ce];exact ir _ RU
   have fa:u<p:=by rw[ce];exact iu _ RU
   rw[<-ce]at c7;obtain⟨ea,be,bi⟩:=d_ ce (a4 [(z,1),(F,u)] (fun q D=>by simp at D;rcases D with rfl|rfl;exact O;exact br)) (fun I J V (a5:aU V I (ox z F) 3) (ad:aU V J #[.int .i64 1,.int .i64 u] 3)=>(show aw 135 (xI p n (aY I) (aY J)) V (fun e w'=>∃g,e=.returned (.slice (aY g) n n)/\lF V n g (lG p n [(z,1),(F,u)]) w'/\ai V w') from a3 [(z,1),(F,u)] (some ⟨I,0,none⟩) (some ⟨J,0,none⟩) 2 2 V (fun q D=>by simp at D;rcases D with rfl|rfl;exact⟨O,Tg,Tg⟩;exact⟨br,Tg,Tg⟩) RS (iX a5 rfl) (iX ad rfl)));rw[show([F]:bX).length=1 from rfl,show([z]:bX).length=1 from rfl];clear a6 Z H bd a7 O br a3 a4 ac R v1 ce;go_wp2_with fail
   go_region_held3 (fun V=>ah V bv bz (zI (z:Nat))/\ah V b1 b2 (zI (F:Nat))/\ah V w 1 (zI v))
    (first|with_reducible exact qH (aD _ _) Sh|with_reducible exact qH b0.o Sh|exact b4|assumption)
    ((first|(go_at_call 135;(with_reducible refine pS (bi.o _ _ _ ?_ ?_) ?_);(focus (iterate 8 (first|done|with_reducible refine nT ?_|(with_reducible refine az _ _ ?_;simp;done)|with_reducible refine nS ?_|with_reducible refine a0.o _ _ ?_)));(focus (iterate 8 (first|done|with_reducible refine nT ?_|(with_reducible refine az _ _ ?_;simp;done)|with_reducible refine nS ?_|with_reducible refine a0.o _ _ ?_)));rintro e cn ⟨cz,rfl,Q,E⟩;have b0:=zH E;have GG:=zH (wH (w:=wc) E WU);have ba:=zH (C4 (w:=wc) (lo:=w.heap.size) Q E WU ap.size);clear Q E)|(go_at_call 119;(with_reducible refine(c7.o _).mono ?_);rintro e w' ⟨rfl,rfl⟩)))
   all_goals
    go_wp2_with fail
    go_ret
    have dT:=zaz be (cC ap GG) ba;rw[ea.o]at dT;exact dT
  have fi:(U==3)=false:=by simpa using b5
  have fl:(U==5)=false:=by simpa using b6
  have fn:(U==6)=false:=by simpa using b7
  have fo:(U==7)=false:=by simpa using b8
  have d5:=zH (by unfold CG;rw[al b5,al b6,al b7,al b8]:CG p U v a2 no=[]);clear b5 b6 b7 b8;go_wp2;go_ret
  rw[d5.o];exact⟨none,0,rfl,Fr.all fun _=>aF rfl,ap⟩
def zR(m:Nat)(r:aG):List Int:=List.replicate m 0++r
def eR(p:Int)(g:Gr)(e:Ed):List (List Int):=((e.eqns p).map (lG p g.w)).map (zR g.jM)
def sR(p:Int)(g:Gr)(m:Nat):List (List Int):=g.ends p++(g.es.take m).flatMap (eR p g)
def zgE(p:Int)(g:Gr):sR p g 0=g.ends p:=by simp[sR]
def zgF{e:Ed}(h:g.es[m]?=some e):sR p g (m+1)=sR p g m++eR p g e:=by unfold sR;rw[j1 h,List.flatMap_append,kI];simp
def zhT(p:Int)(g:Gr):sR p g g.es=g.mQ p:=by
 unfold sR Gr.mQ Gr.rows Gr.eqs;rw[qg];congr 1
 rw[ko,List.map_flatMap];congr 1
 funext e
 unfold eR;rw[ko];rfl
def zhU(m:Nat):(sR p g m).length<=g.jM+2*g.es:=by
 unfold sR;rw[bQ];have z:(g.ends p).length=g.jM:=by unfold Gr.ends;simp
 have D:=yS (f:=eR p g) (fun e=>by unfold eR Ed.eqns;rw[bt,bt];split<;>exact yR ..) (g.es.take m);have E:(g.es.take m).length<=g.es:=Sw;omega
def zjf(S:Sy)(w:aa)(e:Ending)(w':aa):Prop:=∃A c,e=.returned (.agg (ae S.v S.h A S.rows c))/\Fr w' w w' (fun V=>jX V A S.rows)/\ai w w'
def xk{K:mK}{F:Prop}(O:o.guard=none)(s x:js)(R:o.op=.call {callee:=.builtin .append,args:=#[s,x],argTypes:=#[24,24]})(B:Nat)(z W:aa)(v u:au)(rows:aE)(r:aG)(Eo:aJ z B v rows)(D:ai z W)(hu:ar W z u r)(ap:rows.length+1<=1073741824)(H:B<=(z:Nat))(Z:a.eval s=v)(ab:a.eval x=.slice (aY W) 1 1)(h:∀g cap w',aJ w' B (.slice (aY g) (rows.length+1) cap) (rows++[r])->Below B z w'->(W:Nat)<=w'.heap.size->(∀k,k < (W:Nat)->some k≠v.ownBlock->w'.heap[k]?=W.heap[k]?)->(v.ownBlock=some g∨(W:Nat)<=g)->K (a.put o.dst (.slice (aY g) (rows.length+1) cap)) w'):if Region.wanted o (yielded J a.tmps)=true then Oper.wp prog o a (W.alloc (.cells #[u] 27)) K Q else F:=by
 obtain⟨ao,hi,ac,ad,am⟩:=cU i_;obtain⟨us,Eo⟩:=Eo;have hW:=Eo.ext D;have U:=m5 hW.outer (.cells #[u] 27);have a0:=D.size;refine sm _ O s x 24 R B 27 ao (.slice none 0 0) 1 24 gx hi ac ad am rfl RX v _ _ Z U ⟨W,0,none⟩ 1 1 [u] ab rfl ?_ ?_ RX ?_ ?_ ?_ _ rfl ?_
 .exact Yt
 .exact XT
 .unfold maxLen;omega
 .omega
 .simp;omega
 .intro g cap w' Y EE I _;have hg:W.grownBy w' v.ownBlock:=⟨EE.os,EE.tape,EE.output,V_,fun k hk E=>(EE.block k Sk E).trans (pY W _ hk)⟩;refine h g cap w' ⟨us++[u],?_,?_,?_⟩ (D.mono H |>.trans ((aj _ _).grown hg RU fun k hk=>(bZ hW.outer k hk).1)) hg.size (fun k hk E=>hg.block k hk E) (I.imp id fun e=>by rw[e];simp)
  .simpa using Y
  .exact Zz
  .exact ZQ
structure SyB(B Z:Nat)(V:aa)(jM gw:Nat)(C:an)(m c:Nat)(rows:aE):Prop where
 box:aU V Z (xK jM gw C m c) 26
 own:aJ V B (.slice C m c) rows
 len:rows.length=m
 lz:Z<B
 le:B<=(V:Nat)
def SyB.ext{jM:Nat}{C:an}{rows:aE}(h:SyB B D V jM RP C m c rows)(z:ai V E):SyB B D E jM RP C m c rows:=⟨ak h.box z,h.own.ext z,h.len,h.lz,bc h.le z.size⟩
def SyB.stored{jM:Nat}{C:an}{F z:Nat}{rows:aE}{r:aG}(h:SyB B D E jM RP C m c rows)(J:aJ RL B (.slice (aY F) (m+1) z) (rows++[r]))(H:Below B E RL):SyB B D (RL.setCell ⟨D,2,none⟩ (.slice (aY F) (m+1) z)) jM RP (some ⟨F,0,none⟩) (m+1) z (rows++[r])/\aU RL D (xK jM RP C m c) 26:=by have I:=(H.block D h.lz).trans h.box;have y:=bs RL D 2 _ _ (.slice (aY F) (m+1) z) I;simp only[zA]at y;exact⟨⟨y,J.setCell (a:=⟨D,2,none⟩) h.lz _,by rw[bQ,h.len];rfl,h.lz,by have:=h.le;have:=H.size;simp;omega⟩,I⟩
def zgY(S:Sy)(w:aa)(e:Ending)(w':aa):Prop:=∃A c,e=.returned (.agg (ae S.v S.h A S.rows c))/\aJ w' ((w:Nat)+2) (.slice A S.rows c) S.rows/\ai w w'/\(w:Nat)+2<=w'
def zgY.to{S:Sy}{w:aa}{e:Ending}{w':aa}(h:zgY S w e w'):zjf S w e w':=by obtain⟨A,c,z,D,E,F⟩:=h;exact⟨A,c,z,(D.from.frC F).to RU (ag _),E⟩
def zdJ(p:Int)(g:Gr)(A1 A2 A3:an)(c1 c2 c3:Nat)(w:aa)(bd:2<=p)(e2:p<=97)(b9:nX w A1 A2 A3 g)(cb:g.okB=true)(e6:∀e∈g.es,0<=e.v/\e.v<p):aw 115 #[p,.agg (bI g A1 c1 A2 c2 A3 c3)] w (zgY (g.sys p) w):=by
 obtain⟨hd,gC,g9,hc,Es⟩:=cU fI;have ap:=Gr.gl.1 cb;have es:=Gr.lE cb;have gB:g.w<=100:=ap.1;have hC:g.es.length<=60:=ap.2.1;have hD:g.i.length<=12:=ap.2.2.1;have hE:g.o.length<=12:=ap.2.2.2.1;obtain⟨br,a0,c6,d5,c9⟩:=lv (fun V (ao:ai w V)=>b9.ext ao) es ap.2.2.2.2.1 e6 (fun V (ao:ai w V)=>(by have:=iH A2 c2 (bF g.i) V (b9.ext ao).i SF;rw[bj]at this;exact this:aw 80 #[.slice A2 g.i c2] V fun e w'=>∃u,e=.returned u/\ar w' V u (bF g.i)/\ai V w'));obtain⟨jM,bi⟩:=aO g.jM;have Y:=zH bi;have e7:(bF g.i++bF g.o).length=jM:=by rw[bQ,bj,bj,bi];rfl
 have d6:=zH e7;have hF:jM<=24:=by rw[bi];unfold Gr.jM;omega
 obtain⟨D,cc⟩:=aO g.w;have U:=zH cc;rw[<-cc]at gB ⊢;obtain⟨N,ea⟩:=aO (jM+D);have g4:IntKind.i64.wrap ((jM:Int)+(D:Int))=(N:Int):=SQ;have eb:N<=4096:=RU;have bv:=zH ea;have g6:IntKind.i64.wrap (p-1)=p-1:=SQ;have b7:=((aj w w).alloc (ag _) (.cells (fJ D A1 g.es c1 A2 g.i c2 A3 g.o c3) 151)).alloc RS (.cells aQ 26);have H:=(b_ (w.alloc (.cells (fJ D A1 g.es c1 A2 g.i c2 A3 g.o c3) 151)) (.cells aQ 26) (k:=w.heap.size) RS).trans (az w _ rfl);have F:=az (w.alloc (.cells (fJ D A1 g.es c1 A2 g.i c2 A3 g.o c3) 151)) (.cells aQ 26) (n:=(w:Nat)+1) RS;clear b9 cb e6 ap es bi e7 cc ea;go_enter func115,ntmps115
 go_upto_region 1 with(fail)
 generalize (w.alloc _).alloc _=W at b7 H F ⊢;obtain⟨ab,ac,Q,R⟩:=aK H;obtain⟨a4,bz,d0,ho⟩:=fU b7 H F (show(w:Nat)+1<W from(aM.1 F).1);have S0:=bn Q R;clear b7 H F ab ac Q R;go_region_held3 (fun V=>ah V w 2 (.slice A2 g.i c2)/\ah V w 3 (.slice A3 g.o c3))
  (first|with_reducible exact mC GG.o S0|with_reducible exact mC ad.o S0|exact S0)
  ((first|(go_at_call 80;(with_reducible refine(c9.o _ (a4.o.drew)).mono ?_);rintro e fb ⟨u1,rfl,e4,ei⟩;have GG:=zH ((aI W).trans ei);have d4:=zH e4;have db:=zH (br fb (cC a4 GG)).o;clear e4 ei)|(refine cX rfl (.tmp 15) (.tmp 17) rfl W fb u1 (bF g.i) (bF g.o) A3 g.o c3 (bj _).symm rfl rfl d4.o db.o SF GG.o.size ?_;intro hQ w2 e5 E;obtain⟨hk,hr,b1,eo,-,-⟩:=e5.view;subst b1;have ad:=zH (GG.trans (E.mono (ag _)));have c7:=zH eo;rw[d6.o];clear e5 E eo)))
 obtain⟨a5,d1,dl⟩:=d_ (cC a4 ad) (ak d0 ad) (ak bz ad);obtain⟨ab,ac,Q,R⟩:=aK (ak bz ad);have hm:=zH (br w2 a5);go_upto_region 3 with(fail)
 obtain⟨I,bo⟩:=dK w2 (.cells (vn jM D) 26);generalize w2.alloc _=w3 at I bo ⊢;obtain⟨GB,cO⟩:=bS (show(w2:Nat)<w3 from(aM.1 bo).1) I;obtain⟨H7,hn⟩:=bS (show SyB w3 w2 w3 jM D none 0 0 [] from⟨bo,⟨[],m_ _ _ _ _,fun k u r h=>Sf,fun i j u hP b h=>Sf⟩,rfl,GB,ag _⟩) (show(w:Nat)<=w2 from a5.size);clear I bo ab ac Q R S0 a4 bz d0 c9 ad d4 db GG;go_wp2;go_loopw [26] (fun i wr=>∃(k:Nat) (C1:an) (m1:Nat),k<=jM/\i=.int .i64 k/\SyB w3 w2 wr jM D C1 k m1 ((g.ends p).take k)/\ai w2 wr) (fun i _=>jM-(intOf i).toNat)
 case atStart=>exact⟨0,none,0,bf _,rfl,H7,cO⟩
 case round=>
  obtain⟨k,C1,m1,hz,rfl,z,E⟩:=hrel;clear H7;by_cases bb:k<jM
  .obtain⟨x,O⟩:=aB (show k < (g.i++g.o).length by have:=Y.o;rw[bQ];unfold Gr.jM at this;omega);obtain⟨hp,hq,rfl,a2⟩:=(c7.ext E).here (k:=k) (by rw[d6.o];exact bb);have hx:=a2 k (x:Int) (by rw[<-nx];exact fv O);have g8:x<D:=by
    rw[U.o];rcases fc.1 (a_ O)with h|h
    .exact a0 x (aF h)
    .exact a0 x (aA (aF h))
   have gm:=zH (by rw[bu,O];rfl:(g.i++g.o).getD k 0=x);have Hw:=zH (show(g.ends p).take (k+1)=(g.ends p).take k++[lG p N [(k,1),(jM+x,p-1)]] from by refine j1 ?_;unfold Gr.ends;rw[cp,lu (by rw[<-Y.o];exact bb),bv.o,Y.o,U.o,<-gm.o];rfl)
   obtain⟨y,e8⟩:=aO (jM+x);have hG:IntKind.i64.wrap ((jM:Int)+(x:Int))=(y:Int):=SQ;rw[<-e8]at Hw;have cr:y<N:=by have:=bv.o;omega
   have ci:k<N:=by have:=bv.o;omega
   obtain⟨b0,Fq⟩:=bS ((zt (p:=p) (n:=N) (L:=[(k,1),(y,p-1)]) bd (fun q H=>by simp at H;rcases H with rfl|rfl;exact ci;exact cr)).1) (fun b4 b5 V (b6:aU V b4 (ox k y) 3) (a8:aU V b5 #[.int .i64 1,.int .i64 (p-1)] 3)=>(show aw 135 (xI p N (aY b4) (aY b5)) V (fun e w'=>∃g,e=.returned (.slice (aY g) N N)/\lF V N g (lG p N [(k,1),(y,p-1)]) w'/\ai V w') from AO p N [(k,1),(y,p-1)] (some ⟨b4,0,none⟩) (some ⟨b5,0,none⟩) 2 2 V bd e2 eb RS (iX b6 rfl) (iX a8 rfl) (fun q H=>by simp at H;rcases H with rfl|rfl;exact⟨ci,Tg,Tg⟩;exact⟨cr,Tg,Tg⟩)));obtain⟨row,e3⟩:=aO (lG p N [(k,1),(y,p-1)]);rw[<-e3]at Hw b0 Fq;obtain⟨z0,z1,z2⟩:=aq z.box;have S0:=bn z0 (bn z1 z2);obtain⟨H7,E9⟩:=bS z E;clear a2 O g8 e8 cr ci e3 z E z0 z1 z2;go_upto_region 6 with(fail)
   refine bJ (S:=(fun V=>ah V w2 0 (zI (jM:Nat))/\ah V w2 1 (zI (D:Nat))/\ah V w2 2 (.slice C1 k m1))) 19 Si S0 (fun hHeld=>?_);refine aC 0 ?_;refine aC 1 ?_;refine aC 2 ?_;refine aC 3 ?_;refine aC 4 ?_;refine aC 5 ?_;refine aC 6 ?_;refine aC 7 ?_;refine aC 8 ?_;refine aC 9 ?_;refine aC 10 ?_;refine aC 11 ?_;refine aC 12 ?_;refine aC 14 ?_;refine aC 15 ?_;refine zbs (i:=13) (j:=16) Si rfl rfl (fun K hK=>?_) (fun K hK=>?_)
   .go_simp;refine hK.out _ _ (fun _=>qH WS S0) (fun hHeld=>?_);clear hK K hHeld;try simp only[Act.put,zA]
    refine bM 16 fun K hK=>?_
    exact Z8
   .go_simp;refine hK.out _ _ (fun _=>qH WS S0) (fun hHeld=>?_);clear hK K hHeld;try simp only[Act.put,zA]
    refine bM 13 fun K hK=>?_
    exact Z8
  .have gL:jM=k:=RU;subst gL;rw[show(g.ends p).take jM=sR p g 0 from by rw[zgE];exact gq (by unfold Gr.ends;simp;have:=Y.o;omega)]at z;obtain⟨ab,ac,Q,R⟩:=aK (ak dl E);obtain⟨d3,c0⟩:=bS z E;clear z E g4 g6 eb cO c7;go_wp2;go_loopw [56] (fun i wr=>∃(j m m1:Nat) (C1:an),j<=g.es.length/\i=.int .i64 j/\SyB w3 w2 wr jM D C1 m m1 (sR p g j)/\ai w2 wr) (fun i _=>g.es.length-(intOf i).toNat)
   case atStart=>exact⟨0,_,_,_,bf _,rfl,d3,c0⟩
   case round=>
    obtain⟨j,m,m1,C1,hy,rfl,z,E⟩:=hrel;clear d3 c0 ab ac Q R;by_cases bb:j<g.es.length
    .obtain⟨e,a9⟩:=aB bb;obtain⟨ht,hu,cF,d7,cI,d8,ca,u0,u1,u2,u3,ce,ch⟩:=pt (br wr (cC a5 E)).es a9;subst ca;obtain⟨ct,cu,b2,b3⟩:=e;dsimp only at u0 u1 u2 u3 ce ch;obtain⟨I,ck⟩:=dK wr (.cells (ju ct cu cF b2 d7 cI b3 d8) 166);have Z:=a_ a9;have d2:=zH (fun V (ao:ai wr V)=>zaA p D ⟨ct,cu,b2,b3⟩ cF cI d7 d8 V bd e2 RU (ce.ext ao) (ch.ext ao) (c6.o _ Z) (fun x O=>by rw[U.o];exact a0 x (aA (aA ⟨_,Z,aF O⟩))) (fun x O=>by rw[U.o];exact a0 x (aA (aA ⟨_,Z,aA O⟩))) (d5.o _ Z).1 (d5.o _ Z).2);obtain⟨J,a1⟩:=aO (((Ed.mk ct cu b2 b3).eqns p).map (lG p D));rw[<-a1]at d2;have f3:=zH (by rw[zgF a9,a1,Y.o,U.o];rfl:sR p g (j+1)=sR p g j++J.map (zR jM));have b0:=zH (show ∀r∈J,r.length=D from fun r F=>by rw[a1]at F;obtain⟨L,gw,rfl⟩:=cf.1 F;refine(zt bd fun q H=>?_).1;rw[U.o];exact Gr.zfk c6 a0 L (vK.2 ⟨_,Z,gw⟩) q H)
     have gA:J.length<=2:=by rw[a1,bt];unfold Ed.eqns;split <;>exact yR ..
     have g0:m<=200:=by have:=z.len;have a8:=zhU (p:=p) (g:=g) j;have:=Y.o;omega
     obtain⟨dT,a6,c4,cR⟩:=fU (ak (ak dl E) I) (z.ext I) (cC E I) I;clear a9 ce ch Z a1 z E;go_upto_region 11 with(fail)
     generalize wr.alloc _=cy at I ck dT a6 c4 cR ⊢;obtain⟨he,hf,n2,hg⟩:=aK ck;obtain⟨ab,ac,Q,R⟩:=aK dT;clear u0 u1 u2 u3 ck I;go_wp2_with (go_at_call 136;(with_reducible refine(d2.o _ cR.o).mono ?_);intro e bp h;unfold zgk at h;obtain⟨hl,hs,b1,em,GF⟩:=h;subst b1;have f5:=zH em;have GD:=zH GF;have gc:=zH (a6.ext GF);have fs:=zH (cC c4 GF);clear em GF)
     have dc:=zH (show ∀g,(Value.slice C1 m m1).ownBlock=some g->g < (cy:Nat) from fun g h=>by obtain⟨us,g1⟩:=a6.own;exact(bZ g1.outer g h).2)
     clear he hf n2 hg ab ac Q R;obtain⟨l,cj⟩:=aO J.length;have c8:=zH cj;rw[<-cj]at gA ⊢;clear cj;go_loopw [66] (fun i wr=>∃(q m m1:Nat) (C1:an),q<=l/\i=.int .i64 q/\SyB w3 w2 wr jM D C1 m m1 (sR p g j++(J.take q).map (zR jM))/\ai w2 wr/\(∀k,(cy:Nat)<=k->k < (bp:Nat)->wr.heap[k]?=bp.heap[k]?)/\(∀g,(Value.slice C1 m m1).ownBlock=some g->g < (cy:Nat)∨(bp:Nat)<=g)/\(bp:Nat)<=wr/\m<=200+q) (fun i _=>l-(intOf i).toNat)
     case atStart=>exact⟨0,_,_,_,bf _,rfl,(by simpa using gc.o),fs,fun _ _ _=>rfl,fun g h=>aF (dc g h),ag _,g0⟩
     case round=>
      obtain⟨q,e9,fa,cz,H,rfl,z,E,ba,b8,bm,gV⟩:=hrel;clear dc;by_cases hA:q<l
      .obtain⟨r,F⟩:=aB (show q<J.length by have:=c8.o;omega);have cn:r.length=D:=b0 r (a_ F);rcases f5 wr ba with h|⟨hN,hO,ca,a2⟩
       .rw[h]at F;simp at F
       subst ca;obtain⟨fi,gs,ek,ev⟩:=a2 q r F;rw[cn]at ek;have Hw:=zH (by rw[j1 F];simp:sR p g j++(J.take (q+1)).map (zR jM)=(sR p g j++(J.take q).map (zR jM))++[zR jM r]);obtain⟨z0,z1,z2⟩:=aq z.box;have S0:=bn z0 z2;obtain⟨H7,E9,f8,c5,gf,f6,ga⟩:=zH7 z E ba b8 bm ev cn;clear F cn a2 ev z0 z1 z2 z E ba b8 bm;go_upto_region 14 with(fail)
       refine bJ (S:=fun V=>ah V w2 0 (zI (jM:Nat))/\ah V w2 2 (.slice cz e9 fa)) 8 Si S0 (fun hHeld=>?_);refine aC 0 ?_;refine aC 1 ?_;refine aC 2 ?_;refine aC 3 ?_;refine aC 5 ?_;refine bM 4 fun K hK=>?_
       refine rG _ rfl (.tmp 73) (.tmp 73) 27 rfl wr 3 hd (zI 0) 1 dS gC g9 hc .i64 .i64 jM jM jM rfl rfl rfl rfl SW TS RS ?_;intro fd FK en;rw[ig]at FK;obtain⟨a7,gd⟩:=bS ((aI wr).trans (cd en)) (T6:ar fd wr (.slice (aY wr) jM jM) (List.replicate jM 0));clear FK en;rw[show(wr.drew:Nat)=wr from rfl];refine hK.out _ _ (fun _=>mC a7 S0) (fun hHeld=>?_);clear hK K hHeld;try simp only[Act.put,zA]
       refine bM 6 fun K hK=>?_
       refine cX rfl (.tmp 74) (.tmp 75) rfl wr fd (.slice (aY wr) jM jM) (List.replicate jM 0) r fi D gs ga.o.symm rfl rfl gd.o (f6.ext a7) (by rw[kj];omega) a7.o.size ?_;intro hj w7 e1 ej;have am:=zH (a7.trans ej);have co:ar w7 wr hj (zR jM r):=e1;obtain⟨fl,gn,d9,-,-,-⟩:=co.view;obtain⟨hh,e0⟩:=aO ((zR jM r).length);rw[<-e0]at d9;subst d9;have Hv:=zH co;clear e1 ej co e0;refine hK.out _ _ (fun _=>mC am S0) (fun hHeld=>?_);clear hK K hHeld;try simp only[Act.put,zA]
       refine bM 7 fun K hK=>?_
       go_simp;refine hK.out _ _ (fun _=>mC (am.alloc am.size _) S0) (fun hHeld=>?_);clear hK K hHeld;try simp only[Act.put,zA]
       refine bM 8 fun K hK=>?_
       refine xk rfl (.tmp 71) (.tmp 77) rfl w3 wr w7 (.slice cz e9 fa) (.slice fl hh gn) _ (zR jM r) H7.o.own am.o Hv.o (by rw[H7.o.len];omega) H7.o.le rfl rfl ?_;intro g5 GC w5 Hz GF Ht Hu eg;rw[H7.o.len]at Hz ⊢;obtain⟨FL,H5⟩:=SyB.stored H7 Hz GF;obtain⟨z0,z1,z2⟩:=aq H5;obtain⟨f0,f1,f2⟩:=bU H5;obtain⟨GH,fo,gb,f7,fn⟩:=lv FL GF Ht Hu eg;clear Hz GF Ht Hu FL H5 eg;refine hK.out _ _ (fun h=>absurd h RX) (fun _=>?_);clear hK K;try simp only[Act.put,zA]
       refine bM 9 fun K hK=>?_
       go_simp;refine hK.out _ _ (fun h=>absurd h RX) (fun _=>?_);clear hK K;try simp only[Act.put,zA]
       refine bM 10 fun K hK=>?_
       go_simp;refine hK.out _ _ (fun h=>absurd h RX) (fun _=>?_);clear hK K;try simp only[Act.put,zA]
       refine eC Si ?_ _;clear S0 z0 z1 z2 f0 f1 f2 ek;go_wp2;go_roundw
       case rel=>
        have h:=GH.o;rw[<-Hw.o]at h;have hv:=a6.le;have hH:=am.size;have hw:=gb.o;have bm:=gf.o;have hB:=GB.o;refine⟨q+1,_,_,_,RU,RW,h,(E9.trans (fo.mono (jy GB))).setCell (p:=⟨w2,2,none⟩) (ag _) _,fun k b6 a8=>?_,fun g h=>?_,Sk,RU⟩
        .refine(bw _ _ _ _ (by show k≠w2.heap.size;omega)).trans ((f7 k RU (fun e=>?_)).trans ((am.block k RU).trans (f8 k b6 a8)));have:=c5 k e.symm;omega
        .obtain rfl:g5=g:=by simpa[Value.ownBlock]using h
         rcases fn.o with e|e
         .exact c5 _ e
         .right;omega
       case measure=>simp[intOf];omega
      .have g2:l=q:=RU;subst g2;rw[gq (lr c8.symm),<-f3.o]at z;obtain⟨H7,E9⟩:=bS z E;clear z E ba b8 bm gV;go_wp2;go_roundw
       case rel=>exact⟨j+1,_,_,_,RU,RW,H7,E9⟩
       case measure=>simp[intOf];omega
    .have eA:j=g.es.length:=RU;rw[eA,zhT]at z;obtain⟨z0,z1,z2⟩:=aq z.box;have be:=ak d1 E;obtain⟨hI,hL,hM⟩:=aq be;obtain⟨f0,f1,f2⟩:=bU be;have y:=f_ (v0:=.int .i64 (jM:Nat)) (v1:=.int .i64 (D:Nat)) (v2:=.slice C1 m m1) be;obtain⟨hR,hS,hT⟩:=aq y;have g3:=GB.o;have a3:(w:Nat)+1<w3:=by have:=(aM.1 d1).1;omega
     obtain⟨f4,fz,f9,da,gi⟩:=lv ((((z.own.setCell (a:=⟨(w:Nat)+1,0,none⟩) a3 (zI (jM:Nat))).setCell (a:=⟨(w:Nat)+1,1,none⟩) a3 (zI (D:Nat))).setCell (a:=⟨(w:Nat)+1,2,none⟩) a3 (.slice C1 m m1)).mono (show(w:Nat)+2<=w3 from a3)) ((((cC a5 E).setCell (p:=⟨(w:Nat)+1,0,none⟩) (by show(w:Nat)<=w+1;omega) (zI (jM:Nat))).setCell (p:=⟨(w:Nat)+1,1,none⟩) (by show(w:Nat)<=w+1;omega) (zI (D:Nat))).setCell (p:=⟨(w:Nat)+1,2,none⟩) (by show(w:Nat)<=w+1;omega) (.slice C1 m m1)) (by unfold Gr.sys;rw[Y.o,U.o]:g.sys p=⟨(jM:Nat),(D:Nat),g.mQ p⟩) z.len (show(w:Nat)+2<=wr by have:=z.le;omega);clear z E be y g3 a3 eA;go_wp2;refine ax (v:=.agg (xK jM D C1 m m1)) (by simp[results,results115,go_sem, *]) rfl ?_;rw[f9.o];exact⟨C1,m1,by rw[<-da.o],by show aJ _ _ (.slice C1 (g.mQ p) m1) (g.mQ p);rw[da.o];exact f4,fz,by simp;have:=gi.o;omega⟩
structure GdT(p:Int)(L:List jJ)(t:Tm):Prop where
 tr:iZ (dY L) []=some [t]
 ty:∃c,t.ty=some c
 fl:dY L=t.flat
 ln:L.length<=400
 f:dr p=true
 ov:wQ p (dY L)=true
 st:wP (dY L)=true
 gb:t.v_=true
section
variable{p:Int}{L:List jJ}{t:Tm}(h:GdT p L t)
include h
def GdT.ok:t.gr.okB=true:=Tm.ze h.gb
def GdT.over:t.xe p:=by obtain⟨c,z⟩:=h.ty;exact(Tm.tW z).2 (by rw[<-h.fl];exact⟨h.st,h.ov⟩)
def GdT.p2:2<=p/\p<=97:=eY h.f
def GdT.val:∀e∈t.gr.es,0<=e.v/\e.v<p:=fun e H=>by
 have F:=Tm.zcj h.over h.gb e H;have D:=F.1;unfold Ed.mE at D;simp only[bC,cK]at D;have J:e.v<p:=D8 h.p2.1 D.1 Tg (fun I=>F.2.2.2.2 I);refine⟨?_,J⟩;have z:=D.1;unfold dZ at z;dsimp only at z;rw[bC]at z;have z:=z.2;rw[al RU]at z;by_cases E:e.k=7∨e.k=13
 .rw[ay E]at z;simp only[bC,cK]at z;omega
 .rw[al E]at z;simp only[bC,cK]at z;omega
def GdT.sys:(t.gr.sys p).Ok p:=Gr.zfe h.f h.ok
end
end Go.Proofs.YtdpgblncijojiaaGreatDoor
