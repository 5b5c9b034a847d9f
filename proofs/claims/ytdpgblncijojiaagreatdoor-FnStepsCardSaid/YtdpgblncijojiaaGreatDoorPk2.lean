/- Parts of the walks. Conditions: as stated with each. -/
import Derived.Test.YtdpgblncijojiaaGreatDoorPk1
namespace Go.Proofs.YtdpgblncijojiaaGreatDoor
open Go.RowKit Tryz
set_option linter.all false
set_option maxHeartbeats 2000000
set_option maxRecDepth 100000
variable{A:an}{B B' D b hi hi' i j k lo lo' n:Nat}{E W w w':aa}{H R u v v':au}{J:iq}{Q:gU}{RC RM r' xs:aG}{RH o:gI}{Rv:Region.Mode}{Z:po}{a:Act}{cs:gh}{p:Int}{t:dG}{us:bG}
def sA(B g n cap z:Nat)(i:Int)(us:bG)(x:au)(w:aa)(h:w.ownsRow B 3 1 (.slice (aY g) n cap) n us)(Q:∀u∈us,u.oneCell'=true)(FG:x.oneCell'=true)(hv:aU w z #[x] 3)(ED:z≠g)(hi:0<=i)(ap:i<n)(bo:n+1<=cap)(bi:n<=1048576):aw 241 #[.slice (aY g) n cap,i,.slice (aY z) 1 1] w fun e w'=>e=.returned (.slice (aY g) (n+1) cap)/\w'.ownsRow B 3 1 (.slice (aY g) (n+1) cap) (n+1) (bK us i.toNat x)/\w.grownBy w' (some g):=by
 obtain⟨k,rfl⟩:=fX hi;obtain⟨bz,FF,a6,FD,bv⟩:=cU fI;have Y:(prog.info? 3).map (·.size)=some 1:=TA;obtain⟨FE,a2⟩:=h;rcases a2 with⟨a5,_⟩|⟨a8,a7,cur,a3,ad,I,bm,am,FA,EW⟩
 .cases a5
 cases a3
 simp only[eT]at FE FA EW;unfold maxLen at am;have a0:k<n:=RU;have ES:∀t,t<n->cur.toList[t]?=us[t]?:=fun t ht=>Ud
 have FB:aU w.drew g cur 3:=I;have a4:aU w.drew z #[x] 3:=hv;have a1:∀J H,(callFunc 242 #[.slice (aY z) 1 1,.slice (some ⟨g,k+1,none⟩) J H]).run prog w=.ok (.value (.bool false)) w:=fun J H=>by
  rw[run_callFunc_extern func242 Si Si Si (e:=Extern.SlicesOverlaps.overlaps #[27,27] #[4]) Si,
   Lib.run_overlaps_apart w 27 4 3 dS 1 Tryz.sizeOf3 ⟨z,0,none⟩ ⟨g,k+1,none⟩ 1 1 J H ED 3 3 1 cap (by simp[World.shape?,hv]) (by simp[World.shape?,I,FA]) RU (aP hv _) (aP hv _)]
  rfl
 obtain⟨ds,E7⟩:=aO (us.drop k);have FC:ds.length=n-k:=T3;have U:∀ty D O,(Builtin.copy_ #[27,27] ty #[.slice (some ⟨g,k+1,none⟩) (n-k) D,.slice (some ⟨g,k,none⟩) (n+1-k) O]).run prog w.drew=.ok (goInt ds) (w.drew.setCells g (k+1) ds):=fun ty D O=>
  oG w.drew _ _ ty 3 g (k+1) (n-k) D ⟨g,k,none⟩ (n+1-k) O ds dS Y Wg
   (fun j v hj=>WQ)
   (fun j hj=>VP) (fun j hj=>aP FB _) (fun v hv=>Q v (km Tz))
 obtain⟨E,R⟩:=aO (w.drew.setCells g (k+1) ds);obtain⟨b1,F⟩:=dB g 3 ds (k+1) w.drew cur FB (by rw[FC];omega);rw[<-R]at b1 F U;have Fz:(splice cur.toList (k+1) ds).length=cap:=Wv;have Z:aU E z #[x] 3:=(F.block z (aM.1 hv).1 SX).trans hv;have ao:∀ty D,(Builtin.copy_ #[27,27] ty #[.slice (some ⟨g,k,none⟩) (n+1-k) D,.slice (aY z) 1 1]).run prog E=.ok (goInt [x]) (E.setCells g k [x]):=fun ty D=>
  oG E _ _ ty 3 g k (n+1-k) D ⟨z,0,none⟩ 1 1 [x] dS Y We
   (fun j v hj=>by
    match j,hj with
    |0,hj=>simp at hj;subst hj;rw[dM,aW Z];rfl
    |j+1,hj=>simp at hj)
   (fun j hj=>WN) (fun j hj=>aP b1 _) (fun v hv=>UZ)
 obtain⟨c1,c2⟩:=dB g 3 [x] k E _ b1 Vo;have ac:=zH (show(E.setCells g k [x]).ownsRow B 3 1 (.slice (aY g) (n+1) cap) (n+1) (bK us k x) by
  refine⟨T2,aA ⟨g,cap,_,rfl,ad,c1,RU,TS,?_,?_⟩⟩
  .exact XS
  .simp only[eT];exact Dr cur.toList us ds n k x EW Sk a0 E7)
 have ab:=zH (bx (dP w (some g)) (bx F c2));have be:k<=n:=RU;have br:IntKind.i64.wrap ((k:Int)+1)=(k:Int)+1:=SQ;have a9:(0:Int)<=(k:Int)+1:=RU;have bp:((k:Int)+1).toNat=k+1:=RU;have ba:¬(cap=k+1):=RU;have bb:(k:Int)<=(n:Int)+1:=RU;have bd:¬(cap=k):=RU;clear FE FA EW I FB Q hi ES E7 FC R b1 F Fz c1 c2 ap hv a4 Z a6;go_enter func241,ntmps241
 go_wp2_with (simp only[a1])
 go_region_law (refine mM rfl (.tmp 73) (.tmp 76) 27 27 rfl _ _ Ul Ul (U _ _ _) ?_)
 go_wp2_with (with_reducible refine k7 _ rfl (.tmp 80) (.tmp 81) 27 27 rfl _ _ rfl rfl (ao _ _) ?_)
 go_ret
 exact⟨rfl,ac,ab⟩
def tX(B n D:Nat)(v:au)(us:bG)(x:au)(w:aa)(h:w.ownsRow B 3 1 v n us)(a3:x.oneCell'=true)(F:aU w D #[x] 3)(a2:n<=1048576)(J:B<=(w:Nat)):aw 241 #[v,n,.slice (aY D) 1 1] w fun e w'=>∃g cap,e=.returned (.slice (aY g) (n+1) cap)/\w'.ownsRow B 3 1 (.slice (aY g) (n+1) cap) (n+1) (bK us n x)/\w.grownBy w' v.ownBlock/\(v.ownBlock=some g∨(w:Nat)<=g):=by
 obtain⟨am,R,ab,ac,ad⟩:=cU fI;have E:us.length=n:=by simpa using h.1
 have U:bK us n x=us++[x]:=by simp[bK,<-E]
 have HI:=zH U;clear U;have Y:Hd (∀j u,([x]:bG)[j]?=some u->w.cell? ((⟨D,0,none⟩:dD).add j)=some u):=fun j u z=>by
  match j,z with
  |0,z=>simp at z;subst z;rw[dM,aW F];rfl
  |j+1,z=>simp at z
 have I:Hd (∀u∈([x]:bG),u.oneCell'=true):=fun u Z=>by simp at Z;subst Z;exact a3
 have H:=zH h;rcases h.2 with⟨rfl,rfl⟩|⟨g,cap,cur,rfl,_,_,a5,a0,_⟩
 .clear h E F;go_enter func241,ntmps241
  go_wp2_with (at_builtin;refine vJ _ rfl (.tmp 23) (.tmp 24) 27 rfl B 3 am (zI 0) 1 8 dS R ab ac ad rfl RX _ 0 us rfl H.o ⟨D,0,none⟩ 1 1 [x] rfl rfl Y.o I.o RX RX RX J w.heap.size rfl ?_;intro g cap a4 Eo Gc Ho a1)
  exact X_
 .unfold maxLen at a0;have O:(n+1)<=maxLen:=TS;have Q:(n+1)*8<=140737488355328:=RU;obtain⟨ao,ap⟩:=bS O Q;clear h E F O Q a2;go_enter func241,ntmps241
  go_wp2_with (at_builtin;refine vJ _ rfl (.tmp 23) (.tmp 24) 27 rfl B 3 am (zI 0) 1 8 dS R ab ac ad rfl RX _ n us rfl H.o ⟨D,0,none⟩ 1 1 [x] rfl rfl Y.o I.o RX ao.o ap.o J w rfl ?_;intro g cap a4 Eo Gc Ho a1)
  all_goals (go_ret;exact⟨g,cap,rfl,by rw[HI.o];exact Eo,Gc,Ho.imp id fun e=>RU⟩)
def th(B g n cap I:Nat)(i:Int)(us:bG)(x:au)(w:aa)(h:w.ownsRow B 3 1 (.slice (aY g) n cap) n us)(U:∀u∈us,u.oneCell'=true)(FG:x.oneCell'=true)(hv:aU w I #[x] 3)(hi:0<=i)(a9:i<n)(be:cap<n+1)(b7:n<=1048576)(a4:B<=(w:Nat)):aw 241 #[.slice (aY g) n cap,i,.slice (aY I) 1 1] w fun e w'=>∃G,e=.returned (.slice (aY w) (n+1) G)/\w'.ownsRow B 3 1 (.slice (aY w) (n+1) G) (n+1) (bK us i.toNat x)/\w.grownBy w' none:=by
 obtain⟨k,rfl⟩:=fX hi;obtain⟨a1,FF,a0,FD,Es⟩:=cU fI;have ao:(prog.info? 3).map (·.size)=some 1:=TA;obtain⟨FE,bd⟩:=h;rcases bd with⟨bp,_⟩|⟨bv,br,cur,bm,bz,O,b8,a6,ac,EW⟩
 .cases bp
 cases bm
 simp only[eT]at FE ac EW;unfold maxLen at a6;have bb:k<n:=RU;obtain rfl:n=cap:=RU;have a8:g < (w:Nat):=(aM.1 O).1;have bo:I < (w:Nat):=(aM.1 hv).1;have ES:∀t,t<n->cur.toList[t]?=us[t]?:=fun t ht=>Ud
 have am:(Builtin.firstCells a1.size k (.slice (aY g) k n)).run prog w.drew=.ok (us.take k).toArray w.drew:=by rw[FD];exact run_firstCells_some w.drew 1 k ⟨g,0,none⟩ k n (us.take k) Sk (fun j v hj=>by have ba:=(bA.1 hj).1;simp at ba;rw[dM,aW (show aU w.drew g cur 3 from O),iw,ES _ RU,<-hj,fY,ay RU])
 obtain⟨G,hG⟩:=aO (grownCap w (n+1) n 3);have a5:n+1<=G:=by rw[hG];exact grownCap_ge w _ _ _
 have b0:G<=9223372036854775807:=by have:=grownCap_le_maxLen w (n+1) n 3 TS;rw[<-hG]at this;unfold maxLen at this;omega
 obtain⟨E,Hi⟩:∃E:gh,E=(us.take k).toArray++Builtin.zeroCells (Value.cells (zI 0)) (n+1-k)++Builtin.zeroCells (Value.cells (zI 0)) (G-(n+1)):=⟨_,rfl⟩;have Hf:E.size=G:=WE;have Y:E.toList.take k=us.take k:=Yw;obtain⟨z,Fu⟩:=aO (w.drew.alloc (.cells E 3));have bi:∀ty,(Builtin.append_ #[27,3] ty #[.slice (aY g) k n,.int .i64 ((n:Int)+1-(k:Int))]).run prog w=.ok (.slice (aY w) (n+1) G) z:=fun ty=>by have h:=Lib.run_append_grow_zeros (P:=prog) w 27 3 ty 3 a1 _ .i64 .i64 dS underlying3 FF a0 (some ⟨g,0,none⟩) k n (us.take k) am (n+1-k) RU RU RU RU SW WT;exact YY
 have Ep:aU z w E 3:=UA;have Q:∀q,q < (w:Nat)->z.heap[q]?=w.heap[q]?:=fun q J=>by rw[Fu];exact b_ w.drew _ J
 have F:w.grownBy z none:=WH;have ap:aU z I #[x] 3:=(Q I bo).trans hv;have ab:∀ty H,(Builtin.copy_ #[27,27] ty #[.slice (some ⟨w,k,none⟩) (n+1-k) H,.slice (aY I) 1 1]).run prog z=.ok (goInt [x]) (z.setCells w k [x]):=fun ty H=>
  oG z _ _ ty 3 w k (n+1-k) H ⟨I,0,none⟩ 1 1 [x] dS ao We
   (fun j v hj=>by
    match j,hj with
    |0,hj=>simp at hj;subst hj;rw[dM,aW ap];rfl
    |j+1,hj=>simp at hj)
   (fun j hj=>Wp) (fun j hj=>aP Ep _) (fun v hv=>UZ)
 obtain⟨D,Z⟩:=aO (z.setCells w k [x]);obtain⟨c1,c2⟩:=dB w 3 [x] k z _ Ep Sk;rw[<-Z]at c1 c2 ab;obtain⟨ds,E7⟩:=aO (us.drop k);have FC:ds.length=n-k:=T3;have He:(splice E.toList k [x]).length=G:=Wi;have ad:aU D g cur 3:=(c2.block g (by have:=F.size;omega) Sk).trans ((Q g a8).trans O);have Hj:D.drew.heap[w.heap.size]?=_:=c1;have Hh:D.drew.heap[g]?=_:=ad;have a7:∀ty H R,(Builtin.copy_ #[27,27] ty #[.slice (some ⟨w,k+1,none⟩) (n-k) H,.slice (some ⟨g,k,none⟩) (n-k) R]).run prog D.drew=.ok (goInt ds) (D.drew.setCells w (k+1) ds):=fun ty H R=>
  oG D.drew _ _ ty 3 w (k+1) (n-k) H ⟨g,k,none⟩ (n-k) R ds dS ao Wg
   (fun j v hj=>WR)
   (fun j hj=>WM) (fun j hj=>aP Hj _) (fun v hv=>U v (km Tz))
 obtain⟨d1,d2⟩:=dB w 3 ds (k+1) D.drew _ Hj Vh;have a3:=zH (show(D.drew.setCells w (k+1) ds).ownsRow B 3 1 (.slice (aY w) (n+1) G) (n+1) (bK us k x) by
  refine⟨T2,aA ⟨w,G,_,rfl,a4,d1,a5,TS,?_,?_⟩⟩
  .exact XQ
  .simp only[eT];exact AN E.toList us ds n k x FE Sk bb E7 Y)
 have a2:=zH (show w.grownBy (D.drew.setCells w (k+1) ds) none from
  ⟨d2.os.trans (c2.os.trans F.os),d2.tape.trans (c2.tape.trans F.tape),d2.output.trans (c2.output.trans F.output),bc F.size (bc c2.size d2.size),fun q J _=>
   (d2.block q (gZ J (bc F.size c2.size)) Sk).trans ((c2.block q (gZ J F.size) Sk).trans (Q q J))⟩)
 have cb:(n:Int) < (n:Int)+1:=RU;have b6:k<=n:=RU;have ca:IntKind.i64.wrap ((k:Int)+1)=(k:Int)+1:=SQ;have b3:(0:Int)<=(k:Int)+1:=RU;have b9:((k:Int)+1).toNat=k+1:=RU;have b1:¬(G=k):=RU;have b2:¬(G=k+1):=RU;have b5:¬(n=k):=RU;have b4:(k:Int)<=(n:Int)+1:=RU;clear FE ac EW O U hi ES E7 FC Fu Z Ep Q F ap He c1 c2 d1 d2 ad Hj Hh a9 hv a0 hG Hi Hf Y am be;go_enter func241,ntmps241
 go_wp2_with (first
  |(at_builtin;refine Lib.wpList_append_run _ rfl (.tmp 34) (.tmp 39) _ _ rfl _ _ rfl rfl _ _ (bi _) ?_)
  |(with_reducible refine k7 _ rfl (.tmp 43) (.tmp 44) 27 27 rfl _ _ rfl rfl (ab _ _) ?_))
 go_region_law (refine mM rfl (.tmp 50) (.tmp 53) 27 27 rfl _ _ Ul Ul (a7 _ _ _) ?_)
 go_wp2;go_ret
 exact⟨G,rfl,a3,a2⟩
def yG(B n z:Nat)(i:Int)(v:au)(us:bG)(x:au)(w:aa)(h:w.ownsRow B 3 1 v n us)(H:∀u∈us,u.oneCell'=true)(F:x.oneCell'=true)(E:aU w z #[x] 3)(Q:v.ownBlock≠some z)(hi:0<=i)(U:i<=n)(D:n<=1048576)(I:B<=(w:Nat)):aw 241 #[v,i,.slice (aY z) 1 1] w fun e w'=>∃g cap,e=.returned (.slice (aY g) (n+1) cap)/\w'.ownsRow B 3 1 (.slice (aY g) (n+1) cap) (n+1) (bK us i.toNat x)/\w.grownBy w' v.ownBlock/\(v.ownBlock=some g∨(w:Nat)<=g):=by
 by_cases O:i=n
 .subst O;rw[Int.toNat_natCast];exact tX B n z v us x w h F E D I
 .have J:i<n:=RU;obtain⟨g,cap,rfl,_,_⟩:=h.form RU;by_cases R:n+1<=cap
  .refine(sA B g n cap z i us x w h H F E (by intro e;subst e;exact Q rfl) hi J R D).mono ?_;exact Xn
  .refine(th B g n cap z i us x w h H F E hi J RU D I).mono ?_;exact YS
def sB(B g n cap z:Nat)(i:Int)(us:bG)(x:au)(w:aa)(h:w.ownsRow B 27 1 (.slice (aY g) n cap) n us)(Q:∀u∈us,u.oneCell'=true)(FG:x.oneCell'=true)(hv:aU w z #[x] 27)(ED:z≠g)(hi:0<=i)(ap:i<n)(bo:n+1<=cap)(bi:n<=1048576):aw 225 #[.slice (aY g) n cap,i,.slice (aY z) 1 1] w fun e w'=>e=.returned (.slice (aY g) (n+1) cap)/\w'.ownsRow B 27 1 (.slice (aY g) (n+1) cap) (n+1) (bK us i.toNat x)/\w.grownBy w' (some g):=by
 obtain⟨k,rfl⟩:=fX hi;obtain⟨bz,FF,a6,FD,bv⟩:=cU i_;have Y:(prog.info? 27).map (·.size)=some 1:=TA;obtain⟨FE,a2⟩:=h;rcases a2 with⟨a5,_⟩|⟨a8,a7,cur,a3,ad,I,bm,am,FA,EW⟩
 .cases a5
 cases a3
 simp only[eT]at FE FA EW;unfold maxLen at am;have a0:k<n:=RU;have ES:∀t,t<n->cur.toList[t]?=us[t]?:=fun t ht=>Ud
 have FB:aU w.drew g cur 27:=I;have a4:aU w.drew z #[x] 27:=hv;have a1:∀J H,(callFunc 226 #[.slice (aY z) 1 1,.slice (some ⟨g,k+1,none⟩) J H]).run prog w=.ok (.value (.bool false)) w:=fun J H=>by
  rw[run_callFunc_extern func226 Si Si Si (e:=Extern.SlicesOverlaps.overlaps #[24,24] #[4]) Si,
   Lib.run_overlaps_apart w 24 4 27 gx 1 Tryz.sizeOf27 ⟨z,0,none⟩ ⟨g,k+1,none⟩ 1 1 J H ED 27 27 1 cap (by simp[World.shape?,hv]) (by simp[World.shape?,I,FA]) RU (aP hv _) (aP hv _)]
  rfl
 obtain⟨ds,E7⟩:=aO (us.drop k);have FC:ds.length=n-k:=T3;have U:∀ty D O,(Builtin.copy_ #[24,24] ty #[.slice (some ⟨g,k+1,none⟩) (n-k) D,.slice (some ⟨g,k,none⟩) (n+1-k) O]).run prog w.drew=.ok (goInt ds) (w.drew.setCells g (k+1) ds):=fun ty D O=>
  oG w.drew _ _ ty 27 g (k+1) (n-k) D ⟨g,k,none⟩ (n+1-k) O ds gx Y Wg
   (fun j v hj=>WQ)
   (fun j hj=>VP) (fun j hj=>aP FB _) (fun v hv=>Q v (km Tz))
 obtain⟨E,R⟩:=aO (w.drew.setCells g (k+1) ds);obtain⟨b1,F⟩:=dB g 27 ds (k+1) w.drew cur FB (by rw[FC];omega);rw[<-R]at b1 F U;have Fz:(splice cur.toList (k+1) ds).length=cap:=Wv;have Z:aU E z #[x] 27:=(F.block z (aM.1 hv).1 SX).trans hv;have ao:∀ty D,(Builtin.copy_ #[24,24] ty #[.slice (some ⟨g,k,none⟩) (n+1-k) D,.slice (aY z) 1 1]).run prog E=.ok (goInt [x]) (E.setCells g k [x]):=fun ty D=>
  oG E _ _ ty 27 g k (n+1-k) D ⟨z,0,none⟩ 1 1 [x] gx Y We
   (fun j v hj=>by
    match j,hj with
    |0,hj=>simp at hj;subst hj;rw[dM,aW Z];rfl
    |j+1,hj=>simp at hj)
   (fun j hj=>WN) (fun j hj=>aP b1 _) (fun v hv=>UZ)
 obtain⟨c1,c2⟩:=dB g 27 [x] k E _ b1 Vo;have ac:=zH (show(E.setCells g k [x]).ownsRow B 27 1 (.slice (aY g) (n+1) cap) (n+1) (bK us k x) by
  refine⟨T2,aA ⟨g,cap,_,rfl,ad,c1,RU,TS,?_,?_⟩⟩
  .exact XS
  .simp only[eT];exact Dr cur.toList us ds n k x EW Sk a0 E7)
 have ab:=zH (bx (dP w (some g)) (bx F c2));have be:k<=n:=RU;have br:IntKind.i64.wrap ((k:Int)+1)=(k:Int)+1:=SQ;have a9:(0:Int)<=(k:Int)+1:=RU;have bp:((k:Int)+1).toNat=k+1:=RU;have ba:¬(cap=k+1):=RU;have bb:(k:Int)<=(n:Int)+1:=RU;have bd:¬(cap=k):=RU;clear FE FA EW I FB Q hi ES E7 FC R b1 F Fz c1 c2 ap hv a4 Z a6;go_enter func225,ntmps225
 go_wp2_with (simp only[a1])
 go_region_law (refine mM rfl (.tmp 73) (.tmp 76) 24 24 rfl _ _ Ul Ul (U _ _ _) ?_)
 go_wp2_with (with_reducible refine k7 _ rfl (.tmp 80) (.tmp 81) 24 24 rfl _ _ rfl rfl (ao _ _) ?_)
 go_ret
 exact⟨rfl,ac,ab⟩
def tY(B n D:Nat)(v:au)(us:bG)(x:au)(w:aa)(h:w.ownsRow B 27 1 v n us)(a3:x.oneCell'=true)(F:aU w D #[x] 27)(a2:n<=1048576)(J:B<=(w:Nat)):aw 225 #[v,n,.slice (aY D) 1 1] w fun e w'=>∃g cap,e=.returned (.slice (aY g) (n+1) cap)/\w'.ownsRow B 27 1 (.slice (aY g) (n+1) cap) (n+1) (bK us n x)/\w.grownBy w' v.ownBlock/\(v.ownBlock=some g∨(w:Nat)<=g):=by
 obtain⟨am,R,ab,ac,ad⟩:=cU i_;have E:us.length=n:=by simpa using h.1
 have U:bK us n x=us++[x]:=by simp[bK,<-E]
 have HI:=zH U;clear U;have Y:Hd (∀j u,([x]:bG)[j]?=some u->w.cell? ((⟨D,0,none⟩:dD).add j)=some u):=fun j u z=>by
  match j,z with
  |0,z=>simp at z;subst z;rw[dM,aW F];rfl
  |j+1,z=>simp at z
 have I:Hd (∀u∈([x]:bG),u.oneCell'=true):=fun u Z=>by simp at Z;subst Z;exact a3
 have H:=zH h;rcases h.2 with⟨rfl,rfl⟩|⟨g,cap,cur,rfl,_,_,a5,a0,_⟩
 .clear h E F;go_enter func225,ntmps225
  go_wp2_with (at_builtin;refine vJ _ rfl (.tmp 23) (.tmp 24) 24 rfl B 27 am (.slice none 0 0) 1 24 gx R ab ac ad rfl RX _ 0 us rfl H.o ⟨D,0,none⟩ 1 1 [x] rfl rfl Y.o I.o RX RX RX J w.heap.size rfl ?_;intro g cap a4 Eo Gc Ho a1)
  exact X_
 .unfold maxLen at a0;have O:(n+1)<=maxLen:=TS;have Q:(n+1)*24<=140737488355328:=RU;obtain⟨ao,ap⟩:=bS O Q;clear h E F O Q a2;go_enter func225,ntmps225
  go_wp2_with (at_builtin;refine vJ _ rfl (.tmp 23) (.tmp 24) 24 rfl B 27 am (.slice none 0 0) 1 24 gx R ab ac ad rfl RX _ n us rfl H.o ⟨D,0,none⟩ 1 1 [x] rfl rfl Y.o I.o RX ao.o ap.o J w rfl ?_;intro g cap a4 Eo Gc Ho a1)
  all_goals (go_ret;exact⟨g,cap,rfl,by rw[HI.o];exact Eo,Gc,Ho.imp id fun e=>RU⟩)
def ti(B g n cap I:Nat)(i:Int)(us:bG)(x:au)(w:aa)(h:w.ownsRow B 27 1 (.slice (aY g) n cap) n us)(U:∀u∈us,u.oneCell'=true)(FG:x.oneCell'=true)(hv:aU w I #[x] 27)(hi:0<=i)(a9:i<n)(be:cap<n+1)(b7:n<=1048576)(a4:B<=(w:Nat)):aw 225 #[.slice (aY g) n cap,i,.slice (aY I) 1 1] w fun e w'=>∃G,e=.returned (.slice (aY w) (n+1) G)/\w'.ownsRow B 27 1 (.slice (aY w) (n+1) G) (n+1) (bK us i.toNat x)/\w.grownBy w' none:=by
 obtain⟨k,rfl⟩:=fX hi;obtain⟨a1,FF,a0,FD,Es⟩:=cU i_;have ao:(prog.info? 27).map (·.size)=some 1:=TA;obtain⟨FE,bd⟩:=h;rcases bd with⟨bp,_⟩|⟨bv,br,cur,bm,bz,O,b8,a6,ac,EW⟩
 .cases bp
 cases bm
 simp only[eT]at FE ac EW;unfold maxLen at a6;have bb:k<n:=RU;obtain rfl:n=cap:=RU;have a8:g < (w:Nat):=(aM.1 O).1;have bo:I < (w:Nat):=(aM.1 hv).1;have ES:∀t,t<n->cur.toList[t]?=us[t]?:=fun t ht=>Ud
 have am:(Builtin.firstCells a1.size k (.slice (aY g) k n)).run prog w.drew=.ok (us.take k).toArray w.drew:=by rw[FD];exact run_firstCells_some w.drew 1 k ⟨g,0,none⟩ k n (us.take k) Sk (fun j v hj=>by have ba:=(bA.1 hj).1;simp at ba;rw[dM,aW (show aU w.drew g cur 27 from O),iw,ES _ RU,<-hj,fY,ay RU])
 obtain⟨G,hG⟩:=aO (grownCap w (n+1) n 27);have a5:n+1<=G:=by rw[hG];exact grownCap_ge w _ _ _
 have b0:G<=9223372036854775807:=by have:=grownCap_le_maxLen w (n+1) n 27 TS;rw[<-hG]at this;unfold maxLen at this;omega
 obtain⟨E,Hi⟩:∃E:gh,E=(us.take k).toArray++Builtin.zeroCells (Value.cells (.slice none 0 0)) (n+1-k)++Builtin.zeroCells (Value.cells (.slice none 0 0)) (G-(n+1)):=⟨_,rfl⟩;have Hf:E.size=G:=WE;have Y:E.toList.take k=us.take k:=Yw;obtain⟨z,Fu⟩:=aO (w.drew.alloc (.cells E 27));have bi:∀ty,(Builtin.append_ #[24,3] ty #[.slice (aY g) k n,.int .i64 ((n:Int)+1-(k:Int))]).run prog w=.ok (.slice (aY w) (n+1) G) z:=fun ty=>by have h:=Lib.run_append_grow_zeros (P:=prog) w 24 3 ty 27 a1 _ .i64 .i64 gx underlying3 FF a0 (some ⟨g,0,none⟩) k n (us.take k) am (n+1-k) RU RU RU RU SW WT;exact YY
 have Ep:aU z w E 27:=UA;have Q:∀q,q < (w:Nat)->z.heap[q]?=w.heap[q]?:=fun q J=>by rw[Fu];exact b_ w.drew _ J
 have F:w.grownBy z none:=WH;have ap:aU z I #[x] 27:=(Q I bo).trans hv;have ab:∀ty H,(Builtin.copy_ #[24,24] ty #[.slice (some ⟨w,k,none⟩) (n+1-k) H,.slice (aY I) 1 1]).run prog z=.ok (goInt [x]) (z.setCells w k [x]):=fun ty H=>
  oG z _ _ ty 27 w k (n+1-k) H ⟨I,0,none⟩ 1 1 [x] gx ao We
   (fun j v hj=>by
    match j,hj with
    |0,hj=>simp at hj;subst hj;rw[dM,aW ap];rfl
    |j+1,hj=>simp at hj)
   (fun j hj=>Wp) (fun j hj=>aP Ep _) (fun v hv=>UZ)
 obtain⟨D,Z⟩:=aO (z.setCells w k [x]);obtain⟨c1,c2⟩:=dB w 27 [x] k z _ Ep Sk;rw[<-Z]at c1 c2 ab;obtain⟨ds,E7⟩:=aO (us.drop k);have FC:ds.length=n-k:=T3;have He:(splice E.toList k [x]).length=G:=Wi;have ad:aU D g cur 27:=(c2.block g (by have:=F.size;omega) Sk).trans ((Q g a8).trans O);have Hj:D.drew.heap[w.heap.size]?=_:=c1;have Hh:D.drew.heap[g]?=_:=ad;have a7:∀ty H R,(Builtin.copy_ #[24,24] ty #[.slice (some ⟨w,k+1,none⟩) (n-k) H,.slice (some ⟨g,k,none⟩) (n-k) R]).run prog D.drew=.ok (goInt ds) (D.drew.setCells w (k+1) ds):=fun ty H R=>
  oG D.drew _ _ ty 27 w (k+1) (n-k) H ⟨g,k,none⟩ (n-k) R ds gx ao Wg
   (fun j v hj=>WR)
   (fun j hj=>WM) (fun j hj=>aP Hj _) (fun v hv=>U v (km Tz))
 obtain⟨d1,d2⟩:=dB w 27 ds (k+1) D.drew _ Hj Vh;have a3:=zH (show(D.drew.setCells w (k+1) ds).ownsRow B 27 1 (.slice (aY w) (n+1) G) (n+1) (bK us k x) by
  refine⟨T2,aA ⟨w,G,_,rfl,a4,d1,a5,TS,?_,?_⟩⟩
  .exact XQ
  .simp only[eT];exact AN E.toList us ds n k x FE Sk bb E7 Y)
 have a2:=zH (show w.grownBy (D.drew.setCells w (k+1) ds) none from
  ⟨d2.os.trans (c2.os.trans F.os),d2.tape.trans (c2.tape.trans F.tape),d2.output.trans (c2.output.trans F.output),bc F.size (bc c2.size d2.size),fun q J _=>
   (d2.block q (gZ J (bc F.size c2.size)) Sk).trans ((c2.block q (gZ J F.size) Sk).trans (Q q J))⟩)
 have cb:(n:Int) < (n:Int)+1:=RU;have b6:k<=n:=RU;have ca:IntKind.i64.wrap ((k:Int)+1)=(k:Int)+1:=SQ;have b3:(0:Int)<=(k:Int)+1:=RU;have b9:((k:Int)+1).toNat=k+1:=RU;have b1:¬(G=k):=RU;have b2:¬(G=k+1):=RU;have b5:¬(n=k):=RU;have b4:(k:Int)<=(n:Int)+1:=RU;clear FE ac EW O U hi ES E7 FC Fu Z Ep Q F ap He c1 c2 d1 d2 ad Hj Hh a9 hv a0 hG Hi Hf Y am be;go_enter func225,ntmps225
 go_wp2_with (first
  |(at_builtin;refine Lib.wpList_append_run _ rfl (.tmp 34) (.tmp 39) _ _ rfl _ _ rfl rfl _ _ (bi _) ?_)
  |(with_reducible refine k7 _ rfl (.tmp 43) (.tmp 44) 24 24 rfl _ _ rfl rfl (ab _ _) ?_))
 go_region_law (refine mM rfl (.tmp 50) (.tmp 53) 24 24 rfl _ _ Ul Ul (a7 _ _ _) ?_)
 go_wp2;go_ret
 exact⟨G,rfl,a3,a2⟩
def qI(B n z:Nat)(i:Int)(v:au)(us:bG)(x:au)(w:aa)(h:w.ownsRow B 27 1 v n us)(H:∀u∈us,u.oneCell'=true)(F:x.oneCell'=true)(E:aU w z #[x] 27)(Q:v.ownBlock≠some z)(hi:0<=i)(U:i<=n)(D:n<=1048576)(I:B<=(w:Nat)):aw 225 #[v,i,.slice (aY z) 1 1] w fun e w'=>∃g cap,e=.returned (.slice (aY g) (n+1) cap)/\w'.ownsRow B 27 1 (.slice (aY g) (n+1) cap) (n+1) (bK us i.toNat x)/\w.grownBy w' v.ownBlock/\(v.ownBlock=some g∨(w:Nat)<=g):=by
 by_cases O:i=n
 .subst O;rw[Int.toNat_natCast];exact tY B n z v us x w h F E D I
 .have J:i<n:=RU;obtain⟨g,cap,rfl,_,_⟩:=h.form RU;by_cases R:n+1<=cap
  .refine(sB B g n cap z i us x w h H F E (by intro e;subst e;exact Q rfl) hi J R D).mono ?_;exact Xn
  .refine(ti B g n cap z i us x w h H F E hi J RU D I).mono ?_;exact YS
def tmod_neg{a:Int}(h:a<0)(F:0<p):-p<a.tmod p/\a.tmod p<=0/\(a.tmod p<0->a%p=a.tmod p+p)/\(a.tmod p=0->a%p=0):=by
 have e:a.tmod p=-((-a)%p):=by have:=Int.neg_tmod (-a) p;rw[Int.neg_neg]at this;rw[this,Int.tmod_eq_emod_of_nonneg RU]
 have H:=ir (-a) (RU:p≠0);have I:=iu (-a) F;refine⟨RU,RU,fun J=>?_,fun D=>?_⟩
 .have E:a%p=(a.tmod p+p)%p:=by
   have:=Int.tmod_add_mul_tdiv a p;have z:a=a.tmod p+p*a.tdiv p:=this.symm;conv=>lhs;rw[z]
   simp
  rw[E,oC RU RU]
 .have z:a=a.tmod p+p*a.tdiv p:=(Int.tmod_add_mul_tdiv a p).symm;rw[z,D];simp
def zci(p a:Int)(w:aa)(Z:1<=p)(ab:p<=1000)(R:-9000000000000000000<=a)(U:a<=9000000000000000000):aw 143 (bP p a) w fun e w'=>e=.returned (zI (a%p))/\w=w':=by
 by_cases h:0<=a
 .have Q:=ir a (RU:p≠0);go_enter func143,ntmps143
  exact WY
 .obtain⟨J,O,D,E⟩:=tmod_neg (RU:a<0) (RU:0<p);obtain⟨m,z⟩:=aO (a.tmod p);rw[<-z]at J O D E;obtain⟨F,H⟩:=bS D E;clear D E;have Y:a.tmod p=m:=z.symm;clear z;by_cases I:m<0
  .go_enter func143,ntmps143
   go_wp2;go_ret
   exact⟨by rw[F.o I];rfl,rfl⟩
  .obtain rfl:m=0:=RU;go_enter func143,ntmps143
   go_wp2;go_ret
   exact⟨by rw[show a%p=0 from by simpa using H.o];rfl,rfl⟩
def zh5{b y:Int}(D:-1000000<=b)(E:b<=1000000)(z:0<=y)(I:y<=1000):-1000000000<=b*y/\b*y<=1000000000:=by have F:=CR D z;have H:=CR E z;omega
def zfo(z:ai W w')(h:aU W b cs t)(j:Nat):w'.cell? ⟨b,j,none⟩=cs.toList[j]?:=aW ((z.block b (aM.1 h).1).trans h) j
def zh6(z:ai W w')(h:aU W b cs t)(j:Nat):w'.frozen? ⟨b,j,none⟩=false:=aP ((z.block b (aM.1 h).1).trans h) j
def cD(z:ai W w')(h:aU W b cs t):aU w' b cs t:=(z.block b (aM.1 h).1).trans h
def cA(w:aa)(z D E:Obj):(((w.alloc z).alloc D).alloc E).heap[w.heap.size]?=some z/\(((w.alloc z).alloc D).alloc E).heap[(w:Nat)+1]?=some D/\(((w.alloc z).alloc D).alloc E).heap[(w:Nat)+1+1]?=some E:=⟨(b_ _ _ SJ).trans ((b_ _ _ RS).trans (az _ _ rfl)),(b_ _ _ RS).trans (az _ _ RS),az _ _ RS⟩
def below_alloc3(w:aa)(z D E:Obj):Below w w (((w.alloc z).alloc D).alloc E):=((aj _ _).alloc RS _ |>.alloc RS _).alloc SJ _
def c_{a p:dD}(h:p.block≠a.block):(w.setCell a u).cell? p=w.cell? p:=xZ (w:=w) (bw _ _ _ _ h)
def jZ{a p:dD}(h:p.block≠a.block):(w.setCell a u).drew.cell? p=w.cell? p:=c_ h
def eF{a p:dD}(h:p.block≠a.block):(w.drew.setCell a u).cell? p=w.cell? p:=c_ h
def qO(p b:Int)(xs ys:aG)(k:Nat):List Int:=(List.zipWith (fun x y=>(x+b*y)%p) xs ys).take k++xs.drop k
def dw(p b:Int)(xs ys:aG):List Int:=List.zipWith (fun x y=>(x+b*y)%p) xs ys
def yZ(p b:Int)(xs ys:aG):qO p b xs ys 0=xs:=by simp[qO]
def Bk(p b:Int)(xs ys:aG)(h:xs.length=ys)(k:Nat)(z:ys.length<=k):qO p b xs ys k=dw p b xs ys:=by unfold qO dw;rw[gq Sk,nc RU,nf]
def Bl(p b:Int)(xs ys:aG)(k:Nat)(z:k<ys.length)(h:xs.length=ys):(qO p b xs ys k)[k]?=xs[k]?:=by unfold qO;exact Xg
def Bm(p b:Int)(xs ys:aG)(k:Nat)(x y:Int)(hx:xs[k]?=some x)(z:ys[k]?=some y):(qO p b xs ys k).set k ((x+b*y)%p)=qO p b xs ys (k+1):=by
 have h1:=(bA.1 hx).1;have H:=(bA.1 z).1;have F:(List.zipWith (fun x y=>(x+b*y)%p) xs ys)[k]?=some ((x+b*y)%p):=by rw[vu,hx,z]
 unfold qO;rw[sq _ _ Sk,gK,F];have D:xs.drop k=x::xs.drop (k+1):=Xf;have E:k-((List.zipWith (fun x y=>(x+b*y)%p) xs ys).take k).length=0:=Sk;rw[D,E,jA];simp
def um(p b:Int)(B g cap am:Nat)(A2:an)(xs ys:aG)(w:aa)(a2:1<=p)(a3:p<=1000)(ao:-1000000<=b)(ap:b<=1000000)(h:w.ownsRow B 3 1 (.slice (aY g) xs cap) xs (xs.map (Value.int .i64)))(O:aT w A2 ys)(Q:∀b o,A2=some ⟨b,o,none⟩->b≠g)(U:xs.length=ys)(a1:xs.length<=1048576)(z:∀x∈xs,0<=x/\x<=1000)(D:∀y∈ys,0<=y/\y<=1000):aw 147 #[p,.slice (aY g) xs cap,b,.slice A2 ys am] w fun e w'=>e=.returned (.tuple #[])/\w'.ownsRow B 3 1 (.slice (aY g) xs cap) xs ((dw p b xs ys).map (Value.int .i64))/\w.grownBy w' (some g):=by
 obtain⟨Z,HL,ac,ad⟩:=fU h U z D;have ba:ys.length<9223372036854775807:=RU;clear h U z D a1;go_enter func147,ntmps147
 go_wp2;go_loopw [12] (fun i wr=>∃k:Nat,k<=ys.length/\i=.int .i64 k/\wr.ownsRow B 3 1 (.slice (aY g) xs cap) xs ((qO p b xs ys k).map (Value.int .i64))/\w.grownBy wr (some g))
  (fun i _=>ys.length-(intOf i).toNat)
 case atStart=>exact⟨0,bf _,rfl,by rw[yZ];exact Z.o,⟨rfl,rfl,rfl,ag _,fun _ _ _=>rfl⟩⟩
 case round=>
  obtain⟨k,a9,rfl,E,F⟩:=hrel;by_cases I:k<ys.length
  .have a0:k<xs.length:=Tq;obtain⟨x,z⟩:=aB a0;obtain⟨y,D⟩:=aB I;obtain⟨J,o,rfl,R⟩:=O.here I;have a7:ah wr J (o+k) (zI y):=F.cell (R _ _ D) (by have:=Q J o rfl;simpa using this);have a6:ah wr g k (zI x):=by rw[E.cellAt k RU,cp,Bl _ _ _ _ _ I HL,z];rfl
   have a8:=E.frozenAt k;obtain⟨be,bi⟩:=ac x (a_ z);obtain⟨a4,a5⟩:=ad y (a_ D);obtain⟨bb,bd⟩:=zh5 ao ap a4 a5;have H:=E.stored k (zI ((x+b*y)%p));rw[<-h_,Bm _ _ _ _ _ _ _ z D]at H;obtain⟨ab,Y⟩:=bS H.1 (bx F H.2);clear H z D R E F O Q;go_wp2_with (go_at_call 143;refine(zci _ _ _ a2 a3 RU RU).mono ?_;rintro e w' ⟨rfl,rfl⟩)
   go_roundw
   case rel=>exact⟨k+1,RU,RW,ab,Y.o⟩
   case measure=>simp[intOf];omega
  .go_wp2;go_end0
   rw[Bk _ _ _ _ HL.o _ RU]at E;exact⟨rfl,E,F⟩
def ziR{P:kR}{S:iS}(hi:J.toList[i]?=some RH)(I:Region.noSelect J=true)(F:Region.free Rv J Z i=true)(H:(Region.ready Rv J Z).contains i=true)(O:YieldsIf P J S RH v a)(E:S w)(h:wpAnyH P Rv J (fun e a w=>Q e a w) S D (Z.setIfInBounds i true) (a.put RH.dst v) w)(z:∀c a w,Q (.panic c) (a.put RH.dst v) w->Q (.panic c) a w:=by exact fun _ _ _ h=>h):wpAnyH P Rv J Q S (D+1) Z a w:=wpAnyH_take (by rw[<-qj];exact hi) I F H z O E h
def cW{P:kR}{S:iS}(i:Nat){z:Act}(h:wpAnyH P Rv J (fun e a w=>Q e a w) S D (Z.setIfInBounds i true) z w)(hi:J.toList[i]?=some RH:=by rfl)(O:Region.wanted RH (yielded J a.tmps)=true:=by rfl)(Y:∀w,S w->(execOp a.eval RH).run P w=.ok (.value v) w:=by intro w h;(try dsimp only at h);go_simp;(try with_reducible rfl))(U:Region.noSelect J=true:=by kernel_rfl)(I:Region.free Rv J Z i=true:=by kernel_rfl)(R:(Region.ready Rv J Z).contains i=true:=by kernel_rfl)(F:S w:=by assumption)(E:∀c a w,Q (.panic c) (a.put RH.dst v) w->Q (.panic c) a w:=by exact fun _ _ _ h=>h)(H:a.put RH.dst v=z:=by simp only[Act.put,zA];rfl):wpAnyH P Rv J Q S (D+1) Z a w:=by subst H;exact ziR hi U I R (aF ⟨O,Y⟩) F h E
def di{P:kR}{S:iS}{rs:bX}(ho:J.toList[i]?=some o)(h:∀K':mK,Shut (∀a w,S w->(S w->wpAnyH P Rv J Q S D (Z.setIfInBounds i true) a w)->K' a w)->if Region.wanted o (yielded J a.tmps)=true then Oper.wp P o a w K' Q else K' (a.put o.dst undef) w)(z:AllReadyH P Rv J Q S D Z a w rs):AllReadyH P Rv J Q S D Z a w (i::rs):=AllReadyH.cons Tp h z
def sw(i j k:Nat):Nat:=if k=j then i else if k=i then j else k
def ze8{l:Nat}(h:sw i j k=sw i j l):k=l:=by unfold sw at h;split at h<;>split at h<;>(try split at h)<;>(try split at h)<;>omega
def ld{F:Type}{l:List F}{x y:F}(hi:l[i]?=some x)(E:l[j]?=some y)(k:Nat):((l.set i y).set j x)[k]?=l[sw i j k]?:=by
 have hi':=(bA.1 hi).1;have H:=(bA.1 E).1;unfold sw;by_cases z:k=j
 .subst z;rw[ay rfl,eu (by simpa using H),hi]
 .rw[al z,dz (gJ z)];by_cases D:k=i
  .subst D;rw[ay rfl,eu hi',E]
  .rw[al D,dz (gJ D)]
def bh.mono{w:aa}{B B':Nat}{v:au}{rows:aE}{us:bG}(h:bh w B v rows us)(E:B'<=B):bh w B' v rows us:=⟨⟨h.outer.1,h.outer.2.imp id fun⟨g,cap,cur,z,I,D⟩=>⟨g,cap,cur,z,RU,D⟩⟩,fun k u r H F=>(h.each k u r H F).mono E,h.apart⟩
def bh.swap{g cap:Nat}{rows:aE}(J:n=rows.length)(h:bh w B (.slice (aY g) n cap) rows us)(hi:us[i]?=some H)(hj:us[j]?=some R)(O:rows[i]?=some RM)(Q:rows[j]?=some RC):bh ((w.setCell ⟨g,i,none⟩ R).setCell ⟨g,j,none⟩ H) B (.slice (aY g) n cap) ((rows.set i RC).set j RM) ((us.set i R).set j H):=by
 subst J;have z:=h.outer.stored i R;have D:=z.1.stored j H;refine⟨by simpa using D.1,fun k u r hu I=>?_,fun k l u u' b hu Eu hb Gd=>?_⟩
 .rw[ld hi hj]at hu;rw[ld O Q]at I;have F:=h.each _ u r hu I;have E:=eV h.outer F;exact ar.kept (ar.kept F z.2 E) D.2 E
 .exact XJ
def fA(D:w.ownsRow B 27 1 v n us)(h:ar w B' u xs):v.ownBlock=none∨v.ownBlock≠u.ownBlock:=by
 rcases eV D h with z|z
 .rw[z];cases v.ownBlock <;>simp
 .exact aA (gJ z)
def bh.mod{rows:aE}(h:bh w B v rows us)(J:us[k]?=some u)(Y:w.grownBy w' u.ownBlock)(ac:ar w' B H r')(Z:∀b,H.ownBlock=some b->u.ownBlock=some b∨(w:Nat)<=b):w'.ownsRow B 27 1 v rows.length us/\(∀(j:Nat) (x:au) (r:aG),(us.set k H)[j]?=some x->(rows.set k r')[j]?=some r->ar w' B x r)/\(∀(i j:Nat) (x y:au) (b:Nat),(us.set k H)[i]?=some x->(us.set k H)[j]?=some y->x.ownBlock=some b->y.ownBlock=some b->i=j):=by
 obtain⟨am,ad,ab⟩:=h.kU J;have O:=(bA.1 J).1;have other:∀(i:Nat) (x:au) (b:Nat),i≠k->us[i]?=some x->x.ownBlock=some b->H.ownBlock=some b->False:=fun i x b hi z D I=>by
  obtain⟨ao,_,R⟩:=h.kU z;rcases Z b I with U|U
  .exact hi (h.apart i k x u b z J D U)
  .have:=(R.lt b D).2;omega
 refine⟨hJ h.outer Y (fA h.outer ab),fun j x r z Q=>?_,fun i j x y b z F D I=>?_⟩
 .by_cases E:k=j
  .subst E;rw[eu O]at z;rw[eu (by rw[<-h.len];exact O)]at Q;cases z;cases Q;exact ac
  .rw[dz E]at z Q;have R:=h.each j x r z Q;refine R.kept Y ?_;rcases D:x.ownBlock with _|b
   .exact aF rfl
   .refine aA fun e=>E (h.apart k j u x b J z e.symm D)
 .by_cases hi:k=i <;>by_cases E:k=j
  .omega
  .subst hi;rw[eu O]at z;rw[dz E]at F;cases z
   exact(other j y b (gJ E) F I D).elim
  .subst E;rw[eu O]at F;rw[dz hi]at z;cases F
   exact(other i x b (gJ hi) z D I).elim
  .rw[dz hi]at z;rw[dz E]at F;exact h.apart i j x y b z F D I
def nL{D:Type}{l:List D}{x:D}(h:l[k]?=some x):l.set k x=l:=by
 apply fu;intro j;by_cases z:k=j
 .subst z;rw[eu (bA.1 h).1,h]
 .rw[dz z]
def bh.inner{rows:aE}(h:bh w B v rows us)(E:us[k]?=some u)(I:w.grownBy w' u.ownBlock)(J:ar w' B u r'):bh w' B v (rows.set k r') us:=by
 obtain⟨F,z,D⟩:=h.mod E I J fun b H=>aF H
 rw[nL E]at z D;exact⟨by simpa using F,z,D⟩
def bh.put{g cap:Nat}{rows:aE}(U:n=rows.length)(h:bh w B (.slice (aY g) n cap) rows us)(R:us[k]?=some u)(Q:w.grownBy w' u.ownBlock)(Y:ar w' B H r')(O:∀b,H.ownBlock=some b->u.ownBlock=some b∨(w:Nat)<=b):bh (w'.setCell ⟨g,k,none⟩ H) B (.slice (aY g) n cap) (rows.set k r') (us.set k H):=by subst U;obtain⟨z,D,J⟩:=h.mod R Q Y O;have F:=z.stored k H;exact⟨by simpa using F.1,fun j x r I E=>(D j x r I E).kept F.2 (eV z (D j x r I E)),J⟩
def ij{z:Type}(l:List z)(k j:Nat):(l.eraseIdx k)[j]?=l[if j<k then j else j+1]?:=by rw[List.getElem?_eraseIdx];split <;>rfl
def bh.erase{g cap:Nat}{rows:aE}(h:bh w B (.slice (aY g) n cap) rows us)(Q:k<rows.length)(H:w'.ownsRow B 27 1 (.slice (aY g) (rows.length-1) D) (rows.length-1) (us.eraseIdx k))(O:w.grownBy w' (some g)):bh w' B (.slice (aY g) (rows.length-1) D) (rows.eraseIdx k) (us.eraseIdx k):=by
 refine⟨by rw[mW Q];exact H,fun j x r z E=>?_,fun i j x y b z F I J=>?_⟩
 .rw[ij]at z E;exact(h.each _ x r z E).kept O (eV h.outer (h.each _ x r z E))
 .rw[ij]at z F;have:=h.apart _ _ x y b z F I J;split at this <;>split at this <;>omega
def jo{z:Type}(l:List z)(k:Nat)(x:z)(h:k<=l.length):(l.take k++x::l.drop k).length=l+1:=SJ
def j4{E:Type}(l:List E)(k j:Nat)(x:E)(h:k<=l.length):(l.take k++x::l.drop k)[j]?=if j<k then l[j]? else if j=k then some x else l[j-1]?:=by
 by_cases z:j<k
 .rw[ay z,dx SJ,List.getElem?_take_of_lt z]
 .rw[al z,gv SJ];by_cases D:j=k
  .subst D;rw[ay rfl];simp[iM h]
  .rw[al D];obtain⟨m,rfl⟩:∃m,j=k+1+m:=⟨j-(k+1),RU⟩;have F:k+1+m-(l.take k).length=m+1:=by simp[iM h];omega
   have H:k+1+m-1=k+m:=RU;rw[F,H,cZ,fL]
def bh.insert{r:aG}{rows:aE}(h:bh E B v rows us)(hb:ai E w)(I:ar w E u r)(O:B<=(E:Nat))(hk:k<=rows.length)(Q:w'.ownsRow B 27 1 v' (rows.length+1) (bK us k u))(Gc:w.grownBy w' v.ownBlock):bh w' B v' (rows.take k++r::rows.drop k) (bK us k u):=by
 have hW:=h.ext hb;have J:k<=us.length:=TI;have new:∀(i:Nat) (x:au) (b:Nat),us[i]?=some x->x.ownBlock=some b->u.ownBlock=some b->False:=fun i x b hx hb Gd=>by obtain⟨rx,_,R⟩:=h.kU hx;have:=(R.lt b hb).2;have:=(I.lt b Gd).1;omega
 refine⟨by rw[jo _ _ _ hk];exact Q,fun j x rx hx hr=>?_,fun i j x y b hx hy hb Gd=>?_⟩
 .rw[bK,j4 _ _ _ _ J]at hx;rw[j4 _ _ _ _ hk]at hr;by_cases D:j<k
  .rw[ay D]at hx hr;exact XR
  .rw[al D]at hx hr;by_cases F:j=k
   .rw[ay F]at hx hr;cases hx;cases hr
    exact(I.kept Gc (eV hW.outer I)).mono O
   .rw[al F]at hx hr;exact XR
 .rw[bK,j4 _ _ _ _ J]at hx hy;by_cases D:i<k <;>by_cases F:j<k
  .rw[ay D]at hx;rw[ay F]at hy;exact h.apart _ _ x y b hx hy hb Gd
  .rw[ay D]at hx;rw[al F]at hy;by_cases z:j=k
   .rw[ay z]at hy;cases hy;exact(new i x b hx hb Gd).elim
   .rw[al z]at hy;exact Xd
  .rw[al D]at hx;rw[ay F]at hy;by_cases z:i=k
   .rw[ay z]at hx;cases hx;exact(new j y b hy Gd hb).elim
   .rw[al z]at hx;exact Xd
  .rw[al D]at hx;rw[al F]at hy;by_cases z:i=k <;>by_cases H:j=k
   .omega
   .rw[ay z]at hx;rw[al H]at hy;cases hx;exact(new _ y b hy Gd hb).elim
   .rw[al z]at hx;rw[ay H]at hy;cases hy;exact(new _ x b hx hb Gd).elim
   .rw[al z]at hx;rw[al H]at hy;exact Xd
def ks{cap:Nat}{rows:aE}(h:bh w B (.slice A n cap) rows us)(E:0<rows.length):∃g,A=some ⟨g,0,none⟩/\B<=g/\g < (w:Nat):=by obtain⟨g,F,e,z,D⟩:=h.outer.form E;simp only[fO]at e;exact⟨g,e.1,z,D⟩
def kD{cap:Nat}(h:ar w B (.slice A n cap) xs)(E:0<xs.length):∃g,A=some ⟨g,0,none⟩/\B<=g/\g < (w:Nat):=by obtain⟨g,F,e,z,D⟩:=kG h E;simp only[fO]at e;exact⟨g,e.1,z,D⟩
section
variable{P:kR}{ops:iq}{Q:gU}{md:Region.Mode}{S:iS}
def rr(P:kR)(md:Region.Mode)(ops:iq)(Q:gU)(S:iS)(n:Nat):Nat->Array Bool->Act->World->Prop
 |0,z,a,w=>Region.ready md ops z=[]/\Q .normal a w
 |E+1,z,a,w=>
  (Region.ready md ops z=[]->Q .normal a w)/\
  ∀i∈Region.ready md ops z,wpOp P ops Q i (fun D w'=>(i<n->S w')/\rr P md ops Q S n E (z.setIfInBounds i true) D w') a w
def zah{n:Nat}:∀(z:Nat) (D:po) (a:Act) (w:aa),rr P md ops Q S n z D a w->wpAny P md ops Q z D a w
 |0,_,_,_,h=>h
 |z+1,_,_,_,h=>⟨h.1,fun i hi=>wpOp_mono (fun E w' h'=>zah z _ E w' h'.2) (h.2 i hi)⟩
def zbH(hi:ops[i]?=some RH)(ap:∀(j:Nat) (o:gI) cs b,ops[j]?=some o->o.op≠.select cs b)(a3:∀c a w,Q (.panic c) (a.put RH.dst v) w->Q (.panic c) a w)(bo:Region.sinkB md ops n=true)(a6:Region.chainB md ops n=true)(be:n<ops.size)(ba:i<n):∀(J:Nat) (z:po) (a:Act) (w:aa),HeadInv md ops n z->(∀j F,ops[j]?=some F->j≠i->z.getD j true=false->(∀e∈F.after,Region.binds md e=true->e.on≠i)->RH.apart ops F=true)->i∈Region.ready md ops z->YieldsIf P ops S RH v a->S w->rr P md ops Q S n J (z.setIfInBounds i true) (a.put RH.dst v) w->rr P md ops Q S n (J+1) z a w:=by
 intro J;induction J with
 |zero=>
  intro z a w _ _ E Z O I;refine⟨fun h=>(by rw[h]at E;cases E),fun j H=>?_⟩;by_cases D:j=i
  .subst D;exact Z.wpOp hi O ⟨fun _=>O,I⟩
  .have:=ready_mono H D;rw[I.1]at this;cases this
 |succ J ih=>
  intro z a w a0 ac E Z O I;refine⟨fun h=>(by rw[h]at E;cases E),fun j H=>?_⟩;have R:z.getD i true=false:=(mem_ready.1 E).1;have am:j<n:=by
   rcases qi j n with h|h
   .exact h
   .exact absurd H (tail_waits bo a6 be a0 (n-i) i rfl ba R j h)
  by_cases D:j=i
  .subst D;exact Z.wpOp hi O ⟨fun _=>O,I⟩
  .have U:=I.2 j (ready_mono H D);obtain⟨ao,F,ab,a4⟩:=mem_ready.1 H;have bm:∀e∈F.after,Region.binds md e=true->e.on≠i:=fun e a7 a5 a8=>by have U:=a4 e a7 a5;rw[a8,getD_both R]at U;cases U
   have a2:=wpOp_putIf ab (ac j F ab D ao bm) (fun cs b=>ap i RH cs b hi) (fun cs b=>ap j F cs b ab) a3 Z U;have a9:∀k ok,ops[k]?=some ok->k≠i->(z.setIfInBounds j true).getD k true=false->
     (∀e∈ok.after,Region.binds md e=true->e.on≠i)->RH.apart ops ok=true:=fun k ok bb bd R bi=>by
    refine ac k ok bb bd ?_ bi;by_cases ad:j=k
    .subst ad;exact ao
    .rw[getD_set_ne true ad]at R;exact R
   refine wpOp_mono (fun a1 w' Y=>⟨Y.2.1,ih (z.setIfInBounds j true) a1 w' (a0.set H am) a9 (ready_mono E (gJ D)) Y.1 (Y.2.1 am) ?_⟩) a2;rw[Array.setIfInBounds_comm _ _ D];exact Y.2.2
def zcJ(md:Region.Mode)(ops:iq)(n:Nat)(z:po):Bool:=
 (z.size==ops.size)&&((List.range ops.size).all fun j=>!z.getD j false||(match ops.toList[j]? with|some D=>D.after.toList.all fun e=>!Region.binds md e||z.getD e.on false|none=>true))&&
 ((List.range ops.size).all fun t=>decide (t<n)||!z.getD t true)
def zbI(h:zcJ md ops n Z=true):HeadInv md ops n Z:=by
 simp only[zcJ,bC,pZ,fp,et]at h;obtain⟨⟨D,E⟩,F⟩:=h;refine⟨D,fun j ab z R e J H=>?_,fun t Y U=>?_⟩
 .have O:=(aM.1 z).1;have:=E j O;rw[R,qj,z]at this;simp only[Bool.not_true,Bool.false_or,fp]at this;have:=this e (by simpa using J);rw[H]at this;simpa using this
 .have:=F t U;have I:decide (t<n)=false:=Sk;rw[I]at this;simpa using this
def ziT(hi:ops.toList[i]?=some RH)(ab:Region.noSelect ops=true)(U:Region.free md ops Z i=true)(Y:(Region.ready md ops Z).contains i=true)(z:(zcJ md ops n Z&&Region.sinkB md ops n&&Region.chainB md ops n&&decide (n<ops.size)&&decide (i<n))=true)(ac:YieldsIf P ops S RH v a)(R:S w)(h:rr P md ops Q S n D (Z.setIfInBounds i true) (a.put RH.dst v) w)(O:∀c a w,Q (.panic c) (a.put RH.dst v) w->Q (.panic c) a w:=by exact fun _ _ _ h=>h):rr P md ops Q S n (D+1) Z a w:=by
 simp only[bC,cK]at z;obtain⟨⟨⟨⟨E,F⟩,H⟩,I⟩,J⟩:=z;have hi':ops[i]?=some RH:=by rw[<-qj];exact hi
 exact zbH hi' (Region.noSelect_spec ab) O F H I J D Z a w (zbI E) (Region.free_spec hi' U) (by simpa using Y) ac R h
def aC(i:Nat){z:Act}(h:rr P md ops Q S n D (Z.setIfInBounds i true) z w)(hi:ops.toList[i]?=some RH:=by rfl)(O:Region.wanted RH (yielded ops a.tmps)=true:=by rfl)(Y:∀w,S w->(execOp a.eval RH).run P w=.ok (.value v) w:=by intro w h;(try dsimp only at h);go_simp;(try with_reducible rfl))(U:Region.noSelect ops=true:=by kernel_rfl)(J:Region.free md ops Z i=true:=by kernel_rfl)(R:(Region.ready md ops Z).contains i=true:=by kernel_rfl)(I:(zcJ md ops n Z&&Region.sinkB md ops n&&Region.chainB md ops n&&decide (n<ops.size)&&decide (i<n))=true:=by kernel_rfl)(F:S w:=by assumption)(E:∀c a w,Q (.panic c) (a.put RH.dst v) w->Q (.panic c) a w:=by exact fun _ _ _ h=>h)(H:a.put RH.dst v=z:=by simp only[Act.put,zA];rfl):rr P md ops Q S n (D+1) Z a w:=by subst H;exact ziT hi U J R I (aF ⟨O,Y⟩) F h E
def zjn(E:Region.ready md ops Z=[i])(ho:ops.toList[i]?=some o)(h:∀K':mK,Shut (∀a w,(i<n->S w)->((i<n->S w)->rr P md ops Q S n D (Z.setIfInBounds i true) a w)->K' a w)-> if Region.wanted o (yielded ops a.tmps)=true then Oper.wp P o a w K' Q else K' (a.put o.dst undef) w):rr P md ops Q S n (D+1) Z a w:=by refine⟨fun H=>(by rw[H]at E;cases E),fun j z=>?_⟩;rw[E]at z;simp only[jh,kp,kJ]at z;subst z;exact wpOp_step Tp (fun K' hK=>h K' (fun a w F I=>hK a w ⟨F,I F⟩))
def bM(i:Nat)(h:∀K':mK,Shut (∀a w,(i<n->S w)->((i<n->S w)->rr P md ops Q S n D (Z.setIfInBounds i true) a w)->K' a w)->if Region.wanted o (yielded ops a.tmps)=true then Oper.wp P o a w K' Q else K' (a.put o.dst undef) w)(E:Region.ready md ops Z=[i]:=by kernel_rfl)(z:ops.toList[i]?=some o:=by rfl):rr P md ops Q S n (D+1) Z a w:=zjn E z h
def eC(z:Region.ready md ops Z=[])(h:Q .normal a w):∀D,rr P md ops Q S n D Z a w
 |0=>⟨z,h⟩
 |_+1=>⟨fun _=>h,by rw[z];simp⟩
def bJ(n:Nat){id:Nat}(D:P.follows .mixedOrders=true)(z:S w.drew)(h:S w.drew->rr P .any ops Q S n ops.size (Array.replicate ops.size false) a w.drew):(Code.region id ops true).wp P Q a w:=wp_region_any D (zah _ _ _ _ (h z))
end
structure dh(lo hi:Nat)(w w':aa):Prop where
 os:w'.os=w.os
 tape:w'.tape=w.tape
 output:w'.output=w.output
 size:(w:Nat)<=w'
 block:∀k,k < (w:Nat)->(k<lo∨hi<=k)->w'.heap[k]?=w.heap[k]?
def dh.refl(lo hi:Nat)(w:aa):dh lo hi w w:=⟨rfl,rfl,rfl,ag _,fun _ _ _=>rfl⟩
def dh.trans{lo hi:Nat}{a b c:aa}(h:dh lo hi a b)(k:dh lo hi b c):dh lo hi a c:=⟨k.os.trans h.os,k.tape.trans h.tape,k.output.trans h.output,bc h.size k.size,fun i z D=>(k.block i (gZ z h.size) D).trans (h.block i z D)⟩
def dh.iL(h:ai w w'):dh lo hi w w':=⟨h.os,h.tape,h.output,h.size,fun k z _=>h.block k z⟩
def dh.zk(h:w.grownBy w' (some b))(D:lo<=b)(E:b<hi):dh lo hi w w':=⟨h.os,h.tape,h.output,h.size,fun k z F=>h.block k z (fun e=>by cases e;omega)⟩
def dh.mono(h:dh lo hi w w')(D:lo'<=lo)(E:hi<=hi'):dh lo' hi' w w':=⟨h.os,h.tape,h.output,h.size,fun k z F=>h.block k z RU⟩
def dh.below(h:dh lo hi w w')(z:B<=lo)(E:B<=(w:Nat)):Below B w w':=⟨h.os,h.tape,h.output,h.size,fun k D=>h.block k RU RU⟩
def dh.cell(h:dh lo hi w w'){p:dD}(z:w.cell? p=some v)(D:p.block<lo∨hi<=p.block):w'.cell? p=some v:=by rw[<-z];exact xZ (w:=w) (h.block _ (iN w p z) D)
structure uJ(w:aa)(lo hi:Nat)(v:au)(xs:aG):Prop where
 own:ar w lo v xs
 up:∀b,v.ownBlock=some b->b<hi
structure pa(w:aa)(lo hi:Nat)(v:au)(rows:aE)(us:bG):Prop where
 own:bh w lo v rows us
 up:∀b,v.ownBlock=some b->b<hi
 ups:∀u∈us,∀b,u.ownBlock=some b->b<hi
def Has(w:aa)(lo hi:Nat)(v:au)(rows:aE):Prop:=∃us,pa w lo hi v rows us
def uJ.of(h:ar w B v xs):uJ w B w v xs:=⟨h,fun b z=>(h.lt b z).2⟩
def Has.of{rows:aE}(h:aJ w B v rows):Has w B w v rows:=by obtain⟨us,h⟩:=h;refine⟨us,h,fun b z=>(bZ h.outer b z).2,fun u F b z=>?_⟩;obtain⟨k,D⟩:=e_.1 F;obtain⟨r,_,E⟩:=h.kU D;exact(E.lt b z).2
def uJ.mono(h:uJ w lo hi v xs)(z:lo'<=lo)(E:hi<=hi'):uJ w lo' hi' v xs:=⟨h.own.mono z,fun b D=>by have:=h.up b D;omega⟩
def ar.within(h:ar w B v xs)(J:∀b,v.ownBlock=some b->b<D)(I:dh lo hi w w')(O:D<=lo∨hi<=B):ar w' B v xs:=by refine⟨h.1,h.2.imp id fun⟨g,cap,cur,z,F,E,H⟩=>⟨g,cap,cur,z,F,?_,H⟩⟩;have:=J g (by rw[z];rfl);exact(I.block g (aM.1 E).1 RU).trans E
def uJ.within(h:uJ w lo hi v xs)(D:dh lo' hi' w w')(z:hi<=lo'∨hi'<=lo):uJ w' lo hi v xs:=⟨h.own.within h.up D z,h.up⟩
def pa.within{w w':aa}{lo hi lo' hi':Nat}{v:au}{rows:aE}{us:bG}(h:pa w lo hi v rows us)(F:dh lo' hi' w w')(J:hi<=lo'∨hi'<=lo):pa w' lo hi v rows us:=by refine⟨⟨⟨h.own.outer.1,h.own.outer.2.imp id fun⟨g,cap,cur,z,H,D,I⟩=>⟨g,cap,cur,z,H,(F.block g (aM.1 D).1 (by have:=h.up g (by rw[z];rfl);omega)).trans D,I⟩⟩,fun k u r E O=>?_,h.own.apart⟩,h.up,h.ups⟩;exact(h.own.each k u r E O).within (h.ups u (a_ E)) F J
def Has.within{rows:aE}(h:Has w lo hi v rows)(D:dh lo' hi' w w')(z:hi<=lo'∨hi'<=lo):Has w' lo hi v rows:=by obtain⟨us,h⟩:=h;exact⟨us,h.within D z⟩
def uJ.ext(h:uJ w lo hi v xs)(z:ai w w'):uJ w' lo hi v xs:=⟨h.own.ext z,h.up⟩
def pa.ext{rows:aE}(h:pa w lo hi v rows us)(z:ai w w'):pa w' lo hi v rows us:=⟨h.own.ext z,h.up,h.ups⟩
def Has.ext{rows:aE}(h:Has w lo hi v rows)(z:ai w w'):Has w' lo hi v rows:=by obtain⟨us,h⟩:=h;exact⟨us,h.ext z⟩
def Has.own{rows:aE}(h:Has w lo hi v rows):aJ w lo v rows:=by obtain⟨us,h⟩:=h;exact⟨us,h.own⟩
def Has.nil(w:aa)(lo hi:Nat):Has w lo hi (.slice none 0 0) []:=⟨[],⟨m_ _ _ _ _,fun k u r hu=>Sg,fun i j u D b hu=>Sg⟩,fun b z=>by simp[Value.ownBlock]at z,fun u hu=>by cases hu⟩
end Go.Proofs.YtdpgblncijojiaaGreatDoor
