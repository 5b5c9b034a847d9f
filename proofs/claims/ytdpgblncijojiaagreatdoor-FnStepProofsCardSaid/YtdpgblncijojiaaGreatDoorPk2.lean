/- Parts of the walks. Conditions: as stated with each. -/
import Derived.Test.YtdpgblncijojiaaGreatDoorPk1
namespace Go.Proofs.YtdpgblncijojiaaGreatDoor
open Go.RowKit Tryz
set_option linter.all false
set_option maxHeartbeats 2000000
set_option maxRecDepth 100000
variable{A:aq}{B' D J b i j k n:Nat}{E W w w':aa}{H Rw u v v':av}{Q:iF}{Q_:Region.Mode}{R:ir}{Rd Rq r' xs:aH}{Rm o:ie}{Rt:pV}{a:Act}{cs:gq}{p:Int}{t:dE}{us:bN}
def tm(F g n cap z:Nat)(i:Int)(us:bN)(x:av)(w:aa)(h:w.ownsRow F 3 1 (.slice (aX g) n cap) n us)(Q:∀u∈us,u.oneCell'=true)(FT:x.oneCell'=true)(hv:aW w z #[x] 3)(EH:z≠g)(hi:0<=i)(ap:i<n)(bo:n+1<=cap)(bi:n<=1048576):ax 241 #[.slice (aX g) n cap,i,.slice (aX z) 1 1] w fun e w'=>e=.returned (.slice (aX g) (n+1) cap)/\w'.ownsRow F 3 1 (.slice (aX g) (n+1) cap) (n+1) (bK us i.toNat x)/\w.grownBy w' (some g):=by
 obtain⟨k,rfl⟩:=fW hi;obtain⟨bz,FR,a6,Fg,bv⟩:=cM fq;have U:(prog.info? 3).map (·.size)=some 1:=Tk;obtain⟨FQ,a2⟩:=h;rcases a2 with⟨a5,_⟩|⟨a8,a7,cur,a3,ad,I,bm,am,FM,E0⟩
 .cases a5
 cases a3
 simp only[eP]at FQ FM E0;unfold maxLen at am;have a0:k<n:=Ry;have EU:∀t,t<n->cur.toList[t]?=us[t]?:=fun t ht=>TX
 have FN:aW w.drew g cur 3:=I;have a4:aW w.drew z #[x] 3:=hv;have a1:∀J H,(callFunc 242 #[.slice (aX z) 1 1,.slice (some ⟨g,k+1,none⟩) J H]).run prog w=.ok (.value (.bool false)) w:=fun J H=>by
  rw[run_callFunc_extern func242 RU RU RU (e:=Extern.SlicesOverlaps.overlaps #[27,27] #[4]) RU,
   Lib.run_overlaps_apart w 27 4 3 dA 1 Tryz.sizeOf3 ⟨z,0,none⟩ ⟨g,k+1,none⟩ 1 1 J H EH 3 3 1 cap (by simp[World.shape?,hv]) (by simp[World.shape?,I,FM]) Ry (aS hv _) (aS hv _)]
  rfl
 obtain⟨ds,Fh⟩:=aK (us.drop k);have FP:ds.length=n-k:=TL;have T:∀ty B O,(Builtin.copy_ #[27,27] ty #[.slice (some ⟨g,k+1,none⟩) (n-k) B,.slice (some ⟨g,k,none⟩) (n+1-k) O]).run prog w.drew=.ok (goInt ds) (w.drew.setCells g (k+1) ds):=fun ty B O=>
  pd w.drew _ _ ty 3 g (k+1) (n-k) B ⟨g,k,none⟩ (n+1-k) O ds dA U VM
   (fun j v hj=>Wx)
   (fun j hj=>Vu) (fun j hj=>aS FN _) (fun v hv=>Q v (ky Tj))
 obtain⟨D,R⟩:=aK (w.drew.setCells g (k+1) ds);obtain⟨b1,E⟩:=du g 3 ds (k+1) w.drew cur FN (by rw[FP];omega);rw[<-R]at b1 E T;have FL:(splice cur.toList (k+1) ds).length=cap:=We;have Z:aW D z #[x] 3:=(E.block z (aP.1 hv).1 SC).trans hv;have ao:∀ty B,(Builtin.copy_ #[27,27] ty #[.slice (some ⟨g,k,none⟩) (n+1-k) B,.slice (aX z) 1 1]).run prog D=.ok (goInt [x]) (D.setCells g k [x]):=fun ty B=>
  pd D _ _ ty 3 g k (n+1-k) B ⟨z,0,none⟩ 1 1 [x] dA U VK
   (fun j v hj=>by
    match j,hj with
    |0,hj=>simp at hj;subst hj;rw[dy,aV Z];rfl
    |j+1,hj=>simp at hj)
   (fun j hj=>Wv) (fun j hj=>aS b1 _) (fun v hv=>UC)
 obtain⟨c1,c2⟩:=du g 3 [x] k D _ b1 U8;have ac:=zH (show(D.setCells g k [x]).ownsRow F 3 1 (.slice (aX g) (n+1) cap) (n+1) (bK us k x) by
  refine⟨TK,aB ⟨g,cap,_,rfl,ad,c1,Ry,TB,?_,?_⟩⟩
  .exact XD
  .simp only[eP];exact D_ cur.toList us ds n k x E0 RX a0 Fh)
 have ab:=zH (bq (dG w (some g)) (bq E c2));have be:k<=n:=Ry;have br:IntKind.i64.wrap ((k:Int)+1)=(k:Int)+1:=Sq;have a9:(0:Int)<=(k:Int)+1:=Ry;have bp:((k:Int)+1).toNat=k+1:=Ry;have ba:¬(cap=k+1):=Ry;have bb:(k:Int)<=(n:Int)+1:=Ry;have bd:¬(cap=k):=Ry;clear FQ FM E0 I FN Q hi EU Fh FP R b1 E FL c1 c2 ap hv a4 Z a6;go_enter func241,ntmps241
 go_wp2_with (simp only[a1])
 go_region_law (refine mZ rfl (.tmp 73) (.tmp 76) 27 27 rfl _ _ T8 T8 (T _ _ _) ?_)
 go_wp2_with (with_reducible refine lA _ rfl (.tmp 80) (.tmp 81) 27 27 rfl _ _ rfl rfl (ao _ _) ?_)
 go_ret
 exact⟨rfl,ac,ab⟩
def vf(B n D:Nat)(v:av)(us:bN)(x:av)(w:aa)(h:w.ownsRow B 3 1 v n us)(a3:x.oneCell'=true)(F:aW w D #[x] 3)(a2:n<=1048576)(J:B<=(w:Nat)):ax 241 #[v,n,.slice (aX D) 1 1] w fun e w'=>∃g cap,e=.returned (.slice (aX g) (n+1) cap)/\w'.ownsRow B 3 1 (.slice (aX g) (n+1) cap) (n+1) (bK us n x)/\w.grownBy w' v.ownBlock/\(v.ownBlock=some g∨(w:Nat)<=g):=by
 obtain⟨am,R,ab,ac,ad⟩:=cM fq;have E:us.length=n:=by simpa using h.1
 have T:bK us n x=us++[x]:=by simp[bK,<-E]
 have HI:=zH T;clear T;have U:Hd (∀j u,([x]:bN)[j]?=some u->w.cell? ((⟨D,0,none⟩:dw).add j)=some u):=fun j u z=>by
  match j,z with
  |0,z=>simp at z;subst z;rw[dy,aV F];rfl
  |j+1,z=>simp at z
 have I:Hd (∀u∈([x]:bN),u.oneCell'=true):=fun u Z=>by simp at Z;subst Z;exact a3
 have H:=zH h;rcases h.2 with⟨rfl,rfl⟩|⟨g,cap,cur,rfl,_,_,a5,a0,_⟩
 .clear h E F;go_enter func241,ntmps241
  go_wp2_with (at_builtin;refine wN _ rfl (.tmp 23) (.tmp 24) 27 rfl B 3 am (zI 0) 1 8 dA R ab ac ad rfl RC _ 0 us rfl H.o ⟨D,0,none⟩ 1 1 [x] rfl rfl U.o I.o RC RC RC J w.heap.size rfl ?_;intro g cap a4 Es Gv I9 a1)
  exact XS
 .unfold maxLen at a0;have O:(n+1)<=maxLen:=TB;have Q:(n+1)*8<=140737488355328:=Ry;obtain⟨ao,ap⟩:=bL O Q;clear h E F O Q a2;go_enter func241,ntmps241
  go_wp2_with (at_builtin;refine wN _ rfl (.tmp 23) (.tmp 24) 27 rfl B 3 am (zI 0) 1 8 dA R ab ac ad rfl RC _ n us rfl H.o ⟨D,0,none⟩ 1 1 [x] rfl rfl U.o I.o RC ao.o ap.o J w rfl ?_;intro g cap a4 Es Gv I9 a1)
  all_goals (go_ret;exact⟨g,cap,rfl,by rw[HI.o];exact Es,Gv,I9.imp id fun e=>Ry⟩)
def ue(J g n cap H:Nat)(i:Int)(us:bN)(x:av)(w:aa)(h:w.ownsRow J 3 1 (.slice (aX g) n cap) n us)(T:∀u∈us,u.oneCell'=true)(FT:x.oneCell'=true)(hv:aW w H #[x] 3)(hi:0<=i)(a9:i<n)(be:cap<n+1)(b7:n<=1048576)(a4:J<=(w:Nat)):ax 241 #[.slice (aX g) n cap,i,.slice (aX H) 1 1] w fun e w'=>∃G,e=.returned (.slice (aX w) (n+1) G)/\w'.ownsRow J 3 1 (.slice (aX w) (n+1) G) (n+1) (bK us i.toNat x)/\w.grownBy w' none:=by
 obtain⟨k,rfl⟩:=fW hi;obtain⟨a1,FR,a0,Fg,Ev⟩:=cM fq;have ao:(prog.info? 3).map (·.size)=some 1:=Tk;obtain⟨FQ,bd⟩:=h;rcases bd with⟨bp,_⟩|⟨bv,br,cur,bm,bz,O,b8,a6,ac,E0⟩
 .cases bp
 cases bm
 simp only[eP]at FQ ac E0;unfold maxLen at a6;have bb:k<n:=Ry;obtain rfl:n=cap:=Ry;have a8:g < (w:Nat):=(aP.1 O).1;have bo:H < (w:Nat):=(aP.1 hv).1;have EU:∀t,t<n->cur.toList[t]?=us[t]?:=fun t ht=>TX
 have am:(Builtin.firstCells a1.size k (.slice (aX g) k n)).run prog w.drew=.ok (us.take k).toArray w.drew:=by rw[Fg];exact run_firstCells_some w.drew 1 k ⟨g,0,none⟩ k n (us.take k) RX (fun j v hj=>by have ba:=(bs.1 hj).1;simp at ba;rw[dy,aV (show aW w.drew g cur 3 from O),fY,EU _ Ry,<-hj,fP,ar Ry])
 obtain⟨G,hG⟩:=aK (grownCap w (n+1) n 3);have a5:n+1<=G:=by rw[hG];exact grownCap_ge w _ _ _
 have b0:G<=9223372036854775807:=by have:=grownCap_le_maxLen w (n+1) n 3 TB;rw[<-hG]at this;unfold maxLen at this;omega
 obtain⟨D,I5⟩:∃D:gq,D=(us.take k).toArray++Builtin.zeroCells (Value.cells (zI 0)) (n+1-k)++Builtin.zeroCells (Value.cells (zI 0)) (G-(n+1)):=⟨_,rfl⟩;have I3:D.size=G:=Wo;have U:D.toList.take k=us.take k:=Yk;obtain⟨z,FI⟩:=aK (w.drew.alloc (.cells D 3));have bi:∀ty,(Builtin.append_ #[27,3] ty #[.slice (aX g) k n,.int .i64 ((n:Int)+1-(k:Int))]).run prog w=.ok (.slice (aX w) (n+1) G) z:=fun ty=>by have h:=Lib.run_append_grow_zeros (P:=prog) w 27 3 ty 3 a1 _ .i64 .i64 dA underlying3 FR a0 (some ⟨g,0,none⟩) k n (us.take k) am (n+1-k) Ry Ry Ry Ry SB WA;exact YP
 have Et:aW z w D 3:=Uj;have Q:∀q,q < (w:Nat)->z.heap[q]?=w.heap[q]?:=fun q I=>by rw[FI];exact bZ w.drew _ I
 have E:w.grownBy z none:=Wq;have ap:aW z H #[x] 3:=(Q H bo).trans hv;have ab:∀ty F,(Builtin.copy_ #[27,27] ty #[.slice (some ⟨w,k,none⟩) (n+1-k) F,.slice (aX H) 1 1]).run prog z=.ok (goInt [x]) (z.setCells w k [x]):=fun ty F=>
  pd z _ _ ty 3 w k (n+1-k) F ⟨H,0,none⟩ 1 1 [x] dA ao VK
   (fun j v hj=>by
    match j,hj with
    |0,hj=>simp at hj;subst hj;rw[dy,aV ap];rfl
    |j+1,hj=>simp at hj)
   (fun j hj=>VV) (fun j hj=>aS Et _) (fun v hv=>UC)
 obtain⟨B,Z⟩:=aK (z.setCells w k [x]);obtain⟨c1,c2⟩:=du w 3 [x] k z _ Et RX;rw[<-Z]at c1 c2 ab;obtain⟨ds,Fh⟩:=aK (us.drop k);have FP:ds.length=n-k:=TL;have I2:(splice D.toList k [x]).length=G:=VO;have ad:aW B g cur 3:=(c2.block g (by have:=E.size;omega) RX).trans ((Q g a8).trans O);have I6:B.drew.heap[w.heap.size]?=_:=c1;have I4:B.drew.heap[g]?=_:=ad;have a7:∀ty F R,(Builtin.copy_ #[27,27] ty #[.slice (some ⟨w,k+1,none⟩) (n-k) F,.slice (some ⟨g,k,none⟩) (n-k) R]).run prog B.drew=.ok (goInt ds) (B.drew.setCells w (k+1) ds):=fun ty F R=>
  pd B.drew _ _ ty 3 w (k+1) (n-k) F ⟨g,k,none⟩ (n-k) R ds dA ao VM
   (fun j v hj=>Wy)
   (fun j hj=>Wu) (fun j hj=>aS I6 _) (fun v hv=>T v (ky Tj))
 obtain⟨d1,d2⟩:=du w 3 ds (k+1) B.drew _ I6 UZ;have a3:=zH (show(B.drew.setCells w (k+1) ds).ownsRow J 3 1 (.slice (aX w) (n+1) G) (n+1) (bK us k x) by
  refine⟨TK,aB ⟨w,G,_,rfl,a4,d1,a5,TB,?_,?_⟩⟩
  .exact XB
  .simp only[eP];exact BD D.toList us ds n k x FQ RX bb Fh U)
 have a2:=zH (show w.grownBy (B.drew.setCells w (k+1) ds) none from
  ⟨d2.os.trans (c2.os.trans E.os),d2.tape.trans (c2.tape.trans E.tape),d2.output.trans (c2.output.trans E.output),bE E.size (bE c2.size d2.size),fun q I _=>
   (d2.block q (gz I (bE E.size c2.size)) RX).trans ((c2.block q (gz I E.size) RX).trans (Q q I))⟩)
 have cb:(n:Int) < (n:Int)+1:=Ry;have b6:k<=n:=Ry;have ca:IntKind.i64.wrap ((k:Int)+1)=(k:Int)+1:=Sq;have b3:(0:Int)<=(k:Int)+1:=Ry;have b9:((k:Int)+1).toNat=k+1:=Ry;have b1:¬(G=k):=Ry;have b2:¬(G=k+1):=Ry;have b5:¬(n=k):=Ry;have b4:(k:Int)<=(n:Int)+1:=Ry;clear FQ ac E0 O T hi EU Fh FP FI Z Et Q E ap I2 c1 c2 d1 d2 ad I6 I4 a9 hv a0 hG I5 I3 U am be;go_enter func241,ntmps241
 go_wp2_with (first
  |(at_builtin;refine Lib.wpList_append_run _ rfl (.tmp 34) (.tmp 39) _ _ rfl _ _ rfl rfl _ _ (bi _) ?_)
  |(with_reducible refine lA _ rfl (.tmp 43) (.tmp 44) 27 27 rfl _ _ rfl rfl (ab _ _) ?_))
 go_region_law (refine mZ rfl (.tmp 50) (.tmp 53) 27 27 rfl _ _ T8 T8 (a7 _ _ _) ?_)
 go_wp2;go_ret
 exact⟨G,rfl,a3,a2⟩
def zT(z n B:Nat)(i:Int)(v:av)(us:bN)(x:av)(w:aa)(h:w.ownsRow z 3 1 v n us)(H:∀u∈us,u.oneCell'=true)(F:x.oneCell'=true)(E:aW w B #[x] 3)(Q:v.ownBlock≠some B)(hi:0<=i)(T:i<=n)(D:n<=1048576)(I:z<=(w:Nat)):ax 241 #[v,i,.slice (aX B) 1 1] w fun e w'=>∃g cap,e=.returned (.slice (aX g) (n+1) cap)/\w'.ownsRow z 3 1 (.slice (aX g) (n+1) cap) (n+1) (bK us i.toNat x)/\w.grownBy w' v.ownBlock/\(v.ownBlock=some g∨(w:Nat)<=g):=by
 by_cases O:i=n
 .subst O;rw[Int.toNat_natCast];exact vf z n B v us x w h F E D I
 .have J:i<n:=Ry;obtain⟨g,cap,rfl,_,_⟩:=h.form Ry;by_cases R:n+1<=cap
  .refine(tm z g n cap B i us x w h H F E (by intro e;subst e;exact Q rfl) hi J R D).mono ?_;exact W8
  .refine(ue z g n cap B i us x w h H F E hi J Ry D I).mono ?_;exact YJ
def tn(F g n cap z:Nat)(i:Int)(us:bN)(x:av)(w:aa)(h:w.ownsRow F 27 1 (.slice (aX g) n cap) n us)(Q:∀u∈us,u.oneCell'=true)(FT:x.oneCell'=true)(hv:aW w z #[x] 27)(EH:z≠g)(hi:0<=i)(ap:i<n)(bo:n+1<=cap)(bi:n<=1048576):ax 225 #[.slice (aX g) n cap,i,.slice (aX z) 1 1] w fun e w'=>e=.returned (.slice (aX g) (n+1) cap)/\w'.ownsRow F 27 1 (.slice (aX g) (n+1) cap) (n+1) (bK us i.toNat x)/\w.grownBy w' (some g):=by
 obtain⟨k,rfl⟩:=fW hi;obtain⟨bz,FR,a6,Fg,bv⟩:=cM jf;have U:(prog.info? 27).map (·.size)=some 1:=Tk;obtain⟨FQ,a2⟩:=h;rcases a2 with⟨a5,_⟩|⟨a8,a7,cur,a3,ad,I,bm,am,FM,E0⟩
 .cases a5
 cases a3
 simp only[eP]at FQ FM E0;unfold maxLen at am;have a0:k<n:=Ry;have EU:∀t,t<n->cur.toList[t]?=us[t]?:=fun t ht=>TX
 have FN:aW w.drew g cur 27:=I;have a4:aW w.drew z #[x] 27:=hv;have a1:∀J H,(callFunc 226 #[.slice (aX z) 1 1,.slice (some ⟨g,k+1,none⟩) J H]).run prog w=.ok (.value (.bool false)) w:=fun J H=>by
  rw[run_callFunc_extern func226 RU RU RU (e:=Extern.SlicesOverlaps.overlaps #[24,24] #[4]) RU,
   Lib.run_overlaps_apart w 24 4 27 gE 1 Tryz.sizeOf27 ⟨z,0,none⟩ ⟨g,k+1,none⟩ 1 1 J H EH 27 27 1 cap (by simp[World.shape?,hv]) (by simp[World.shape?,I,FM]) Ry (aS hv _) (aS hv _)]
  rfl
 obtain⟨ds,Fh⟩:=aK (us.drop k);have FP:ds.length=n-k:=TL;have T:∀ty B O,(Builtin.copy_ #[24,24] ty #[.slice (some ⟨g,k+1,none⟩) (n-k) B,.slice (some ⟨g,k,none⟩) (n+1-k) O]).run prog w.drew=.ok (goInt ds) (w.drew.setCells g (k+1) ds):=fun ty B O=>
  pd w.drew _ _ ty 27 g (k+1) (n-k) B ⟨g,k,none⟩ (n+1-k) O ds gE U VM
   (fun j v hj=>Wx)
   (fun j hj=>Vu) (fun j hj=>aS FN _) (fun v hv=>Q v (ky Tj))
 obtain⟨D,R⟩:=aK (w.drew.setCells g (k+1) ds);obtain⟨b1,E⟩:=du g 27 ds (k+1) w.drew cur FN (by rw[FP];omega);rw[<-R]at b1 E T;have FL:(splice cur.toList (k+1) ds).length=cap:=We;have Z:aW D z #[x] 27:=(E.block z (aP.1 hv).1 SC).trans hv;have ao:∀ty B,(Builtin.copy_ #[24,24] ty #[.slice (some ⟨g,k,none⟩) (n+1-k) B,.slice (aX z) 1 1]).run prog D=.ok (goInt [x]) (D.setCells g k [x]):=fun ty B=>
  pd D _ _ ty 27 g k (n+1-k) B ⟨z,0,none⟩ 1 1 [x] gE U VK
   (fun j v hj=>by
    match j,hj with
    |0,hj=>simp at hj;subst hj;rw[dy,aV Z];rfl
    |j+1,hj=>simp at hj)
   (fun j hj=>Wv) (fun j hj=>aS b1 _) (fun v hv=>UC)
 obtain⟨c1,c2⟩:=du g 27 [x] k D _ b1 U8;have ac:=zH (show(D.setCells g k [x]).ownsRow F 27 1 (.slice (aX g) (n+1) cap) (n+1) (bK us k x) by
  refine⟨TK,aB ⟨g,cap,_,rfl,ad,c1,Ry,TB,?_,?_⟩⟩
  .exact XD
  .simp only[eP];exact D_ cur.toList us ds n k x E0 RX a0 Fh)
 have ab:=zH (bq (dG w (some g)) (bq E c2));have be:k<=n:=Ry;have br:IntKind.i64.wrap ((k:Int)+1)=(k:Int)+1:=Sq;have a9:(0:Int)<=(k:Int)+1:=Ry;have bp:((k:Int)+1).toNat=k+1:=Ry;have ba:¬(cap=k+1):=Ry;have bb:(k:Int)<=(n:Int)+1:=Ry;have bd:¬(cap=k):=Ry;clear FQ FM E0 I FN Q hi EU Fh FP R b1 E FL c1 c2 ap hv a4 Z a6;go_enter func225,ntmps225
 go_wp2_with (simp only[a1])
 go_region_law (refine mZ rfl (.tmp 73) (.tmp 76) 24 24 rfl _ _ T8 T8 (T _ _ _) ?_)
 go_wp2_with (with_reducible refine lA _ rfl (.tmp 80) (.tmp 81) 24 24 rfl _ _ rfl rfl (ao _ _) ?_)
 go_ret
 exact⟨rfl,ac,ab⟩
def vg(B n D:Nat)(v:av)(us:bN)(x:av)(w:aa)(h:w.ownsRow B 27 1 v n us)(a3:x.oneCell'=true)(F:aW w D #[x] 27)(a2:n<=1048576)(J:B<=(w:Nat)):ax 225 #[v,n,.slice (aX D) 1 1] w fun e w'=>∃g cap,e=.returned (.slice (aX g) (n+1) cap)/\w'.ownsRow B 27 1 (.slice (aX g) (n+1) cap) (n+1) (bK us n x)/\w.grownBy w' v.ownBlock/\(v.ownBlock=some g∨(w:Nat)<=g):=by
 obtain⟨am,R,ab,ac,ad⟩:=cM jf;have E:us.length=n:=by simpa using h.1
 have T:bK us n x=us++[x]:=by simp[bK,<-E]
 have HI:=zH T;clear T;have U:Hd (∀j u,([x]:bN)[j]?=some u->w.cell? ((⟨D,0,none⟩:dw).add j)=some u):=fun j u z=>by
  match j,z with
  |0,z=>simp at z;subst z;rw[dy,aV F];rfl
  |j+1,z=>simp at z
 have I:Hd (∀u∈([x]:bN),u.oneCell'=true):=fun u Z=>by simp at Z;subst Z;exact a3
 have H:=zH h;rcases h.2 with⟨rfl,rfl⟩|⟨g,cap,cur,rfl,_,_,a5,a0,_⟩
 .clear h E F;go_enter func225,ntmps225
  go_wp2_with (at_builtin;refine wN _ rfl (.tmp 23) (.tmp 24) 24 rfl B 27 am (.slice none 0 0) 1 24 gE R ab ac ad rfl RC _ 0 us rfl H.o ⟨D,0,none⟩ 1 1 [x] rfl rfl U.o I.o RC RC RC J w.heap.size rfl ?_;intro g cap a4 Es Gv I9 a1)
  exact XS
 .unfold maxLen at a0;have O:(n+1)<=maxLen:=TB;have Q:(n+1)*24<=140737488355328:=Ry;obtain⟨ao,ap⟩:=bL O Q;clear h E F O Q a2;go_enter func225,ntmps225
  go_wp2_with (at_builtin;refine wN _ rfl (.tmp 23) (.tmp 24) 24 rfl B 27 am (.slice none 0 0) 1 24 gE R ab ac ad rfl RC _ n us rfl H.o ⟨D,0,none⟩ 1 1 [x] rfl rfl U.o I.o RC ao.o ap.o J w rfl ?_;intro g cap a4 Es Gv I9 a1)
  all_goals (go_ret;exact⟨g,cap,rfl,by rw[HI.o];exact Es,Gv,I9.imp id fun e=>Ry⟩)
def uf(J g n cap H:Nat)(i:Int)(us:bN)(x:av)(w:aa)(h:w.ownsRow J 27 1 (.slice (aX g) n cap) n us)(T:∀u∈us,u.oneCell'=true)(FT:x.oneCell'=true)(hv:aW w H #[x] 27)(hi:0<=i)(a9:i<n)(be:cap<n+1)(b7:n<=1048576)(a4:J<=(w:Nat)):ax 225 #[.slice (aX g) n cap,i,.slice (aX H) 1 1] w fun e w'=>∃G,e=.returned (.slice (aX w) (n+1) G)/\w'.ownsRow J 27 1 (.slice (aX w) (n+1) G) (n+1) (bK us i.toNat x)/\w.grownBy w' none:=by
 obtain⟨k,rfl⟩:=fW hi;obtain⟨a1,FR,a0,Fg,Ev⟩:=cM jf;have ao:(prog.info? 27).map (·.size)=some 1:=Tk;obtain⟨FQ,bd⟩:=h;rcases bd with⟨bp,_⟩|⟨bv,br,cur,bm,bz,O,b8,a6,ac,E0⟩
 .cases bp
 cases bm
 simp only[eP]at FQ ac E0;unfold maxLen at a6;have bb:k<n:=Ry;obtain rfl:n=cap:=Ry;have a8:g < (w:Nat):=(aP.1 O).1;have bo:H < (w:Nat):=(aP.1 hv).1;have EU:∀t,t<n->cur.toList[t]?=us[t]?:=fun t ht=>TX
 have am:(Builtin.firstCells a1.size k (.slice (aX g) k n)).run prog w.drew=.ok (us.take k).toArray w.drew:=by rw[Fg];exact run_firstCells_some w.drew 1 k ⟨g,0,none⟩ k n (us.take k) RX (fun j v hj=>by have ba:=(bs.1 hj).1;simp at ba;rw[dy,aV (show aW w.drew g cur 27 from O),fY,EU _ Ry,<-hj,fP,ar Ry])
 obtain⟨G,hG⟩:=aK (grownCap w (n+1) n 27);have a5:n+1<=G:=by rw[hG];exact grownCap_ge w _ _ _
 have b0:G<=9223372036854775807:=by have:=grownCap_le_maxLen w (n+1) n 27 TB;rw[<-hG]at this;unfold maxLen at this;omega
 obtain⟨D,I5⟩:∃D:gq,D=(us.take k).toArray++Builtin.zeroCells (Value.cells (.slice none 0 0)) (n+1-k)++Builtin.zeroCells (Value.cells (.slice none 0 0)) (G-(n+1)):=⟨_,rfl⟩;have I3:D.size=G:=Wo;have U:D.toList.take k=us.take k:=Yk;obtain⟨z,FI⟩:=aK (w.drew.alloc (.cells D 27));have bi:∀ty,(Builtin.append_ #[24,3] ty #[.slice (aX g) k n,.int .i64 ((n:Int)+1-(k:Int))]).run prog w=.ok (.slice (aX w) (n+1) G) z:=fun ty=>by have h:=Lib.run_append_grow_zeros (P:=prog) w 24 3 ty 27 a1 _ .i64 .i64 gE underlying3 FR a0 (some ⟨g,0,none⟩) k n (us.take k) am (n+1-k) Ry Ry Ry Ry SB WA;exact YP
 have Et:aW z w D 27:=Uj;have Q:∀q,q < (w:Nat)->z.heap[q]?=w.heap[q]?:=fun q I=>by rw[FI];exact bZ w.drew _ I
 have E:w.grownBy z none:=Wq;have ap:aW z H #[x] 27:=(Q H bo).trans hv;have ab:∀ty F,(Builtin.copy_ #[24,24] ty #[.slice (some ⟨w,k,none⟩) (n+1-k) F,.slice (aX H) 1 1]).run prog z=.ok (goInt [x]) (z.setCells w k [x]):=fun ty F=>
  pd z _ _ ty 27 w k (n+1-k) F ⟨H,0,none⟩ 1 1 [x] gE ao VK
   (fun j v hj=>by
    match j,hj with
    |0,hj=>simp at hj;subst hj;rw[dy,aV ap];rfl
    |j+1,hj=>simp at hj)
   (fun j hj=>VV) (fun j hj=>aS Et _) (fun v hv=>UC)
 obtain⟨B,Z⟩:=aK (z.setCells w k [x]);obtain⟨c1,c2⟩:=du w 27 [x] k z _ Et RX;rw[<-Z]at c1 c2 ab;obtain⟨ds,Fh⟩:=aK (us.drop k);have FP:ds.length=n-k:=TL;have I2:(splice D.toList k [x]).length=G:=VO;have ad:aW B g cur 27:=(c2.block g (by have:=E.size;omega) RX).trans ((Q g a8).trans O);have I6:B.drew.heap[w.heap.size]?=_:=c1;have I4:B.drew.heap[g]?=_:=ad;have a7:∀ty F R,(Builtin.copy_ #[24,24] ty #[.slice (some ⟨w,k+1,none⟩) (n-k) F,.slice (some ⟨g,k,none⟩) (n-k) R]).run prog B.drew=.ok (goInt ds) (B.drew.setCells w (k+1) ds):=fun ty F R=>
  pd B.drew _ _ ty 27 w (k+1) (n-k) F ⟨g,k,none⟩ (n-k) R ds gE ao VM
   (fun j v hj=>Wy)
   (fun j hj=>Wu) (fun j hj=>aS I6 _) (fun v hv=>T v (ky Tj))
 obtain⟨d1,d2⟩:=du w 27 ds (k+1) B.drew _ I6 UZ;have a3:=zH (show(B.drew.setCells w (k+1) ds).ownsRow J 27 1 (.slice (aX w) (n+1) G) (n+1) (bK us k x) by
  refine⟨TK,aB ⟨w,G,_,rfl,a4,d1,a5,TB,?_,?_⟩⟩
  .exact XB
  .simp only[eP];exact BD D.toList us ds n k x FQ RX bb Fh U)
 have a2:=zH (show w.grownBy (B.drew.setCells w (k+1) ds) none from
  ⟨d2.os.trans (c2.os.trans E.os),d2.tape.trans (c2.tape.trans E.tape),d2.output.trans (c2.output.trans E.output),bE E.size (bE c2.size d2.size),fun q I _=>
   (d2.block q (gz I (bE E.size c2.size)) RX).trans ((c2.block q (gz I E.size) RX).trans (Q q I))⟩)
 have cb:(n:Int) < (n:Int)+1:=Ry;have b6:k<=n:=Ry;have ca:IntKind.i64.wrap ((k:Int)+1)=(k:Int)+1:=Sq;have b3:(0:Int)<=(k:Int)+1:=Ry;have b9:((k:Int)+1).toNat=k+1:=Ry;have b1:¬(G=k):=Ry;have b2:¬(G=k+1):=Ry;have b5:¬(n=k):=Ry;have b4:(k:Int)<=(n:Int)+1:=Ry;clear FQ ac E0 O T hi EU Fh FP FI Z Et Q E ap I2 c1 c2 d1 d2 ad I6 I4 a9 hv a0 hG I5 I3 U am be;go_enter func225,ntmps225
 go_wp2_with (first
  |(at_builtin;refine Lib.wpList_append_run _ rfl (.tmp 34) (.tmp 39) _ _ rfl _ _ rfl rfl _ _ (bi _) ?_)
  |(with_reducible refine lA _ rfl (.tmp 43) (.tmp 44) 24 24 rfl _ _ rfl rfl (ab _ _) ?_))
 go_region_law (refine mZ rfl (.tmp 50) (.tmp 53) 24 24 rfl _ _ T8 T8 (a7 _ _ _) ?_)
 go_wp2;go_ret
 exact⟨G,rfl,a3,a2⟩
def rA(z n B:Nat)(i:Int)(v:av)(us:bN)(x:av)(w:aa)(h:w.ownsRow z 27 1 v n us)(H:∀u∈us,u.oneCell'=true)(F:x.oneCell'=true)(E:aW w B #[x] 27)(Q:v.ownBlock≠some B)(hi:0<=i)(T:i<=n)(D:n<=1048576)(I:z<=(w:Nat)):ax 225 #[v,i,.slice (aX B) 1 1] w fun e w'=>∃g cap,e=.returned (.slice (aX g) (n+1) cap)/\w'.ownsRow z 27 1 (.slice (aX g) (n+1) cap) (n+1) (bK us i.toNat x)/\w.grownBy w' v.ownBlock/\(v.ownBlock=some g∨(w:Nat)<=g):=by
 by_cases O:i=n
 .subst O;rw[Int.toNat_natCast];exact vg z n B v us x w h F E D I
 .have J:i<n:=Ry;obtain⟨g,cap,rfl,_,_⟩:=h.form Ry;by_cases R:n+1<=cap
  .refine(tn z g n cap B i us x w h H F E (by intro e;subst e;exact Q rfl) hi J R D).mono ?_;exact W8
  .refine(uf z g n cap B i us x w h H F E hi J Ry D I).mono ?_;exact YJ
def tmod_neg{a:Int}(h:a<0)(E:0<p):-p<a.tmod p/\a.tmod p<=0/\(a.tmod p<0->a%p=a.tmod p+p)/\(a.tmod p=0->a%p=0):=by
 have e:a.tmod p=-((-a)%p):=by have:=Int.neg_tmod (-a) p;rw[Int.neg_neg]at this;rw[this,Int.tmod_eq_emod_of_nonneg Ry]
 have F:=gI (-a) (Ry:p≠0);have H:=gJ (-a) E;refine⟨Ry,Ry,fun I=>?_,fun B=>?_⟩
 .have D:a%p=(a.tmod p+p)%p:=by
   have:=Int.tmod_add_mul_tdiv a p;have z:a=a.tmod p+p*a.tdiv p:=this.symm;conv=>lhs;rw[z]
   simp
  rw[D,lO Ry Ry]
 .have z:a=a.tmod p+p*a.tdiv p:=(Int.tmod_add_mul_tdiv a p).symm;rw[z,B];simp
def Dc(p a:Int)(w:aa)(U:1<=p)(Z:p<=1000)(Q:-9000000000000000000<=a)(R:a<=9000000000000000000):ax 143 (bI p a) w fun e w'=>e=.returned (zI (a%p))/\w=w':=by
 by_cases h:0<=a
 .have O:=gI a (Ry:p≠0);go_enter func143,ntmps143
  exact WE
 .obtain⟨I,J,B,D⟩:=tmod_neg (Ry:a<0) (Ry:0<p);obtain⟨m,z⟩:=aK (a.tmod p);rw[<-z]at I J B D;obtain⟨E,F⟩:=bL B D;clear B D;have T:a.tmod p=m:=z.symm;clear z;by_cases H:m<0
  .go_enter func143,ntmps143
   go_wp2;go_ret
   exact⟨by rw[E.o H];rfl,rfl⟩
  .obtain rfl:m=0:=Ry;go_enter func143,ntmps143
   go_wp2;go_ret
   exact⟨by rw[show a%p=0 from by simpa using F.o];rfl,rfl⟩
def zim{b y:Int}(B:-1000000<=b)(D:b<=1000000)(z:0<=y)(H:y<=1000):-1000000000<=b*y/\b*y<=1000000000:=by have E:=DG B z;have F:=DG D z;omega
def zfR(z:aj W w')(h:aW W b cs t)(j:Nat):w'.cell? ⟨b,j,none⟩=cs.toList[j]?:=aV ((z.block b (aP.1 h).1).trans h) j
def zin(z:aj W w')(h:aW W b cs t)(j:Nat):w'.frozen? ⟨b,j,none⟩=false:=aS ((z.block b (aP.1 h).1).trans h) j
def cp(z:aj W w')(h:aW W b cs t):aW w' b cs t:=(z.block b (aP.1 h).1).trans h
def cv(w:aa)(z B D:Obj):(((w.alloc z).alloc B).alloc D).heap[w.heap.size]?=some z/\(((w.alloc z).alloc B).alloc D).heap[(w:Nat)+1]?=some B/\(((w.alloc z).alloc B).alloc D).heap[(w:Nat)+1+1]?=some D:=⟨(bZ _ _ Sn).trans ((bZ _ _ Rx).trans (aD _ _ rfl)),(bZ _ _ Rx).trans (aD _ _ Rx),aD _ _ Rx⟩
def below_alloc3(w:aa)(z B D:Obj):Below w w (((w.alloc z).alloc B).alloc D):=((ai _ _).alloc Rx _ |>.alloc Rx _).alloc Sn _
def cD{a p:dw}(h:p.block≠a.block):(w.setCell a u).cell? p=w.cell? p:=zl (w:=w) (bx _ _ _ _ h)
def j_{a p:dw}(h:p.block≠a.block):(w.setCell a u).drew.cell? p=w.cell? p:=cD h
def eC{a p:dw}(h:p.block≠a.block):(w.drew.setCell a u).cell? p=w.cell? p:=cD h
def kN(p b:Int)(xs ys:aH)(k:Nat):List Int:=(List.zipWith (fun x y=>(x+b*y)%p) xs ys).take k++xs.drop k
def cV(p b:Int)(xs ys:aH):List Int:=List.zipWith (fun x y=>(x+b*y)%p) xs ys
def um(p b:Int)(xs ys:aH):kN p b xs ys 0=xs:=by simp[kN]
def xo(p b:Int)(xs ys:aH)(h:xs.length=ys)(k:Nat)(z:ys.length<=k):kN p b xs ys k=cV p b xs ys:=by unfold kN cV;rw[fO RX,nx Ry,mv]
def xp(p b:Int)(xs ys:aH)(k:Nat)(z:k<ys.length)(h:xs.length=ys):(kN p b xs ys k)[k]?=xs[k]?:=by unfold kN;exact WS
def xq(p b:Int)(xs ys:aH)(k:Nat)(x y:Int)(hx:xs[k]?=some x)(z:ys[k]?=some y):(kN p b xs ys k).set k ((x+b*y)%p)=kN p b xs ys (k+1):=by
 have h1:=(bs.1 hx).1;have F:=(bs.1 z).1;have E:(List.zipWith (fun x y=>(x+b*y)%p) xs ys)[k]?=some ((x+b*y)%p):=by rw[wC,hx,z]
 unfold kN;rw[tj _ _ RX,fZ,E];have B:xs.drop k=x::xs.drop (k+1):=WR;have D:k-((List.zipWith (fun x y=>(x+b*y)%p) xs ys).take k).length=0:=RX;rw[B,D,jK];simp
def zd6(p b:Int)(xs ys:aH)(k:Nat)(h:xs.length=ys)(z:k<=xs.length):(kN p b xs ys k).length=xs:=by unfold kN;simp;omega
def vw(p b:Int)(H g cap am:Nat)(A2:aq)(xs ys:aH)(w:aa)(a2:1<=p)(a3:p<=1000)(ao:-1000000<=b)(ap:b<=1000000)(h:w.ownsRow H 3 1 (.slice (aX g) xs cap) xs (xs.map (Value.int .i64)))(O:aU w A2 ys)(Q:∀b o,A2=some ⟨b,o,none⟩->b≠g)(T:xs.length=ys)(a1:xs.length<=1048576)(z:∀x∈xs,0<=x/\x<=1000)(B:∀y∈ys,0<=y/\y<=1000):ax 147 #[p,.slice (aX g) xs cap,b,.slice A2 ys am] w fun e w'=>e=.returned (.tuple #[])/\w'.ownsRow H 3 1 (.slice (aX g) xs cap) xs ((cV p b xs ys).map (Value.int .i64))/\w.grownBy w' (some g):=by
 obtain⟨Z,HL,ac,ad⟩:=fS h T z B;have ba:ys.length<9223372036854775807:=Ry;clear h T z B a1;go_enter func147,ntmps147
 go_wp2;go_loopw [12] (fun i wr=>∃k:Nat,k<=ys.length/\i=.int .i64 k/\wr.ownsRow H 3 1 (.slice (aX g) xs cap) xs ((kN p b xs ys k).map (Value.int .i64))/\w.grownBy wr (some g))
  (fun i _=>ys.length-(intOf i).toNat)
 case atStart=>exact⟨0,aT _,rfl,by rw[um];exact Z,⟨rfl,rfl,rfl,ah _,fun _ _ _=>rfl⟩⟩
 case round=>
  obtain⟨k,a9,rfl,D,E⟩:=hrel;by_cases I:k<ys.length
  .have a0:k<xs.length:=S7;obtain⟨x,z⟩:=aw a0;obtain⟨y,B⟩:=aw I;obtain⟨J,o,rfl,R⟩:=O.here I;have a7:af wr J (o+k) (zI y):=E.cell (R _ _ B) (by have:=Q J o rfl;simpa using this);have a6:af wr g k (zI x):=by rw[D.cellAt k Ry,bR,xp _ _ _ _ _ I HL,z];rfl
   have a8:=D.frozenAt k;obtain⟨be,bi⟩:=ac x (aR z);obtain⟨a4,a5⟩:=ad y (aR B);obtain⟨bb,bd⟩:=zim ao ap a4 a5;have F:=D.stored k (zI ((x+b*y)%p));rw[<-fQ,xq _ _ _ _ _ _ _ z B]at F;obtain⟨ab,U⟩:=bL F.1 (bq E F.2);clear F z B R D E O Q;go_wp2_with (go_at_call 143;refine(Dc _ _ _ a2 a3 Ry Ry).mono ?_;rintro e w' ⟨rfl,rfl⟩)
   go_roundw
   case rel=>exact⟨k+1,Ry,RB,ab,U.o⟩
   case measure=>simp[intOf];omega
  .go_wp2;go_end0
   rw[xo _ _ _ _ HL.o _ Ry]at D;exact⟨rfl,D,E⟩
def zjd{P:lk}{S:iQ}(hi:Q.toList[i]?=some Rm)(H:Region.noSelect Q=true)(E:Region.free Q_ Q Rt i=true)(F:(Region.ready Q_ Q Rt).contains i=true)(I:YieldsIf P Q S Rm v a)(B:S w)(h:wpAnyH P Q_ Q (fun e a w=>R e a w) S D (Rt.setIfInBounds i true) (a.put Rm.dst v) w)(z:∀c a w,R (.panic c) (a.put Rm.dst v) w->R (.panic c) a w:=by exact fun _ _ _ h=>h):wpAnyH P Q_ Q R S (D+1) Rt a w:=wpAnyH_take (by rw[<-qM];exact hi) H E F z I B h
def cE{P:lk}{S:iQ}(i:Nat){z:Act}(h:wpAnyH P Q_ Q (fun e a w=>R e a w) S D (Rt.setIfInBounds i true) z w)(hi:Q.toList[i]?=some Rm:=by rfl)(I:Region.wanted Rm (yielded Q a.tmps)=true:=by rfl)(T:∀w,S w->(execOp a.eval Rm).run P w=.ok (.value v) w:=by intro w h;(try dsimp only at h);go_simp;(try with_reducible rfl))(O:Region.noSelect Q=true:=by kernel_rfl)(H:Region.free Q_ Q Rt i=true:=by kernel_rfl)(J:(Region.ready Q_ Q Rt).contains i=true:=by kernel_rfl)(E:S w:=by assumption)(B:∀c a w,R (.panic c) (a.put Rm.dst v) w->R (.panic c) a w:=by exact fun _ _ _ h=>h)(F:a.put Rm.dst v=z:=by simp only[Act.put,zA];rfl):wpAnyH P Q_ Q R S (D+1) Rt a w:=by subst F;exact zjd hi O H J (aG ⟨I,T⟩) E h B
def i_{P:lk}{S:iQ}{rs:bW}(ho:Q.toList[i]?=some o)(h:∀K':oS,Shut (∀a w,S w->(S w->wpAnyH P Q_ Q R S D (Rt.setIfInBounds i true) a w)->K' a w)->if Region.wanted o (yielded Q a.tmps)=true then Oper.wp P o a w K' R else K' (a.put o.dst undef) w)(z:AllReadyH P Q_ Q R S D Rt a w rs):AllReadyH P Q_ Q R S D Rt a w (i::rs):=AllReadyH.cons S6 h z
def sw(i j k:Nat):Nat:=if k=j then i else if k=i then j else k
def zfB{l:Nat}(h:sw i j k=sw i j l):k=l:=by unfold sw at h;split at h<;>split at h<;>(try split at h)<;>(try split at h)<;>omega
def lD{E:Type}{l:List E}{x y:E}(hi:l[i]?=some x)(D:l[j]?=some y)(k:Nat):((l.set i y).set j x)[k]?=l[sw i j k]?:=by
 have hi':=(bs.1 hi).1;have F:=(bs.1 D).1;unfold sw;by_cases z:k=j
 .subst z;rw[ar rfl,dJ (by simpa using F),hi]
 .rw[ak z,df (fX z)];by_cases B:k=i
  .subst B;rw[ar rfl,dJ hi',D]
  .rw[ak B,df (fX B)]
def a_.mono{w:aa}{z B':Nat}{v:av}{rows:aC}{us:bN}(h:a_ w z v rows us)(E:B'<=z):a_ w B' v rows us:=⟨⟨h.outer.1,h.outer.2.imp id fun⟨g,cap,cur,B,I,D⟩=>⟨g,cap,cur,B,Ry,D⟩⟩,fun k u r H F=>(h.each k u r H F).mono E,h.apart⟩
def a_.swap{g cap:Nat}{rows:aC}(J:n=rows.length)(h:a_ w D (.slice (aX g) n cap) rows us)(hi:us[i]?=some H)(hj:us[j]?=some Rw)(O:rows[i]?=some Rq)(Q:rows[j]?=some Rd):a_ ((w.setCell ⟨g,i,none⟩ Rw).setCell ⟨g,j,none⟩ H) D (.slice (aX g) n cap) ((rows.set i Rd).set j Rq) ((us.set i Rw).set j H):=by
 subst J;have z:=h.outer.stored i Rw;have B:=z.1.stored j H;refine⟨by simpa using B.1,fun k u r hu I=>?_,fun k l u u' b hu EZ hb Gw=>?_⟩
 .rw[lD hi hj]at hu;rw[lD O Q]at I;have F:=h.each _ u r hu I;have E:=eT h.outer F;exact au.kept (au.kept F z.2 E) B.2 E
 .exact Xt
def fv(B:w.ownsRow D 27 1 v n us)(h:au w B' u xs):v.ownBlock=none∨v.ownBlock≠u.ownBlock:=by
 rcases eT B h with z|z
 .rw[z];cases v.ownBlock <;>simp
 .exact aB (fX z)
def a_.mod{rows:aC}(h:a_ w D v rows us)(J:us[k]?=some u)(U:w.grownBy w' u.ownBlock)(ac:au w' D H r')(Z:∀b,H.ownBlock=some b->u.ownBlock=some b∨(w:Nat)<=b):w'.ownsRow D 27 1 v rows.length us/\(∀(j:Nat) (x:av) (r:aH),(us.set k H)[j]?=some x->(rows.set k r')[j]?=some r->au w' D x r)/\(∀(i j:Nat) (x y:av) (b:Nat),(us.set k H)[i]?=some x->(us.set k H)[j]?=some y->x.ownBlock=some b->y.ownBlock=some b->i=j):=by
 obtain⟨am,ad,ab⟩:=h.lp J;have O:=(bs.1 J).1;have other:∀(i:Nat) (x:av) (b:Nat),i≠k->us[i]?=some x->x.ownBlock=some b->H.ownBlock=some b->False:=fun i x b hi z B I=>by
  obtain⟨ao,_,R⟩:=h.lp z;rcases Z b I with T|T
  .exact hi (h.apart i k x u b z J B T)
  .have:=(R.lt b B).2;omega
 refine⟨ic h.outer U (fv h.outer ab),fun j x r z Q=>?_,fun i j x y b z F B I=>?_⟩
 .by_cases E:k=j
  .subst E;rw[dJ O]at z;rw[dJ (by rw[<-h.len];exact O)]at Q;cases z;cases Q;exact ac
  .rw[df E]at z Q;have R:=h.each j x r z Q;refine R.kept U ?_;rcases B:x.ownBlock with _|b
   .exact aG rfl
   .refine aB fun e=>E (h.apart k j u x b J z e.symm B)
 .by_cases hi:k=i <;>by_cases E:k=j
  .omega
  .subst hi;rw[dJ O]at z;rw[df E]at F;cases z
   exact(other j y b (fX E) F I B).elim
  .subst E;rw[dJ O]at F;rw[df hi]at z;cases F
   exact(other i x b (fX hi) z B I).elim
  .rw[df hi]at z;rw[df E]at F;exact h.apart i j x y b z F B I
def jy{B:Type}{l:List B}{x:B}(h:l[k]?=some x):l.set k x=l:=by
 apply eQ;intro j;by_cases z:k=j
 .subst z;rw[dJ (bs.1 h).1,h]
 .rw[df z]
def a_.inner{rows:aC}(h:a_ w D v rows us)(E:us[k]?=some u)(I:w.grownBy w' u.ownBlock)(J:au w' D u r'):a_ w' D v (rows.set k r') us:=by
 obtain⟨F,z,B⟩:=h.mod E I J fun b H=>aG H
 rw[jy E]at z B;exact⟨by simpa using F,z,B⟩
def a_.put{g cap:Nat}{rows:aC}(T:n=rows.length)(h:a_ w D (.slice (aX g) n cap) rows us)(R:us[k]?=some u)(Q:w.grownBy w' u.ownBlock)(U:au w' D H r')(O:∀b,H.ownBlock=some b->u.ownBlock=some b∨(w:Nat)<=b):a_ (w'.setCell ⟨g,k,none⟩ H) D (.slice (aX g) n cap) (rows.set k r') (us.set k H):=by subst T;obtain⟨z,B,J⟩:=h.mod R Q U O;have F:=z.stored k H;exact⟨by simpa using F.1,fun j x r I E=>(B j x r I E).kept F.2 (eT z (B j x r I E)),J⟩
def gG{z:Type}(l:List z)(k j:Nat):(l.eraseIdx k)[j]?=l[if j<k then j else j+1]?:=by rw[List.getElem?_eraseIdx];split <;>rfl
def a_.erase{g cap:Nat}{rows:aC}(h:a_ w D (.slice (aX g) n cap) rows us)(Q:k<rows.length)(F:w'.ownsRow D 27 1 (.slice (aX g) (rows.length-1) J) (rows.length-1) (us.eraseIdx k))(O:w.grownBy w' (some g)):a_ w' D (.slice (aX g) (rows.length-1) J) (rows.eraseIdx k) (us.eraseIdx k):=by
 refine⟨by rw[mj Q];exact F,fun j x r z B=>?_,fun i j x y b z E H I=>?_⟩
 .rw[gG]at z B;exact(h.each _ x r z B).kept O (eT h.outer (h.each _ x r z B))
 .rw[gG]at z E;have:=h.apart _ _ x y b z E H I;split at this <;>split at this <;>omega
def jA{z:Type}(l:List z)(k:Nat)(x:z)(h:k<=l.length):(l.take k++x::l.drop k).length=l+1:=Sn
def kh{D:Type}(l:List D)(k j:Nat)(x:D)(h:k<=l.length):(l.take k++x::l.drop k)[j]?=if j<k then l[j]? else if j=k then some x else l[j-1]?:=by
 by_cases z:j<k
 .rw[ar z,dr Sn,List.getElem?_take_of_lt z]
 .rw[ak z,gD Sn];by_cases B:j=k
  .subst B;rw[ar rfl];simp[iV h]
  .rw[ak B];obtain⟨m,rfl⟩:∃m,j=k+1+m:=⟨j-(k+1),Ry⟩;have E:k+1+m-(l.take k).length=m+1:=by simp[iV h];omega
   have F:k+1+m-1=k+m:=Ry;rw[E,F,cT,fI]
def a_.insert{r:aH}{rows:aC}(h:a_ E D v rows us)(hb:aj E w)(I:au w E u r)(O:D<=(E:Nat))(hk:k<=rows.length)(Q:w'.ownsRow D 27 1 v' (rows.length+1) (bK us k u))(Gv:w.grownBy w' v.ownBlock):a_ w' D v' (rows.take k++r::rows.drop k) (bK us k u):=by
 have hW:=h.ext hb;have J:k<=us.length:=Ts;have new:∀(i:Nat) (x:av) (b:Nat),us[i]?=some x->x.ownBlock=some b->u.ownBlock=some b->False:=fun i x b hx hb Gw=>by obtain⟨rx,_,R⟩:=h.lp hx;have:=(R.lt b hb).2;have:=(I.lt b Gw).1;omega
 refine⟨by rw[jA _ _ _ hk];exact Q,fun j x rx hx hr=>?_,fun i j x y b hx hy hb Gw=>?_⟩
 .rw[bK,kh _ _ _ _ J]at hx;rw[kh _ _ _ _ hk]at hr;by_cases B:j<k
  .rw[ar B]at hx hr;exact XC
  .rw[ak B]at hx hr;by_cases F:j=k
   .rw[ar F]at hx hr;cases hx;cases hr
    exact(I.kept Gv (eT hW.outer I)).mono O
   .rw[ak F]at hx hr;exact XC
 .rw[bK,kh _ _ _ _ J]at hx hy;by_cases B:i<k <;>by_cases F:j<k
  .rw[ar B]at hx;rw[ar F]at hy;exact h.apart _ _ x y b hx hy hb Gw
  .rw[ar B]at hx;rw[ak F]at hy;by_cases z:j=k
   .rw[ar z]at hy;cases hy;exact(new i x b hx hb Gw).elim
   .rw[ak z]at hy;exact WO
  .rw[ak B]at hx;rw[ar F]at hy;by_cases z:i=k
   .rw[ar z]at hx;cases hx;exact(new j y b hy Gw hb).elim
   .rw[ak z]at hx;exact WO
  .rw[ak B]at hx;rw[ak F]at hy;by_cases z:i=k <;>by_cases H:j=k
   .omega
   .rw[ar z]at hx;rw[ak H]at hy;cases hx;exact(new _ y b hy Gw hb).elim
   .rw[ak z]at hx;rw[ar H]at hy;cases hy;exact(new _ x b hx hb Gw).elim
   .rw[ak z]at hx;rw[ak H]at hy;exact WO
def kH{cap:Nat}{rows:aC}(h:a_ w D (.slice A n cap) rows us)(E:0<rows.length):∃g,A=some ⟨g,0,none⟩/\D<=g/\g < (w:Nat):=by obtain⟨g,F,e,z,B⟩:=h.outer.form E;simp only[ez]at e;exact⟨g,e.1,z,B⟩
def kU{cap:Nat}(h:au w D (.slice A n cap) xs)(E:0<xs.length):∃g,A=some ⟨g,0,none⟩/\D<=g/\g < (w:Nat):=by obtain⟨g,F,e,z,B⟩:=lR h E;simp only[ez]at e;exact⟨g,e.1,z,B⟩
end Go.Proofs.YtdpgblncijojiaaGreatDoor
