/- Parts of the walks. Conditions: as stated with each. -/
import Derived.Test.YtdpgblncijojiaaGreatDoorPk28
import Derived.Test.YtdpgblncijojiaaGreatDoorPk29
namespace Go.Proofs.YtdpgblncijojiaaGreatDoor
open Go.RowKit Tryz
set_option linter.all false
set_option maxHeartbeats 8000000
set_option maxRecDepth 100000
variable{A:an}{B B' c n:Nat}{E w w' wr:aa}{X:List cS}{e:Ending}{p:Int}{s:Sy}{u v:au}
def tK(p:Int)(s:Sy)(xs:List cS)(n:Nat):List Sy:=(List.range n).map (dC p s xs)
def zec(p:Int)(s:Sy)(xs:List cS)(n:Nat):tK p s xs (n+1)=tK p s xs n++[dC p s xs n]:=by simp[tK,oE]
def zJ(p:Int)(s:Sy)(xs:List cS)(n:Nat):(tK p s xs n).length=n:=by simp[tK]
def zam(p:Int)(s:Sy)(xs:List cS)(n k:Nat)(h:k<n):(tK p s xs n)[k]?=some (dC p s xs k):=by simp[tK,h]
def CL(p:Int)(s:Sy)(x:cS)(A:an)(cap:Nat)(w:aa)(z:an)(E:Nat)(I:aX w A s.rows)(J:aT w z x.row)(R:s.Ok p)(Q:eI p s x=true):aw 37 (eB p (ae s.v s.h A s.rows cap) (bB x.k x.a x.b x.c z x.row E)) w fun e w'=>∃A2 c2,e=.returned (.agg (dj (cE p s x).v (cE p s x).h A2 (cE p s x).rows c2))/\aJ w' w (.slice A2 (cE p s x).rows c2) (cE p s x).rows/\ai w w':=by
 refine(zE p s.v s.h x.k x.a x.b x.c A cap s.rows w z x.row E I J R Q).mono fun e w' O=>?_
 obtain⟨u,F,D,H⟩:=O;obtain⟨A2,c2,rfl,_⟩:=D.view;exact⟨A2,c2,F,D,H⟩
def zcK(p:Int)(s:Sy)(xs:List cS)(w:aa)(e:Ending)(w':aa):Prop:=
 ∃g cap,e=.returned (.slice (aY g) (bO p s xs+1) cap)/\lq w' w (.slice (aY g) (bO p s xs+1) cap) (tK p s xs (bO p s xs+1))/\ai w w'
def zik(p:Int)(s:Sy)(xs:List cS)(w:aa)(k:Nat)(u:au)(wr:aa):Prop:=
 k<=bO p s xs/\∃g m cap,m=k+1/\u=.slice (aY g) m cap/\lq wr w u (tK p s xs (k+1))/\ai w wr
def BU(p:Int)(s:Sy)(A:an)(cap:Nat)(xs:List cS)(w:aa)(a1:an)(b6:Nat)(cy:aX w A s.rows)(cF:eD w a1 xs)(b1:s.Ok p)(e4:xs.length<=3000)(c8:∀x∈xs,x.row.length<=1048576):aw 50 (jv p (ae s.v s.h A s.rows cap) a1 xs b6) w (zcK p s xs w):=by
 have hs:=b1.small;obtain⟨ce,eg,Ft,d5,cc,ca⟩:=mA cy cF b1 c8 (show s.rows.length<=1048576 by have:=hs.n;omega) (show ∀r∈s.rows,r.length<=1048576 from fun r hr=>Uy);clear cy cF b1 c8 hs;have a7:=zH ((aj w w).alloc (ag _) (.cells (ae s.v s.h A s.rows cap) 26));go_enter func50,ntmps50
 go_wp2_with (go_at_call 76;refine(iF _ _ _ _ _ _ (ce.ext a7) cc ca).mono ?_;rintro e b5 ⟨u,rfl,b4,cI⟩;obtain⟨A1,c1,rfl,_⟩:=b4.view;have cn:=zH b4;have b8:=zH cI;clear b4 cI)
 have dT:zik p s xs w 0 (.slice (aY b5) 1 1) (b5.alloc (.cells (ae s.v s.h A1 s.rows c1) 26)):=by have bv:=a7.trans (b8.mono (B':=w.heap.size) SJ);refine⟨bf _,_,1,_,rfl,rfl,?_,bv.alloc bv.size _⟩;have:=lq.one b5 w s (.slice A1 s.rows c1) bv.size (cn.mono RS);rw[show tK p s xs (0+1)=[s] by simp[tK,gg]];exact this
 have ck:=zH dT;clear dT cn b8 a7 ce cc ca;go_loopw [7,15] (fun u i wr=>∃k:Nat,k<=xs.length/\i=.int .i64 k/\zik p s xs w k u wr)
  (fun _ i _=>xs.length-(intOf i).toNat)
 case atStart=>exact⟨0,bf _,rfl,ck⟩
 case round=>
  obtain⟨k,e2,rfl,E4,g,m,br,c7,rfl,a3,bz⟩:=hrel;have ad:=zH c7;have e3:k<m:=RU;clear ck c7;obtain⟨a9,ac⟩:=bS a3 bz;obtain⟨z,Fs⟩:=aO (dC p s xs k);obtain⟨Fv,a8⟩:=bS Fs (UM:z.Ok p);by_cases c6:k<xs.length
  .obtain⟨x,a4⟩:=aB c6;obtain⟨b,o,rfl,c0⟩:=(eg.ext ac).here c6;obtain⟨U,ap,⟨I,J,O,Q,R⟩,c5⟩:=c0 k x a4;obtain⟨ci,d4,ba⟩:=d_ (d5 x (a_ a4)) c5 a4;obtain⟨eA,e0,d1,dc,_⟩:=a3.view;simp only[fO]at d1;obtain⟨rfl,-,-⟩:=d1;have b0:k < (tK p s xs (k+1)).length:=by rw[zJ];omega
   obtain⟨e1,e5,c4,dl⟩:∃b o,some (⟨g,0,none⟩:dD)=some ⟨b,o,none⟩/\∀(a5:Nat) (x:Sy),(tK p s xs (k+1))[a5]?=some x->∃U cap,(ah wr b (o+a5*3) (zI x.v)/\ah wr b (o+a5*3+1) (zI x.h)/\ah wr b (o+a5*3+2) (.slice U x.rows cap))/\aX wr U x.rows:=by
    rcases dc with h|h
    .rw[h]at b0;simp at b0
    .exact h
   simp only[dX,su,and_true]at c4;obtain⟨rfl,rfl⟩:=c4;obtain⟨a6,bd,⟨E,F,H⟩,db⟩:=dl k z (by rw[Fs];exact zam _ _ _ _ _ RU);simp only[iw]at E F H;obtain⟨d9,ei,ej,ek⟩:=fU db E F H;clear c0 c5 a4 a3 bz Fs dl dc b0 db E F H;go_upto_region 5 with(fail)
   obtain⟨D,En⟩:=aO (wr.alloc (.cells (bB x.k x.a x.b x.c U x.row ap) 29));rw[<-En];have Z:ai wr D:=Wc;have da:aU D wr (bB x.k x.a x.b x.c U x.row ap) 29:=UF;have b7:=zH Z;clear I J O Q R;obtain⟨I,J,O,Q,R⟩:=bH da;have E:=av Z ei;have F:=av Z ej;have H:=av Z ek;have be:∀W:Ext D,ah W.W wr 0 (zI x.k):=fun W=>W.cell I
   have bi:∀W:Ext D,ah W.W wr 1 (zI x.a):=fun W=>W.cell J
   have bm:∀W:Ext D,ah W.W wr 2 (zI x.b):=fun W=>W.cell O
   have bo:∀W:Ext D,ah W.W wr 3 (zI x.c):=fun W=>W.cell Q
   have bp:∀W:Ext D,ah W.W wr 4 (.slice U x.row ap):=fun W=>W.cell R
   have f0:∀W:Ext D,ah W.W g (k*3) (zI z.v):=fun W=>W.cell E
   have f1:∀W:Ext D,ah W.W g (k*3+1) (zI z.h):=fun W=>W.cell F
   have f2:∀W:Ext D,ah W.W g (k*3+2) (.slice a6 z.rows bd):=fun W=>W.cell H
   obtain⟨am,ao⟩:=bS (fun W:Ext D=>(d9.ext Z).ext W.ok) (fun W:Ext D=>(d4.ext Z).ext W.ok);clear Z da En I J O Q R E F H;cases a2:eI p z x with
   |true=>
    have HO:=zH a2;clear a2;refine bV Si Si ?_
    repeat (go_big_quiet_step ((go_at_call 36;exact Calls.eJ (Calls.bl (nm p z.v z.h x.k x.a x.b x.c _ _ z.rows _ _ x.row _ (am.o _) (ao.o _) ci a8) HO))))
    refine dF ?_;rintro _ ⟨W,rfl⟩;obtain⟨Y,ch,co⟩:=d_ (af b7 W.ok) (am W) (ao W);have I:=be W;have J:=bi W;have O:=bm W;have Q:=bo W;have R:=bp W;have E:=f0 W;have F:=f1 W;have H:=f2 W;obtain⟨bb,cz⟩:=aO W.W;rw[<-cz]at Y ch co I J O Q R E F H ⊢;clear be bi bm bo bp f0 f1 f2 am ao cz;obtain⟨d2,b3⟩:=aO (cE p z x);obtain⟨ea,cr⟩:=bS b3 (fun(A cap W a1 b6 em en)=>CL p z x A cap W a1 b6 em en a8 HO);rw[<-b3]at cr;clear b3;go_upto_region 7 with(fail)
    refine bJ (S:=fun W=>ah W wr 0 (zI x.k)/\ah W wr 1 (zI x.a)/\ah W wr 2 (zI x.b)/\ah W wr 3 (zI x.c)/\ah W wr 4 (.slice U x.row ap)/\ah W g (k*3) (zI z.v)/\ah W g (k*3+1) (zI z.h)/\ah W g (k*3+2) (.slice a6 z.rows bd)) 9 Si ⟨I,J,O,Q,R,E,F,H⟩ (fun hHeld=>?_);refine aC 0 ?_;refine aC 1 ?_;refine aC 2 ?_;refine aC 3 ?_;refine aC 4 ?_;refine aC 5 ?_;refine aC 6 ?_;refine bM 7 fun K hK=>?_
    go_simp;refine(cr.o _ _ _ _ _ (ch.ext (aj _ _).drew) (co.ext (aj _ _).drew)).mono ?_;rintro e es ⟨A2,c2,rfl,d0,cO⟩;obtain⟨ab,eb,cj⟩:=d_ ((aj bb bb).drew.trans cO) d0 (fun w' (h:ai bb w')=>(⟨av h I,av h J,av h O,av h Q,av h R,av h E,av h F,av h H⟩:ah w' wr 0 (zI x.k)/\ah w' wr 1 (zI x.a)/\ah w' wr 2 (zI x.b)/\ah w' wr 3 (zI x.c)/\ah w' wr 4 (.slice U x.row ap)/\ah w' g (k*3) (zI z.v)/\ah w' g (k*3+1) (zI z.h)/\ah w' g (k*3+2) (.slice a6 z.rows bd)));clear d0 cO I J O Q R E F H;go_simp;refine hK.out _ _ (fun _=>cj.o _ ab.o) (fun hHeld=>?_);clear hK K;try simp only[Act.put,zA]
    have hHeld:=hHeld RX;refine bM 8 fun K hK=>?_
    go_simp;refine hK.out _ _ (fun _=>cj.o _ (ab.alloc ab.size _)) (fun hHeld=>?_);clear hK K;try simp only[Act.put,zA]
    have hHeld:=hHeld RX;refine bM 9 fun K hK=>?_
    obtain⟨d8,cb⟩:=bS (a9.ext (af Y.o ab)) (zJ p s xs (k+1));refine AB rfl (.tmp 29) (.tmp 37) rfl w es (.slice (aY g) m br) (.slice A2 d2.rows c2) (tK p s xs (k+1)) d2 d8.o (eb.mono (by have:=(af ac Y.o).size;simpa using this)) (by rw[cb.o];omega) (by have:=(af ac (af Y.o ab)).size;exact this) rfl rfl ?_;intro cu ct ev b2 eo cR;rw[cb.o]at b2 ⊢;obtain⟨d7,d3⟩:=bS b2 cR;clear b2 eo cR;refine hK.out _ _ (fun h=>absurd h RX) (fun _=>?_);clear hK K;try simp only[Act.put,zA]
    refine bM 10 fun K hK=>?_
    go_simp;refine hK.out _ _ (fun h=>absurd h RX) (fun _=>?_);clear hK K hHeld;try simp only[Act.put,zA]
    refine eC Si ?_ _;have c9:zik p s xs w (k+1) (.slice (aY cu) (k+1+1) ct) ev:=by refine⟨tN E4 ba Un,cu,_,ct,rfl,rfl,?_,(af ac (af Y.o ab)).trans d3⟩;rw[zec p s xs (k+1),dk ba,<-Fv.o,<-ea.o];exact d7
    have d6:=zH c9;clear c9;go_wp2;go_roundw
    case rel=>exact⟨k+1,RU,RW,d6⟩
    case measure=>simp[intOf];omega
   |false=>
    have HO:=zH a2;clear a2;refine bV Si Si ?_
    repeat (go_big_quiet_step ((go_at_call 36;exact Calls.eJ (Calls.bl (nm p z.v z.h x.k x.a x.b x.c _ _ z.rows _ _ x.row _ (am.o _) (ao.o _) ci a8) HO))))
    refine dF ?_;rintro _ ⟨W,rfl⟩;have Y:=zH (af b7 W.ok);clear be bi bm bo bp f0 f1 f2 am ao;go_wp2;go_ret
    have a0:=tO E4 ba Un;exact⟨g,br,by rw[a0,<-ad.o];rfl,by rw[a0,<-ad.o];have:=a9.ext Y.o;rw[<-ad.o]at this;exact this,af ac Y.o⟩
  .have a0:bO p s xs=k:=Um;have b9:=zH a0;clear a0 a3 bz Fs;go_wp2;go_ret
   exact⟨g,br,by rw[b9.o,<-ad.o];rfl,by rw[b9.o,<-ad.o];have:=a9.o;rw[<-ad.o]at this;exact this,ac⟩
def zcq:decide ((n:Int)<=3000)=decide (n<=3000):=by rw[mY];simp;omega
def sC(p:Int)(s:Sy)(n:Nat):Bool:=fZ p s.v s.h s.rows&&decide (n<=3000)
def mw:sC p s n=true↔s.Ok p/\n<=3000:=by unfold sC Sy.Ok;rw[bC,jI,cK]
def og(p:Int)(s:Sy)(A:an)(cap n:Nat)(w:aa)(R:an)(ab:Nat)(J:dm w)(O:aX w A s.rows)(U:s.rows.length<=1048576)(Q:∀r∈s.rows,r.length<=1048576)(ac:n<=1048576):aw 47 #[p,.agg (ae s.v s.h A s.rows cap),.slice R n ab] w (fC w (sC p s n)):=by
 have E:=zH ((aj w w).alloc (ag _) (.cells (ae s.v s.h A s.rows cap) 26));have F:=zH (jV p s.v s.h A cap s.rows _ (J.ext E.o) (O.ext E.o) (fx U) (fun r Y=>fx (Q r Y)));clear J O Q;cases z:fZ p s.v s.h s.rows with
 |false=>
  have I:=zH z;rw[z]at F;clear z;go_enter func47,ntmps47
  go_wp2_with (go_at_call 33;refine F.mono ?_;rintro e Z ⟨rfl,D⟩;have H:=zH (af E.o D);clear D)
  go_ret
  exact⟨aS (by simp[sC,I.o]),H.o⟩
 |true=>
  have I:=zH z;rw[z]at F;clear z;go_enter func47,ntmps47
  go_wp2_with (go_at_call 33;refine F.mono ?_;rintro e Z ⟨rfl,D⟩;have H:=zH (af E.o D);clear D)
  go_ret
  exact⟨aS (by simp[sC,I.o,zcq]),H.o⟩
def wZ(p:Int)(s:Sy)(A:an)(cap n:Nat)(w:aa)(Q:an)(Z:Nat)(J:aX w A s.rows)(R:s.rows.length<=1048576)(O:∀r∈s.rows,r.length<=1048576)(ab:n<=1048576):aw 49 #[p,.agg (ae s.v s.h A s.rows cap),.slice Q n Z] w (fC w (sC p s n)):=by
 have F:=zH ((aj w w).alloc (ag _) (.cells (ae s.v s.h A s.rows cap) 26));have E:=zH (pv p s.v s.h A cap s.rows _ (J.ext F) (fx R) (fun r U=>fx (O r U)));clear J O;cases z:fZ p s.v s.h s.rows with
 |false=>
  have I:=zH z;rw[z]at E;clear z;go_enter func49,ntmps49
  go_wp2_with (go_at_call 35;refine E.o.mono ?_;rintro e Y ⟨rfl,D⟩;have H:=zH (af F D);clear D)
  go_ret
  exact⟨aS (by simp[sC,I.o]),H.o⟩
 |true=>
  have I:=zH z;rw[z]at E;clear z;go_enter func49,ntmps49
  go_wp2_with (go_at_call 35;refine E.o.mono ?_;rintro e Y ⟨rfl,D⟩;have H:=zH (af F D);clear D)
  go_ret
  exact⟨aS (by simp[sC,I.o,zcq]),H.o⟩
def qX(p:Int)(s:Sy)(xs:List cS):Bool:=sC p s xs.length&&decide (bO p s xs<xs.length)
def fbR(p:Int)(s:Sy)(xs:List cS):Int:=if qX p s xs=true then bO p s xs else 0
def ziP(p:Int)(s:Sy)(xs:List cS)(w:aa)(e:Ending)(w':aa):Prop:=
 e=.returned (.tuple #[.int .i64 (fbR p s xs),.bool (qX p s xs)])/\ai w w'
def Aq(p:Int)(s:Sy)(A:an)(cap:Nat)(xs:List cS)(w:aa)(Z:an)(ap:Nat)(ac:dm w)(ad:aX w A s.rows)(a2:eD w Z xs)(bi:s.rows.length<=1048576)(a4:∀r∈s.rows,r.length<=1048576)(bm:xs.length<=1048576)(a5:∀x∈xs,x.row.length<=1048576):aw 18 (jv p (ae s.v s.h A s.rows cap) Z xs ap) w (ziP p s xs w):=by
 have F:=zH ((aj w w).alloc (ag _) (.cells (ae s.v s.h A s.rows cap) 26));have I:=zH (og p s A cap xs _ Z ap (ac.ext F) (ad.ext F) bi a4 bm);have a7:(w.alloc (.cells (ae s.v s.h A s.rows cap) 26)).heap[w.heap.size]?=some (.cells (ae s.v s.h A s.rows cap) 26 (0,0)):=az _ _ rfl;obtain⟨a0,bb,bd,be,ba⟩:=lv a7 ac ad a2 a5;clear ac ad a2 a4 a5 a7;cases E:sC p s xs.length with
 |false=>
  have Y:=zH E;rw[E]at I;clear E;go_enter func18,ntmps18
  go_wp2_with (go_at_call 47;refine I.mono ?_;rintro e a8 ⟨rfl,z⟩;have D:=zH (af F z);clear z)
  refine ax (v:=.tuple #[(),.bool false]) U9 rfl ⟨?_,D.o⟩;simp[fbR,qX,Y.o]
 |true=>
  have Y:=zH E;rw[E]at I;clear E;obtain⟨a6,bo⟩:=mw.1 Y.o;have a1:=zH (fun(W:aa) (am:ai w W)=>zcy p s A cap xs W Z ap (bb.ext am) (bd.ext am) (be.ext am) a6 bo ba);clear a6;have a3:=fj p xs s;by_cases Q:bO p s xs<xs.length
  .obtain⟨U,ab⟩:=bS (show ∀W e w',zac p s xs W e w'->e=.returned (.tuple (iU aQ (bO p s xs:Nat)))/\ai W w' from fun W e w' h=>⟨h.1 Q,h.2.2⟩) Q;obtain⟨f,ao⟩:∃f:Nat,f=bO p s xs:=⟨_,rfl⟩;rw[<-ao]at U;have a9:=zH ao;clear ao Q a3;go_enter func18,ntmps18
   go_wp2_with (first|(go_at_call 47;refine I.mono ?_;rintro e a8 ⟨rfl,z⟩;have D:=zH (af F z);obtain⟨d0,d1,d2⟩:=aq (ak a0 z);clear z)|(go_at_call 48;refine(a1.o _ D.o).mono ?_;rintro e bp R;obtain⟨rfl,O⟩:=U.o _ _ _ R;have H:=zH (af D.o O);clear O R d0 d1 d2))
   refine ax (v:=.tuple #[f,.bool true]) U9 rfl ⟨?_,H.o.alloc H.o.size _⟩;have J:qX p s xs=true:=by unfold qX;rw[Y.o,iy ab.o];rfl
   rw[fbR,J,ay rfl,a9.o]
  .have U:=zH (show ∀W e w',zac p s xs W e w'->∃(v h:Int) (A2:an) (n c:Nat),e=.returned (.tuple (iU (dj v h A2 n c) (-1)))/\ai W w' from fun W e w' h=>by obtain⟨A2,c2,J,_⟩:=h.2.1 RU;exact⟨_,_,_,_,_,J,h.2.2⟩)
   have ab:=zH Q;clear Q a3;go_enter func18,ntmps18
   go_wp2_with (first|(go_at_call 47;refine I.mono ?_;rintro e a8 ⟨rfl,z⟩;have D:=zH (af F z);obtain⟨d0,d1,d2⟩:=aq (ak a0 z);clear z)|(go_at_call 48;refine(a1.o _ D.o).mono ?_;rintro e bp R;obtain⟨v2,br,A2,n2,c2,rfl,O⟩:=U.o _ _ _ R;have H:=zH (af D.o O);clear O R d0 d1 d2))
   refine ax (v:=.tuple #[(),.bool false]) U9 rfl ⟨?_,H.o.alloc H.o.size _⟩;have J:qX p s xs=false:=by unfold qX;rw[gM ab,so]
   simp[fbR,J]
def As(p:Int)(s:Sy)(A:an)(cap:Nat)(xs:List cS)(w:aa)(R:an)(ac:Nat)(ab:aX w A s.rows)(a0:eD w R xs)(bd:s.rows.length<=1048576)(a2:∀r∈s.rows,r.length<=1048576)(be:xs.length<=1048576)(a3:∀x∈xs,x.row.length<=1048576):aw 19 (jv p (ae s.v s.h A s.rows cap) R xs ac) w (ziP p s xs w):=by
 have O:=zH ((aj w w).alloc (ag _) (.cells (ae s.v s.h A s.rows cap) 26));have F:=zH (wZ p s A cap xs _ R ac (ab.ext O) bd a2 be);have a5:(w.alloc (.cells (ae s.v s.h A s.rows cap) 26)).heap[w.heap.size]?=some (.cells (ae s.v s.h A s.rows cap) 26 (0,0)):=az _ _ rfl;obtain⟨am,a8,a9,a7⟩:=fU a5 ab a0 a3;clear ab a0 a2 a3 a5;cases E:sC p s xs.length with
 |false=>
  have Q:=zH E;rw[E]at F;clear E;go_enter func19,ntmps19
  go_wp2_with (go_at_call 49;refine F.mono ?_;rintro e a6 ⟨rfl,z⟩;have D:=zH (af O z);clear z)
  refine ax (v:=.tuple #[(),.bool false]) U8 rfl ⟨?_,D.o⟩;simp[fbR,qX,Q.o]
 |true=>
  have Q:=zH E;rw[E]at F;clear E;obtain⟨a4,bi⟩:=mw.1 Q.o;have ao:=zH (fun(W:aa) (ap:ai w W)=>BU p s A cap xs W R ac (a8.ext ap) (a9.ext ap) a4 bi a7);clear a4;have bb:=fj p xs s;obtain⟨f,U⟩:∃f:Nat,f=bO p s xs:=⟨_,rfl⟩;have ad:=zH (show ∀W e w',zcK p s xs W e w'->∃(A2:an) (c:Nat),e=.returned (.slice A2 (f+1) c)/\ai W w' from fun W e w' h=>by obtain⟨g,c,H,_,ba⟩:=h;exact⟨_,_,by rw[U];exact H,ba⟩)
  have Z:=zH U;rw[<-U]at bb;clear U;by_cases a1:f<xs.length
  .go_enter func19,ntmps19
   go_wp2_with (first|(go_at_call 49;refine F.mono ?_;rintro e a6 ⟨rfl,z⟩;have D:=zH (af O z);obtain⟨d0,d1,d2⟩:=aq (ak am z);clear z)|(go_at_call 50;refine(ao.o _ D.o).mono ?_;rintro e bm J;obtain⟨A2,c2,rfl,I⟩:=ad.o _ _ _ J;have Y:=zH (af D.o I);clear I J d0 d1 d2))
   refine ax (v:=.tuple #[f,.bool true]) U8 rfl ⟨?_,Y.o⟩;have H:qX p s xs=true:=by unfold qX;rw[Q.o,<-Z.o,iy a1];rfl
   rw[fbR,H,ay rfl,Z.o]
  .go_enter func19,ntmps19
   go_wp2_with (first|(go_at_call 49;refine F.mono ?_;rintro e a6 ⟨rfl,z⟩;have D:=zH (af O z);obtain⟨d0,d1,d2⟩:=aq (ak am z);clear z)|(go_at_call 50;refine(ao.o _ D.o).mono ?_;rintro e bm J;obtain⟨A2,c2,rfl,I⟩:=ad.o _ _ _ J;have Y:=zH (af D.o I);clear I J d0 d1 d2))
   refine ax (v:=.tuple #[(),.bool false]) U8 rfl ⟨?_,Y.o⟩;have H:qX p s xs=false:=by unfold qX;rw[<-Z.o,gM a1,so]
   simp[fbR,H]
def gP(p:Int)(s:Sy)(xs:List cS):Bool:=sC p s xs.length&&decide (bO p s xs=xs.length)
def yJ(p:Int)(s:Sy)(xs:List cS):Sy:=if gP p s xs=true then dC p s xs xs else⟨0,0,[]⟩
def yK{xs:List cS}(h:gP p s xs=false):yJ p s xs=⟨0,0,[]⟩:=by unfold yJ;rw[h,al RX]
def nY{xs:List cS}(h:gP p s xs=true):yJ p s xs=dC p s xs xs:=by unfold yJ;rw[ay h]
def zdg(p:Int)(s:Sy)(xs:List cS):Small (yJ p s xs):=by
 cases h:gP p s xs with
 |false=>rw[yK h];exact⟨RS,fun r hr=>R5⟩
 |true=>
  rw[nY h];unfold gP at h;rw[bC,cK]at h;exact(jG (mw.1 h.1).1 RU).small
def wT(p:Int)(s:Sy)(xs:List cS)(w:aa)(e:Ending)(w':aa):Prop:=fV (yJ p s xs).v (yJ p s xs).h (yJ p s xs).rows (gP p s xs) w e w'
def yL(p:Int)(s:Sy)(A:an)(cap:Nat)(xs:List cS)(w:aa)(Z:an)(a6:Nat)(a2:dm w)(a3:aX w A s.rows)(a9:eD w Z xs)(b9:s.rows.length<=1048576)(bb:∀r∈s.rows,r.length<=1048576)(ca:xs.length<=1048576)(bd:∀x∈xs,x.row.length<=1048576):aw 16 (jv p (ae s.v s.h A s.rows cap) Z xs a6) w (wT p s xs w):=by
 have ab:Below w w ((w.alloc (.cells (ae s.v s.h A s.rows cap) 26)).alloc (.cells aQ 26)):=((aj w w).alloc RS _).alloc RS _;obtain⟨ac,Q⟩:=bS ab (og p s A cap xs _ Z a6 (a2.ext ab) (a3.ext ab) b9 bb ca);have bi:((w.alloc (.cells (ae s.v s.h A s.rows cap) 26)).alloc (.cells aQ 26)).heap[w.heap.size]?=some (.cells (ae s.v s.h A s.rows cap) 26 (0,0)):=(b_ _ _ RS).trans (az _ _ rfl);have bm:((w.alloc (.cells (ae s.v s.h A s.rows cap) 26)).alloc (.cells aQ 26)).heap[(w:Nat)+1]?=some (.cells aQ 26 (0,0)):=az _ _ RS;obtain⟨a7,ap,bv,bz,b4,br⟩:=mA bi bm a2 a3 a9 bd;clear a2 a3 a9 bb bd bi bm ab;cases E:sC p s xs.length with
 |false=>
  have Fe:=zH E;rw[E]at Q;clear E;go_enter func16,ntmps16
  go_wp2_with (go_at_call 47;refine Q.o.mono ?_;rintro e bp ⟨rfl,z⟩;have H:=zH (af ac (z.mono SJ));obtain⟨d0,d1,d2,f0,f1,f2⟩:=cL (ak ap z);clear z)
  have D:gP p s xs=false:=Us;unfold wT;rw[yK D,D];refine ax (v:=.tuple (dy aQ)) VB rfl (fV.mk rfl (Has.nil _ _ 0).own ?_);exact dJ H.o RU _ _ _
 |true=>
  have Fe:=zH E;rw[E]at Q;clear E;obtain⟨be,cb⟩:=mw.1 Fe;have a8:=zH (fun(W:aa) (a4:ai w W)=>zcy p s A cap xs W Z a6 (bv.ext a4) (bz.ext a4) (b4.ext a4) be cb br);clear be;have ba:=fj p xs s;by_cases a5:bO p s xs<xs.length
  .have ao:=zH (show ∀W e w',zac p s xs W e w'->e=.returned (.tuple (iU aQ (bO p s xs:Nat)))/\ai W w' from fun W e w' h=>⟨h.1 a5,h.2.2⟩);have D:gP p s xs=false:=U_;have O:=zH D;clear a5 ba D;go_enter func16,ntmps16
   go_upto_region 4 with(first|(go_at_call 47;refine Q.o.mono ?_;rintro e bp ⟨rfl,z⟩;have H:=zH (af ac (z.mono SJ));have a0:=zH (ak ap z);obtain⟨d0,d1,d2⟩:=aq (ak a7 z);clear z)|(go_at_call 48;refine(a8.o _ H.o).mono ?_;rintro e J Y;obtain⟨rfl,I⟩:=ao.o _ _ _ Y;have ad:=zH (af H.o I);have a1:=zH (ak a0 I);clear I Y d0 d1 d2))
   obtain⟨R,Fw⟩:=aO (J.alloc (.cells aQ 26));rw[<-Fw];have F:ai J R:=VY;have U:aU R J aQ 26:=UB;obtain⟨d0,d1,d2⟩:=aq U;obtain⟨b5,b6,b7,f0,f1,f2⟩:=cL (ak a1 F);have am:=zH (af ad F);clear F U Fw;go_wp2;unfold wT;rw[yK O,O.o];refine ax (v:=.tuple (dy aQ)) VB rfl (fV.mk rfl (Has.nil _ _ 0).own ?_);exact dJ am RU _ _ _
  .have D:gP p s xs=true:=Wf;obtain⟨t,E⟩:=aO (dC p s xs xs);have ao:=zH (show ∀W e w',zac p s xs W e w'->∃(A2:an) (c:Nat),e=.returned (.tuple (iU (ae t.v t.h A2 t.rows c) (-1)))/\aJ w' W.heap.size (.slice A2 t.rows c) t.rows/\ai W w' from fun W e w' h=>by obtain⟨A2,c2,D,b8⟩:=h.2.1 RU;rw[E];exact⟨_,_,D,b8,h.2.2⟩)
   obtain⟨O,b1⟩:=bS D E;clear a5 ba D E;go_enter func16,ntmps16
   go_upto_region 4 with(first|(go_at_call 47;refine Q.o.mono ?_;rintro e bp ⟨rfl,z⟩;have H:=zH (af ac (z.mono SJ));have b0:=zH z.size;have a0:=zH (ak ap z);obtain⟨d0,d1,d2⟩:=aq (ak a7 z);clear z)|(go_at_call 48;refine(a8.o _ H.o).mono ?_;rintro e J Y;obtain⟨A2,c2,rfl,bo,I⟩:=ao.o _ _ _ Y;have ad:=zH (af H.o I);have a1:=zH (ak a0 I);have b2:=zH bo;clear I Y d0 d1 d2 bo))
   obtain⟨R,Fw⟩:=aO (J.alloc (.cells (ae t.v t.h A2 t.rows c2) 26));rw[<-Fw];have F:ai J R:=VY;have U:aU R J (ae t.v t.h A2 t.rows c2) 26:=UB;obtain⟨d0,d1,d2⟩:=aq U;obtain⟨b5,b6,b7,f0,f1,f2⟩:=cL (ak a1 F);obtain⟨am,b3⟩:=bS (af ad F) (b2.ext F);clear F U Fw;go_wp2;have cc:=b0.o;simp only[cg]at cc;unfold wT;rw[nY O,O.o,<-b1.o];refine ax (v:=.tuple (dN (ae t.v t.h A2 t.rows c2))) VB rfl (fV.mk rfl ?_ ?_)
   .exact(((b3.setCell SJ _).setCell SJ _).setCell SJ _).mono RU
   .exact dJ am RU _ _ _
def yM(p:Int)(s:Sy)(A:an)(cap:Nat)(xs:List cS)(w:aa)(R:an)(a2:Nat)(a0:aX w A s.rows)(a6:eD w R xs)(b4:s.rows.length<=1048576)(bb:∀r∈s.rows,r.length<=1048576)(b6:xs.length<=1048576)(bd:∀x∈xs,x.row.length<=1048576):aw 17 (jv p (ae s.v s.h A s.rows cap) R xs a2) w (wT p s xs w):=by
 have ap:Below w w ((w.alloc (.cells (ae s.v s.h A s.rows cap) 26)).alloc (.cells aQ 26)):=((aj w w).alloc RS _).alloc RS _;obtain⟨Y,J⟩:=bS ap (wZ p s A cap xs _ R a2 (a0.ext ap) b4 bb b6);have bm:((w.alloc (.cells (ae s.v s.h A s.rows cap) 26)).alloc (.cells aQ 26)).heap[w.heap.size]?=some (.cells (ae s.v s.h A s.rows cap) 26 (0,0)):=(b_ _ _ RS).trans (az _ _ rfl);have bo:((w.alloc (.cells (ae s.v s.h A s.rows cap) 26)).alloc (.cells aQ 26)).heap[(w:Nat)+1]?=some (.cells aQ 26 (0,0)):=az _ _ RS;obtain⟨a3,ac,bz,b2,bv⟩:=lv bm bo a0 a6 bd;clear a0 a6 bb bd bm bo ap;cases E:sC p s xs.length with
 |false=>
  have Fe:=zH E;rw[E]at J;clear E;go_enter func17,ntmps17
  go_wp2_with (go_at_call 49;refine J.o.mono ?_;rintro e br ⟨rfl,z⟩;have F:=zH (af Y.o (z.mono SJ));obtain⟨d0,d1,d2,f0,f1,f2⟩:=cL (ak ac z);clear z)
  have D:gP p s xs=false:=Us;unfold wT;rw[yK D,D];refine ax (v:=.tuple (dy aQ)) VA rfl (fV.mk rfl (Has.nil _ _ 0).own ?_);exact dJ F RU _ _ _
 |true=>
  have Fe:=zH E;rw[E]at J;clear E;obtain⟨bi,b7⟩:=mw.1 Fe;have a4:=zH (fun(W:aa) (a5:ai w W)=>BU p s A cap xs W R a2 (bz.ext a5) (b2.ext a5) bi b7 bv);clear bi;have a9:=fj p xs s;by_cases ba:bO p s xs<xs.length
  .obtain⟨m,O⟩:∃m:Nat,m=bO p s xs+1:=⟨_,rfl⟩;have ab:=zH (show ∀W e w',zcK p s xs W e w'->∃(A2:an) (c:Nat),e=.returned (.slice A2 m c)/\ai W w' from fun W e w' h=>by obtain⟨g,c,D,_,ao⟩:=h;exact⟨_,_,by rw[O];exact D,ao⟩)
   have D:gP p s xs=false:=U_;have I:=zH D;have b5:m<=xs.length:=RU;clear ba a9 D O;go_enter func17,ntmps17
   go_wp2_with (first|(go_at_call 49;refine J.o.mono ?_;rintro e br ⟨rfl,z⟩;have F:=zH (af Y.o (z.mono SJ));have ad:=zH (ak ac z);obtain⟨d0,d1,d2⟩:=aq (ak a3 z);clear z)|(go_at_call 50;refine(a4.o _ F.o).mono ?_;rintro e b9 Q;obtain⟨A2,c2,rfl,H⟩:=ab.o _ _ _ Q;have Z:=zH (af F H);clear d0 d1 d2;obtain⟨d0,d1,d2,f0,f1,f2⟩:=cL (ak ad H);clear H Q))
   unfold wT;rw[yK I,I.o];refine ax (v:=.tuple (dy aQ)) VA rfl (fV.mk rfl (Has.nil _ _ 0).own ?_);exact dJ Z.o RU _ _ _
  .have D:gP p s xs=true:=Wf;have a8:bO p s xs=xs.length:=RU;obtain⟨t,E⟩:=aO (dC p s xs xs);obtain⟨m,O⟩:∃m:Nat,m=xs.length+1:=⟨_,rfl⟩;have ab:=zH (show ∀W e w',zcK p s xs W e w'->∃(g c:Nat) (A2:an) (c2:Nat),e=.returned (.slice (aY g) m c)/\(ah w' g (xs.length*3) (zI t.v)/\ah w' g (xs.length*3+1) (zI t.h)/\ah w' g (xs.length*3+2) (.slice A2 t.rows c2))/\aJ w' W.heap.size (.slice A2 t.rows c2) t.rows/\ai W w' from fun W e w' h=>by
    obtain⟨g,c,D,⟨us,am⟩,ao⟩:=h;rw[a8]at D am;have bp:(tK p s xs (xs.length+1))[xs.length]?=some t:=by rw[E];exact zam _ _ _ _ _ RU
    obtain⟨u,U,be⟩:=am.get bp;obtain⟨A2,c2,rfl,_⟩:=be.view;have a7:=am.outer;rw[zJ]at a7;have a1:∀j,j<3->w'.cell? ⟨g,xs.length*3+j,none⟩=(fW t (.slice A2 t.rows c2))[j]?:=fun j b3=>by rw[a7.cellAt _ RU,pn b3 bp U]
    exact⟨g,c,A2,c2,by rw[O];exact D,⟨a1 0 RX,a1 1 RX,a1 2 RX⟩,be,ao⟩)
   obtain⟨I,b1⟩:=bS D E;have b5:xs.length<m:=RU;clear ba a9 D E O a8;go_enter func17,ntmps17
   go_wp2_with (first|(go_at_call 49;refine J.o.mono ?_;rintro e br ⟨rfl,z⟩;have F:=zH (af Y.o (z.mono SJ));have b0:=zH z.size;have ad:=zH (ak ac z);obtain⟨d0,d1,d2⟩:=aq (ak a3 z);clear z)|(go_at_call 50;refine(a4.o _ F.o).mono ?_;rintro e b9 Q;obtain⟨g,c,A2,c2,rfl,⟨ca,cb,cc⟩,U,H⟩:=ab.o _ _ _ Q;have Z:=zH (af F H);have HU:=zH U;clear d0 d1 d2;obtain⟨d0,d1,d2,f0,f1,f2⟩:=cL (ak ad H);clear H Q U))
   have b8:=b0.o;simp only[cg]at b8;unfold wT;rw[nY I,I.o,<-b1.o];refine ax (v:=.tuple (dN (ae t.v t.h A2 t.rows c2))) VA rfl (fV.mk rfl ?_ ?_)
   .exact YB
   .exact dJ Z.o RU _ _ _
def za3(p:Int)(s:Sy)(A:an)(cap:Nat)(xs:List cS)(z:an)(D:Nat)(w:aa)(E:dm w)(F:aX w A s.rows)(I:s.rows.length<=1048576)(J:∀r∈s.rows,r.length<=1048576)(H:eD w z xs)(O:xs.length<=1048576)(Q:∀x∈xs,x.row.length<=1048576):aw 16 (jv p (ae s.v s.h A s.rows cap) z xs D) w (fV (yJ p s xs).v (yJ p s xs).h (yJ p s xs).rows (gP p s xs) w):=yL p s A cap xs w z D E F H I J O Q
def za4(p:Int)(s:Sy)(A:an)(cap:Nat)(xs:List cS)(z:an)(D:Nat)(w:aa)(E:aX w A s.rows)(H:s.rows.length<=1048576)(I:∀r∈s.rows,r.length<=1048576)(F:eD w z xs)(J:xs.length<=1048576)(O:∀x∈xs,x.row.length<=1048576):aw 17 (jv p (ae s.v s.h A s.rows cap) z xs D) w (fV (yJ p s xs).v (yJ p s xs).h (yJ p s xs).rows (gP p s xs) w):=yM p s A cap xs w z D E F H I J O
def zfs(p v h a b c:Int)(A:an)(cap:Nat)(rows:aE)(w:aa)(z:an)(n D:Nat):aw 90 (dR p (ae v h A rows cap) (j8 a b c z n D)) w fun e w'=>∃u,e=.returned (.agg #[.int .i64 1,a,b,(),u])/\ar w' w u []/\ai w w':=by
 go_enter func90,nh
 go_wp2;refine ax (v:=.agg #[.int .i64 1,a,b,(),fe]) Ux rfl ⟨_,rfl,ar.nil _ _,?_⟩;exact below_alloc3 w _ _ _
def zft(p v h a b c:Int)(A:an)(cap:Nat)(rows:aE)(w:aa)(z:an)(n D:Nat):aw 90 (dR p (ae v h A rows cap) (j9 a b c z n D)) w fun e w'=>∃u,e=.returned (.agg #[.int .i64 5,a,(),(),u])/\ar w' w u []/\ai w w':=by
 go_enter func90,nh
 go_wp2;refine ax (v:=.agg #[.int .i64 5,a,(),(),fe]) Ux rfl ⟨_,rfl,ar.nil _ _,?_⟩;exact below_alloc3 w _ _ _
def zgQ(p v h a b c:Int)(A:an)(cap:Nat)(rows:aE)(w:aa)(z:an)(n D:Nat):aw 90 (dR p (ae v h A rows cap) (j_ a b c z n D)) w fun e w'=>∃u,e=.returned (.agg #[.int .i64 4,a,(),(),u])/\ar w' w u []/\ai w w':=by
 go_enter func90,nh
 go_wp2;refine ax (v:=.agg #[.int .i64 4,a,(),(),fe]) Ux rfl ⟨_,rfl,ar.nil _ _,?_⟩;exact below_alloc3 w _ _ _
def zdD(p v h a b c:Int)(A:an)(cap:Nat)(rows:aE)(w:aa)(z:an)(n D:Nat):aw 90 (dR p (ae v h A rows cap) (ka a b c z n D)) w fun e w'=>∃u,e=.returned (.agg #[.int .i64 6,a,b,(),u])/\ar w' w u []/\ai w w':=by
 go_enter func90,nh
 go_wp2;refine ax (v:=.agg #[.int .i64 6,a,b,(),fe]) Ux rfl ⟨_,rfl,ar.nil _ _,?_⟩;exact below_alloc3 w _ _ _
def zbn(p v h a b c:Int)(A:an)(cap:Nat)(rows:aE)(w:aa)(z:an)(n D:Nat):aw 90 (dR p (ae v h A rows cap) (j6 a b c z n D)) w fun e w'=>∃u,e=.returned (.agg #[.int .i64 9,(),b,(),u])/\ar w' w u []/\ai w w':=by
 go_enter func90,nh
 go_wp2;refine ax (v:=.agg #[.int .i64 9,(),b,(),fe]) Ux rfl ⟨_,rfl,ar.nil _ _,?_⟩;exact below_alloc3 w _ _ _
def zbo(p v h a b c:Int)(A:an)(cap:Nat)(rows:aE)(w:aa)(z:an)(n D:Nat):aw 90 (dR p (ae v h A rows cap) (kb a b c z n D)) w fun e w'=>∃u,e=.returned (.agg #[.int .i64 8,(),b,(),u])/\ar w' w u []/\ai w w':=by
 go_enter func90,nh
 go_wp2;refine ax (v:=.agg #[.int .i64 8,(),b,(),fe]) Ux rfl ⟨_,rfl,ar.nil _ _,?_⟩;exact below_alloc3 w _ _ _
def zdE(p v h a b c:Int)(A:an)(cap:Nat)(rows:aE)(w:aa)(z:an)(n I:Nat)(F:2<=p)(H:p<=97)(D:0<=c)(E:c<p):aw 90 #[p,.agg (ae v h A rows cap),.agg (kd a b c z n I)] w fun e w'=>∃u,e=.returned (.agg #[.int .i64 2,a,(),.int .i64 (fD p c),u])/\ar w' w u []/\ai w w':=by
 go_enter func90,nh
 go_wp2;go_region_held3 (fun W=>ah W ((w:Nat)+1) 0 (zI 2)/\ah W ((w:Nat)+1) 1 (zI a)/\ah W ((w:Nat)+1) 3 (zI c)) (go_keep)
  ((go_at_call 103;refine(vU p c _ F H D E).mono ?_;rintro e w' ⟨rfl,rfl⟩))
 go_wp2;refine ax (v:=.agg #[.int .i64 2,a,(),.int .i64 (fD p c),fe]) Ux rfl ⟨_,rfl,ar.nil _ _,?_⟩;exact(below_alloc3 w _ _ _).drew
def zgR(p v h a b c:Int)(A:an)(cap:Nat)(rows:aE)(w:aa)(z:an)(n I:Nat)(F:2<=p)(H:p<=97)(D:0<=c)(E:c<p):aw 90 (dR p (ae v h A rows cap) (j7 a b c z n I)) w fun e w'=>∃u,e=.returned (.agg #[.int .i64 3,a,b,.int .i64 ((p-c)%p),u])/\ar w' w u []/\ai w w':=by
 go_enter func90,nh
 go_wp2;go_region_held3 (fun W=>ah W ((w:Nat)+1) 0 (zI 3)/\ah W ((w:Nat)+1) 1 (zI a)/\ah W ((w:Nat)+1) 2 (zI b)/\ah W ((w:Nat)+1) 3 (zI c)) (go_keep)
  ((go_at_call 119;refine(vT p c _ F H D E).mono ?_;rintro e w' ⟨rfl,rfl⟩))
 go_wp2;refine ax (v:=.agg #[.int .i64 3,a,b,.int .i64 ((p-c)%p),fe]) Ux rfl ⟨_,rfl,ar.nil _ _,?_⟩;exact(below_alloc3 w _ _ _).drew
def zdF(p v h a b c:Int)(A:an)(cap:Nat)(rows:aE)(w:aa)(I:an)(n R:Nat)(am:aX w A rows)(bi:0<=a)(bm:a<rows.length)(a2:∀r∈rows,r.length<=1048576):aw 90 (eB p (ae v h A rows cap) (iT a b c I n R)) w fun e w'=>∃u,e=.returned (.agg #[.int .i64 7,a,b,(),u])/\ar w' w u (rows.getD a.toNat [])/\ai w w':=by
 obtain⟨r,hr⟩:=aB (RU:a.toNat<rows.length);obtain⟨z,o,rfl,a0⟩:=am.here (RU:a.toNat<rows.length);obtain⟨ac,ad,U,a1⟩:=a0 _ r hr;obtain⟨HG,Fk⟩:=bS (TD:rows.getD a.toNat []=r) (a2 r (a_ hr));have F:=below_alloc3 w (.cells (ae v h (some ⟨z,o,none⟩) rows cap) 26) (.cells (iT a b c I n R) 29) (.cells df 29);have ap:z < (w:Nat):=iN _ _ U;obtain⟨Z,Q,ab⟩:=cA w (.cells (ae v h (some ⟨z,o,none⟩) rows cap) 26) (.cells (iT a b c I n R) 29) (.cells df 29);obtain⟨H,O⟩:=aO (((w.alloc (.cells (ae v h (some ⟨z,o,none⟩) rows cap) 26)).alloc (.cells (iT a b c I n R) 29)).alloc (.cells df 29));rw[<-O]at F Z Q ab;have E:=zH (show ∀W,ai H W->ah W ((w:Nat)+1) 1 (zI a)/\ah W ((w:Nat)+1) 2 (zI b)/\ah W w 2 (.slice (some ⟨z,o,none⟩) rows cap)/\ah W z (o+a.toNat) (.slice ac r ad) from
  fun W J=>⟨aW (cD J Q) 1,aW (cD J Q) 2,aW (cD J Z) 2,av (af F J) U⟩)
 obtain⟨a6,a4,ba,a5,a9⟩:=lv (a1.ext F) F ab ap O;have a3:(H:Nat)=w+3:=by rw[O];simp
 have a7:=zH a3;clear am a0 U a1 hr a2 F Z Q ab ap a3 O;go_enter func90,nh
 go_wp2;rw[<-a9.o];go_region_held3 (fun W=>ah W ((w:Nat)+1) 1 (zI a)/\ah W ((w:Nat)+1) 2 (zI b)/\ah W w 2 (.slice (some ⟨z,o,none⟩) rows cap)/\ah W z (o+a.toNat) (.slice ac r ad)) (first|exact E.o _ (aj _ _).drew|exact E.o _ D.o|exact⟨(kP SJ).trans (E.o _ D.o).1,(kP SJ).trans (E.o _ D.o).2.1,(kP SJ).trans (E.o _ D.o).2.2.1,(kP (by have:=a5.o;simp<;>omega)).trans (E.o _ D.o).2.2.2⟩)
  ((go_at_call 80;refine(iH _ _ _ _ (a6.ext ?_) TH).mono ?_;exact(aj _ _).drew;rintro e bp ⟨u,rfl,Y,ao⟩;obtain⟨A2,c2,rfl,_⟩:=Y.view;have D:=zH ((aj H H).drew.trans ao);have a8:=zH Y;clear Y ao;obtain⟨⟨bb,c1,bd,c3,be⟩,f0,f1,f2,f3,f4⟩:=jk D.o ba))
 have bo:=a7.o;have HO:=a8.o;simp only[xR]at HO;go_wp2;refine ax (v:=.agg #[.int .i64 7,a,b,(),.slice A2 r c2]) (by simp[results,nj,go_sem, *]) rfl ⟨_,rfl,?_,?_⟩
 .exact Zd
 .exact ff (af a4 D.o) RU _ _ _ _ _
def zbp(p v h k a b c:Int)(A:an)(cap:Nat)(rows:aE)(w:aa)(D:an)(row:aG)(E:Nat)(Z:aX w A rows)(s:Sys p v h rows)(ab:ja p v h rows k a b c row=true):aw 90 (eB p (ae v h A rows cap) (bB k a b c D row E)) w fun e w'=>∃u,e=.returned (.agg (kF (uK true k) (uA true k a) (uB true k b) (uC true p k c) u))/\ar w' w u (uR true rows k a)/\ai w w':=by
 have z:=ab;unfold ja at z;rw[bC]at z
 replace z:=z.2
 by_cases F:k=1
 .subst F;simp[bk]at z;rw[show uK true 1=1 by simp[uK],show uA true 1 a=a by simp[uA],show uB true 1 b=b by simp[uB],show uC true p 1 c=0 by simp[uC],show uR true rows 1 a=[] by simp[uR]];exact zfs p v h a b c A cap rows w D row E
 by_cases H:k=2
 .subst H;simp[bk]at z;rw[show uK true 2=2 by simp[uK],show uA true 2 a=a by simp[uA],show uB true 2 b=0 by simp[uB],show uC true p 2 c=(fD p c) by simp[uC],show uR true rows 2 a=[] by simp[uR]];exact zdE p v h a b c A cap rows w D row E s.p2 s.p97 RU RU
 by_cases I:k=3
 .subst I;simp[bk]at z;rw[show uK true 3=3 by simp[uK],show uA true 3 a=a by simp[uA],show uB true 3 b=b by simp[uB],show uC true p 3 c=((p-c)%p) by simp[uC],show uR true rows 3 a=[] by simp[uR]];exact zgR p v h a b c A cap rows w D row E s.p2 s.p97 RU RU
 by_cases J:k=4
 .subst J;simp[bk]at z;rw[show uK true 4=5 by simp[uK],show uA true 4 a=a by simp[uA],show uB true 4 b=0 by simp[uB],show uC true p 4 c=0 by simp[uC],show uR true rows 4 a=[] by simp[uR]];exact zft p v h a b c A cap rows w D row E
 by_cases O:k=5
 .subst O;simp[bk]at z;rw[show uK true 5=4 by simp[uK],show uA true 5 a=a by simp[uA],show uB true 5 b=0 by simp[uB],show uC true p 5 c=0 by simp[uC],show uR true rows 5 a=[] by simp[uR]];exact zgQ p v h a b c A cap rows w D row E
 by_cases Q:k=6
 .subst Q;simp[bk]at z;rw[show uK true 6=7 by simp[uK],show uA true 6 a=a by simp[uA],show uB true 6 b=b by simp[uB],show uC true p 6 c=0 by simp[uC],show uR true rows 6 a=(rows.getD a.toNat []) by simp[uR]];exact zdF p v h a b c A cap rows w D row E Z RU RU (fun r hr=>WG)
 by_cases R:k=7
 .subst R;simp[bk]at z;rw[show uK true 7=6 by simp[uK],show uA true 7 a=a by simp[uA],show uB true 7 b=b by simp[uB],show uC true p 7 c=0 by simp[uC],show uR true rows 7 a=[] by simp[uR]];exact zdD p v h a b c A cap rows w D row E
 by_cases U:k=8
 .subst U;simp[bk]at z;rw[show uK true 8=9 by simp[uK],show uA true 8 a=0 by simp[uA],show uB true 8 b=b by simp[uB],show uC true p 8 c=0 by simp[uC],show uR true rows 8 a=[] by simp[uR]];exact zbn p v h a b c A cap rows w D row E
 by_cases Y:k=9
 .subst Y;simp[bk]at z;rw[show uK true 9=8 by simp[uK],show uA true 9 a=0 by simp[uA],show uB true 9 b=b by simp[uB],show uC true p 9 c=0 by simp[uC],show uR true rows 9 a=[] by simp[uR]];exact zbo p v h a b c A cap rows w D row E
 simp[*]at z
def dL(p:Int)(s:Sy)(x:cS):cS:=⟨uK true x.k,uA true x.k x.a,uB true x.k x.b,uC true p x.k x.c,uR true s.rows x.k x.a⟩
def qJ(p:Int)(s:Sy)(xs:List cS)(n:Nat):List cS:=(List.range n).map fun i=>dL p (dC p s xs i) (xs.getD i zc3)
def oY(p:Int)(s:Sy)(xs:List cS)(n:Nat):(qJ p s xs n).length=n:=by simp[qJ]
def Bc{xs:List cS}{x:cS}(h:xs[n]?=some x):qJ p s xs (n+1)=qJ p s xs n++[dL p (dC p s xs n) x]:=by simp[qJ,oE,bu,h]
def Ci{x:cS}(h:Small s):(dL p s x).row.length<=1000:=by
 unfold dL uR;dsimp only;rw[ay rfl];split
 .by_cases z:x.a.toNat<s.rows.length
  .exact h.len _ (gT z)
  .rw[bu,fQ RU];simp
 .simp
def zdf{xs:List cS}(D:s.Ok p)(h:xs.length<=bO p s xs):∀r∈qJ p s xs xs,r.row.length<=1000:=by intro r z;obtain⟨i,hi,rfl⟩:=cf.1 z;exact Ci (jG D (by have:=et.1 hi;omega)).small
def iC(X:List cS)(ok:Bool)(w:aa)(e:Ending)(w':aa):Prop:=
 ∃u,e=.returned (.tuple #[u,.bool ok])/\cB w' w u X/\ai w w'
def iC.mk{ok:Bool}(D:e=.returned (.tuple #[u,.bool ok]))(E:cB w' w u X)(z:ai w w'):iC X ok w e w':=⟨u,D,E,z⟩
def DJ(p:Int)(s:Sy)(x:cS)(A:an)(cap:Nat)(w:aa)(z:an)(E:Nat)(I:dm w)(J:aX w A s.rows)(O:aT w z x.row)(U:x.row.length<=1048576)(Y:s.Ok p)(R:eI p s x=true):aw 41 (eB p (ae s.v s.h A s.rows cap) (bB x.k x.a x.b x.c z x.row E)) w fun e w'=>∃A2 c2,e=.returned (.tuple (dN (jt (dL p s x).k (dL p s x).a (dL p s x).b (dL p s x).c A2 (dL p s x).row c2)))/\ar w' w (.slice A2 (dL p s x).row c2) (dL p s x).row/\ai w w':=by
 refine(pI p s.v s.h x.k x.a x.b x.c A cap s.rows w z x.row E I J O U Y true R).mono fun e w' Q=>?_
 obtain⟨u,F,D,H⟩:=Q;obtain⟨A2,c2,rfl,_⟩:=D.view;exact⟨A2,c2,F,D,H⟩
def zgG(p:Int)(s:Sy)(x:cS)(A:an)(cap:Nat)(w:aa)(z:an)(D:Nat)(I:dm w)(J:aX w A s.rows)(O:aT w z x.row)(U:x.row.length<=1048576)(Y:s.Ok p)(R:eI p s x=false):aw 41 (eB p (ae s.v s.h A s.rows cap) (bB x.k x.a x.b x.c z x.row D)) w fun e w'=>∃(a b c d:Int) (A2:an) (n2 c2:Nat),e=.returned (.tuple #[.agg (jt a b c d A2 n2 c2),.bool false])/\ai w w':=by
 refine(pI p s.v s.h x.k x.a x.b x.c A cap s.rows w z x.row D I J O U Y false R).mono fun e w' Q=>?_
 obtain⟨u,E,F,H⟩:=Q;obtain⟨A2,c2,rfl,_⟩:=F.view;exact⟨_,_,_,_,A2,_,c2,E,H⟩
def zgH(p:Int)(s:Sy)(x:cS)(A:an)(cap:Nat)(w:aa)(z:an)(E:Nat)(I:aX w A s.rows)(Q:s.Ok p)(O:eI p s x=true):aw 90 (eB p (ae s.v s.h A s.rows cap) (bB x.k x.a x.b x.c z x.row E)) w fun e w'=>∃A2 c2,e=.returned (.agg (jt (dL p s x).k (dL p s x).a (dL p s x).b (dL p s x).c A2 (dL p s x).row c2))/\ar w' w (.slice A2 (dL p s x).row c2) (dL p s x).row/\ai w w':=by
 refine(zbp p s.v s.h x.k x.a x.b x.c A cap s.rows w z x.row E I Q O).mono fun e w' J=>?_
 obtain⟨u,F,D,H⟩:=J;obtain⟨A2,c2,rfl,_⟩:=D.view;exact⟨A2,c2,F,D,H⟩
def Kept(w wr:aa)(B:Nat)(A:an)(c:Nat)(rows:aE):Prop:=aX w A rows∨aJ wr B (.slice A rows c) rows
def Kept.rows{rows:aE}(h:Kept w wr B A c rows)(z:ai w wr):aX wr A rows:=by
 rcases h with h|h
 .exact h.ext z
 .exact xq h
def Kept.ext{rows:aE}(h:Kept w wr B A c rows)(z:ai wr E):Kept w E B A c rows:=h.imp id fun h=>h.ext z
def Kept.grown{rows:aE}{xs:bG}(h:Kept w wr B A c rows)(D:wr.ownsRow B' 29 5 v n xs)(z:wr.grownBy E v.ownBlock):Kept w E B A c rows:=h.imp id fun h=>h.ep RX RX D z
def ze2(p:Int)(s:Sy)(xs:List cS)(w:aa)(e:Ending)(w':aa):Prop:=
 (bO p s xs<xs.length->e=.returned (.tuple lN))/\
 (bO p s xs=xs.length->∃A c,e=.returned (.tuple #[.slice A xs c,.bool true])/\cB w' w (.slice A xs c) (qJ p s xs xs).reverse)/\ai w w'
def zhV(p:Int)(s:Sy)(xs:List cS)(w:aa)(k:Nat)(u8:au)(wr:aa):Prop:=
 k<=bO p s xs/\(∃z D us,u8=.slice z k D/\bq wr ((w:Nat)+1) (.slice z k D) (qJ p s xs k) us)/\
 (∃A1 c1,aU wr w (dj (dC p s xs k).v (dC p s xs k).h A1 (dC p s xs k).rows c1) 26/\Kept w wr ((w:Nat)+1) A1 c1 (dC p s xs k).rows)/\ai w wr
def z_(p:Int)(s:Sy)(A:an)(cap:Nat)(xs:List cS)(w:aa)(E:an)(J:Nat)(cF:dm w)(cI:aX w A s.rows)(cO:eD w E xs)(dT:s.Ok p)(fo:xs.length<=3000)(dc:∀x∈xs,x.row.length<=1048576):aw 51 (jv p (ae s.v s.h A s.rows cap) E xs J) w (ze2 p s xs w):=by
 obtain⟨e3,bv,Ft,en⟩:=fU cO cF dT dc;have d7:zhV p s xs w 0 (.slice (some ⟨(w:Nat)+1,0,none⟩) 0 0) ((w.alloc (.cells (ae s.v s.h A s.rows cap) 26)).alloc (.cells #[] 29)):=by
  have cz:Below w w (w.alloc (.cells (ae s.v s.h A s.rows cap) 26)):=(aj w w).alloc RS _;obtain⟨us,F⟩:=cB.lit (w.alloc (.cells (ae s.v s.h A s.rows cap) 26)) ((w:Nat)+1) RS;simp only[cg]at F;refine⟨bf _,⟨_,0,us,rfl,F⟩,⟨A,cap,?_,aF ?_⟩,cz.alloc cz.size _⟩
  .rw[gg];exact(b_ _ _ RS).trans (az _ _ rfl)
  .rw[gg];exact cI
 have co:=zH d7;clear cI cO cF dT dc d7;go_enter func51,ntmps51
 go_wp2;go_loopw [8,16] (fun u i wr=>∃k:Nat,k<=xs.length/\i=.int .i64 k/\zhV p s xs w k u wr)
  (fun _ i _=>xs.length-(intOf i).toNat)
 case atStart=>exact⟨0,bf _,rfl,co⟩
 case round=>
  obtain⟨k,fn,rfl,E4,⟨a2,a7,us,rfl,d3⟩,⟨A1,c1,d4,c9⟩,c0⟩:=hrel;clear co;obtain⟨Hm,a5,a4,H⟩:=fU d3 d4 c9 c0;obtain⟨I,Fs⟩:=aO (dC p s xs k);obtain⟨Fv,br⟩:=bS Fs (UM:I.Ok p);rw[<-Fs]at a5 a4;clear d3 d4 c9 c0 Fs;by_cases db:k<xs.length
  .obtain⟨x,bb⟩:=aB db;obtain⟨b,o,rfl,c4⟩:=e3.here db;obtain⟨be,b2,d9,c8⟩:=c4 k x bb;obtain⟨R,U,Y,Z,ab⟩:wS wr b (o+k*5) x be b2:=d9.ext H.o;obtain⟨bz,bp,ao⟩:=d_ (en x (a_ bb)) c8 bb;clear c4 c8 bb d9;go_upto_region 5 with(fail)
   obtain⟨cu,En⟩:=aO (wr.alloc (.cells (bB x.k x.a x.b x.c be x.row b2) 29));rw[<-En];have a8:ai wr cu:=Wc;have b7:aU cu wr (bB x.k x.a x.b x.c be x.row b2) 29:=UF;obtain⟨ac,e4,ad⟩:=d_ a8 b7 (af H.o a8);clear R U Y Z ab;obtain⟨d0,d1,d2,_⟩:=cL (ak a5 a8);obtain⟨R,U,Y,Z,ab⟩:=bH b7;clear a8 b7 En;cases a9:eI p I x with
   |false=>
    have HO:=zH a9;clear a9;have a6:=zH (fun(A cap W E J F ap a0)=>zgG p I x A cap W E J F ap a0 bz br HO);go_upto_region 6 with(go_at_call 41;refine(a6.o _ _ _ _ _ (bv.ext ad) ((a4.rows H.o).ext ac) (bp.ext ad)).mono ?_;rintro e bd ⟨f6,f7,f8,f9,A3,f5,c3,rfl,D⟩;clear d0 d1 d2 R U Y Z ab;have a3:=zH (af ad D);clear D)
    go_wp2;have b5:=tO E4 ao Un;refine ax (v:=.tuple lN) Vb rfl ⟨fun _=>rfl,fun h=>RU,a3.alloc a3.size _⟩
   |true=>
    have HO:=zH a9;clear a9;obtain⟨z,cb⟩:=aO (dL p I x);obtain⟨e5,a6⟩:=bS cb (fun(A cap W E J F ap a0)=>DJ p I x A cap W E J F ap a0 bz br HO);rw[<-cb]at a6;clear cb;obtain⟨Q,b9⟩:=aO (cE p I x);obtain⟨cn,ct⟩:=bS b9 (fun(A cap W E J F ap a0)=>CH p I x A cap W E J F ap a0 bz br HO);rw[<-b9]at ct;clear b9;go_upto_region 6 with(go_at_call 41;refine(a6.o _ _ _ _ _ (bv.ext ad) ((a4.rows H.o).ext ac) (bp.ext ad)).mono ?_;rintro e bd ⟨A3,c3,rfl,a1,D⟩;clear d0 d1 d2 R U Y Z ab;have a3:=zH D;have e0:=zH a1;clear a1 D)
    obtain⟨b0,GJ⟩:=aO (bd.alloc (.cells (bB z.k z.a z.b z.c A3 z.row c3) 29));rw[<-GJ];have b4:ai bd b0:=VZ;have d5:aU b0 bd (bB z.k z.a z.b z.c A3 z.row c3) 29:=UC;have b3:=af a3 b4;have O:=af ac b3;obtain⟨ea,cj⟩:=bS (af H.o O) (Hm.ext O);have ca:=e0.ext b4;have ei:=zH ((Hm.ext ac).fresh ca);have fz:=O.size;have fs:=(aM.1 a5).1;obtain⟨e1,cr,ev,ek⟩:=fU (ca.mono (B':=(w:Nat)+1) (by have:=ac.size;omega)) (ak e4 b3) (ak a5 O) (a4.ext O);obtain⟨e9,fa,fb,fd,fi⟩:=bH d5;clear b4 d5 b3 O ca GJ;have ci:=zH (oY p s xs k);go_upto_region 9 with(at_builtin;refine mU rfl (.tmp 29) (.tmp 31) rfl ((w:Nat)+1) b0 (.slice a2 k a7) (.slice A3 z.row c3) (qJ p s xs k) us z cj.o e1.o ei.o (by rw[ci.o];omega) RU rfl rfl ?_;intro e6 cy ga b6 c7 cR;rw[ci.o]at b6 ⊢;have es:=zH b6;have ce:=zH c7;have bm:=zH cR;clear b6 c7 cR e9 fa fb fd fi)
    have b8:=(bm.block w RU).trans ev;have d8:=(ce.block wr (by have:=(aM.1 cr).1;exact this) (fun e=>VN)).trans cr;obtain⟨ck,em,am⟩:=d_ b8 (ek.grown cj.outer ce) (ea.trans (bm.mono RU));obtain⟨d0,d1,d2⟩:=aq b8;obtain⟨R,U,Y,Z,ab⟩:=bH d8;clear b8 d8;go_wp2_with (go_at_call 34;refine(ct.o _ _ _ _ _ (bv.ext am) (em.rows am) (bp.ext am)).mono ?_;rintro e cc ⟨bi,b1,rfl,a1,D⟩;clear d0 d1 d2 R U Y Z ab;have bo:=zH D;have e2:=zH a1;obtain⟨d0,d1,d2,f0,f1,f2⟩:=cL (ak ck D);clear a1 D)
    have c5:zhV p s xs w (k+1) (.slice (aY e6) (k+1) cy) (((cc.setCell ⟨w,0,none⟩ (zI Q.v)).setCell ⟨w,1,none⟩ (zI Q.h)).setCell ⟨w,2,none⟩ (.slice bi Q.rows b1)):=by
     have f3:=am.size;have f4:=bm.size;have d6:∀j,(w:Nat)+1<=j->(((cc.setCell ⟨w,0,none⟩ (zI Q.v)).setCell ⟨w,1,none⟩ (zI Q.h)).setCell ⟨w,2,none⟩ (.slice bi Q.rows b1)).heap[j]?=cc.heap[j]?:=fun j fl=>Ym
     refine⟨tN E4 ao Un,⟨_,cy,us++[.slice A3 z.row c3],rfl,?_⟩,⟨bi,b1,?_,aA ?_⟩,dJ (af am bo) (ag _) _ _ _⟩
     .rw[Bc ao,<-Fv.o,<-e5.o];exact(es.ext bo).same d6
     .rw[dk ao,<-Fv.o,<-cn.o];exact gQ (ak ck bo)
     .rw[dk ao,<-Fv.o,<-cn.o];exact(e2.mono RU).same d6
    have eg:=zH c5;clear c5;go_roundw
    case rel=>exact⟨k+1,RU,RW,eg⟩
    case measure=>simp[intOf];omega
  .have da:k=xs.length:=RU;have b5:bO p s xs=xs.length:=Um;have ba:=CJ ((w:Nat)+1) a2 a7 (qJ p s xs k) wr (by rw[oY];exact⟨us,Hm⟩) (by rw[oY];omega);unfold zcF at ba;rw[oY]at ba;obtain⟨eA,ch,eb⟩:=d_ ba da b5;clear da b5 ba;go_wp2_with (go_at_call 92;refine eA.mono ?_;rintro e e8 ⟨rfl,dl,c6⟩;have eo:=zH dl;have ej:=zH c6;clear dl c6)
   have e7:ai w e8:=pU H.o ej (by have:=H.o.size;omega) (fun b D=>by have:=(Hm.lt _ D).1;omega);refine ax (v:=.tuple (pO a2 k a7)) Vb rfl ⟨fun h=>by have:=eb.o;omega,fun _=>⟨a2,a7,?_,?_⟩,e7⟩
   .rw[<-ch.o]
   .rw[<-ch.o];exact eo.mono RU
end Go.Proofs.YtdpgblncijojiaaGreatDoor
