/- Parts of the walks. Conditions: as stated with each. -/
import Derived.Test.YtdpgblncijojiaaGreatDoorPk5
import Derived.Test.YtdpgblncijojiaaGreatDoorPk7
namespace Go.Proofs.YtdpgblncijojiaaGreatDoor
open Go.RowKit Tryz
set_option linter.all false
set_option maxHeartbeats 4000000
def yj(a b:Int)(p v h:Int)(A:aq)(cap:Nat)(rows:aC)(w:aa)(hm:rows.length<=maxLen):ax 206 (eL (bI a b) p (ae v h A rows cap)) w fun e w'=>e=.returned (.bool (eW a 0 ((rows:Int)-1)&&(eW b 0 ((rows:Int)-1)&&(a !=b))))/\aj w w':=by
 have B:Below w w ((w.alloc (.cells (bI a b) 130)).alloc (.cells (ae v h A rows cap) 26)):=((ai w w).alloc Rx _).alloc Rx _;have HB:=zH B;clear B;have D:∀W:Ext ((w.alloc (.cells (bI a b) 130)).alloc (.cells (ae v h A rows cap) 26)),af W.W w 0 (zI a):=fun W=>W.cell Rx
 have E:∀W:Ext ((w.alloc (.cells (bI a b) 130)).alloc (.cells (ae v h A rows cap) 26)),af W.W w 1 (zI b):=fun W=>W.cell Rx
 have F:∀W:Ext ((w.alloc (.cells (bI a b) 130)).alloc (.cells (ae v h A rows cap) 26)),af W.W ((w:Nat)+1) 0 (zI v):=fun W=>W.cell Rx
 have H:∀W:Ext ((w.alloc (.cells (bI a b) 130)).alloc (.cells (ae v h A rows cap) 26)),af W.W ((w:Nat)+1) 1 (zI h):=fun W=>W.cell Rx
 have I:∀W:Ext ((w.alloc (.cells (bI a b) 130)).alloc (.cells (ae v h A rows cap) 26)),af W.W ((w:Nat)+1) 2 (.slice A rows cap):=fun W=>W.cell Rx
 cases h1:eW a 0 ((rows:Int)-1)
 .skip
  go_enter func206,ntmps206
  exact Y8
 cases z:eW b 0 ((rows:Int)-1)
 .skip
  go_enter func206,ntmps206
  go_upto_region 1 with(fail)
  refine cL ?_
  repeat (go_big_quiet_step (first|(go_at_call_of 209 a;exact Calls.eF (Calls.bj (dL _ _ _ _ _ _ _ hm) h1))|(go_at_call_of 209 b;exact Calls.eF (Calls.bj (dL _ _ _ _ _ _ _ hm) z))))
  exact XF
 go_enter func206,ntmps206
 go_upto_region 1 with(fail)
 refine cL ?_
 repeat (go_big_quiet_step (first|(go_at_call_of 209 a;exact Calls.eF (Calls.bj (dL _ _ _ _ _ _ _ hm) h1))|(go_at_call_of 209 b;exact Calls.eF (Calls.bj (dL _ _ _ _ _ _ _ hm) z))))
 refine dm ?_;rintro _ ⟨W,rfl⟩;go_wp2;go_ret
 exact⟨aO Rx,an HB W.ok⟩
def vX(a c:Int)(p v h:Int)(A:aq)(cap:Nat)(rows:aC)(w:aa)(hm:rows.length<=maxLen):ax 210 (eL (bI a c) p (ae v h A rows cap)) w fun e w'=>e=.returned (.bool (eW a 0 ((rows:Int)-1)&&(jD p c&&(c !=0))))/\aj w w':=by
 have B:Below w w ((w.alloc (.cells (bI a c) 132)).alloc (.cells (ae v h A rows cap) 26)):=((ai w w).alloc Rx _).alloc Rx _;have HB:=zH B;clear B;have D:∀W:Ext ((w.alloc (.cells (bI a c) 132)).alloc (.cells (ae v h A rows cap) 26)),af W.W w 0 (zI a):=fun W=>W.cell Rx
 have E:∀W:Ext ((w.alloc (.cells (bI a c) 132)).alloc (.cells (ae v h A rows cap) 26)),af W.W w 1 (zI c):=fun W=>W.cell Rx
 have F:∀W:Ext ((w.alloc (.cells (bI a c) 132)).alloc (.cells (ae v h A rows cap) 26)),af W.W ((w:Nat)+1) 0 (zI v):=fun W=>W.cell Rx
 have H:∀W:Ext ((w.alloc (.cells (bI a c) 132)).alloc (.cells (ae v h A rows cap) 26)),af W.W ((w:Nat)+1) 1 (zI h):=fun W=>W.cell Rx
 have I:∀W:Ext ((w.alloc (.cells (bI a c) 132)).alloc (.cells (ae v h A rows cap) 26)),af W.W ((w:Nat)+1) 2 (.slice A rows cap):=fun W=>W.cell Rx
 cases h1:eW a 0 ((rows:Int)-1)
 .skip
  go_enter func210,ntmps210
  exact Y8
 cases z:jD p c
 .skip
  go_enter func210,ntmps210
  go_upto_region 1 with(fail)
  refine cL ?_
  repeat (go_big_quiet_step (first|(go_at_call_of 209 a;exact Calls.eF (Calls.bj (dL _ _ _ _ _ _ _ hm) h1))|(go_at_call 131;exact Calls.cC (Calls.dN (kS _ _ _) z))))
  exact XF
 go_enter func210,ntmps210
 go_upto_region 1 with(fail)
 refine cL ?_
 repeat (go_big_quiet_step (first|(go_at_call_of 209 a;exact Calls.eF (Calls.bj (dL _ _ _ _ _ _ _ hm) h1))|(go_at_call 131;exact Calls.cC (Calls.dN (kS _ _ _) z))))
 refine dm ?_;rintro _ ⟨W,rfl⟩;go_wp2;go_ret
 exact⟨aO Rx,an HB W.ok⟩
def AW(a b c:Int)(p v h:Int)(A:aq)(cap:Nat)(rows:aC)(w:aa)(hm:rows.length<=maxLen):ax 213 (eL (fe a b c) p (ae v h A rows cap)) w fun e w'=>e=.returned (.bool (eW a 0 ((rows:Int)-1)&&(eW b 0 ((rows:Int)-1)&&((a !=b)&&jD p c))))/\aj w w':=by
 have z:Below w w ((w.alloc (.cells (fe a b c) 134)).alloc (.cells (ae v h A rows cap) 26)):=((ai w w).alloc Rx _).alloc Rx _;have HB:=zH z;clear z;have D:∀W:Ext ((w.alloc (.cells (fe a b c) 134)).alloc (.cells (ae v h A rows cap) 26)),af W.W w 0 (zI a):=fun W=>W.cell Rx
 have E:∀W:Ext ((w.alloc (.cells (fe a b c) 134)).alloc (.cells (ae v h A rows cap) 26)),af W.W w 1 (zI b):=fun W=>W.cell Rx
 have F:∀W:Ext ((w.alloc (.cells (fe a b c) 134)).alloc (.cells (ae v h A rows cap) 26)),af W.W w 2 (zI c):=fun W=>W.cell Rx
 have H:∀W:Ext ((w.alloc (.cells (fe a b c) 134)).alloc (.cells (ae v h A rows cap) 26)),af W.W ((w:Nat)+1) 0 (zI v):=fun W=>W.cell Rx
 have I:∀W:Ext ((w.alloc (.cells (fe a b c) 134)).alloc (.cells (ae v h A rows cap) 26)),af W.W ((w:Nat)+1) 1 (zI h):=fun W=>W.cell Rx
 have J:∀W:Ext ((w.alloc (.cells (fe a b c) 134)).alloc (.cells (ae v h A rows cap) 26)),af W.W ((w:Nat)+1) 2 (.slice A rows cap):=fun W=>W.cell Rx
 cases h1:eW a 0 ((rows:Int)-1)
 .skip
  go_enter func213,ntmps213
  exact Y8
 cases h2:eW b 0 ((rows:Int)-1)
 .skip
  exact Zn
 cases B:(a !=b)
 .skip
  exact Zn
 go_enter func213,ntmps213
 go_upto_region 1 with(fail)
 refine cL ?_
 repeat (go_big_quiet_step (first|(go_at_call_of 209 a;exact Calls.eF (Calls.bj (dL _ _ _ _ _ _ _ hm) h1))|(go_at_call_of 209 b;exact Calls.eF (Calls.bj (dL _ _ _ _ _ _ _ hm) h2))|(go_at_call 131;exact Calls.cC (kS _ _ _))))
 refine dm ?_;rintro _ ⟨W,rfl⟩;go_wp2;go_ret
 exact⟨aO Rx,an HB W.ok⟩
def yk(a:Int)(p v h:Int)(A:aq)(cap:Nat)(rows:aC)(w:aa)(hm:rows.length<=maxLen)(D:aL w A rows)(J:∀r∈rows,r.length<=maxLen):ax 216 (eL (bc a) p (ae v h A rows cap)) w fun e w'=>e=.returned (.bool (eW a 0 ((rows:Int)-1)&&x_ (rows.getD a.toNat [])))/\aj w w':=by
 have B:Below w w ((w.alloc (.cells (bc a) 136)).alloc (.cells (ae v h A rows cap) 26)):=((ai w w).alloc Rx _).alloc Rx _;have HB:=zH B;clear B;have ad:∀W:Ext ((w.alloc (.cells (bc a) 136)).alloc (.cells (ae v h A rows cap) 26)),af W.W w 0 (zI a):=fun W=>W.cell Rx
 have am:∀W:Ext ((w.alloc (.cells (bc a) 136)).alloc (.cells (ae v h A rows cap) 26)),af W.W ((w:Nat)+1) 0 (zI v):=fun W=>W.cell Rx
 have ao:∀W:Ext ((w.alloc (.cells (bc a) 136)).alloc (.cells (ae v h A rows cap) 26)),af W.W ((w:Nat)+1) 1 (zI h):=fun W=>W.cell Rx
 have ap:∀W:Ext ((w.alloc (.cells (bc a) 136)).alloc (.cells (ae v h A rows cap) 26)),af W.W ((w:Nat)+1) 2 (.slice A rows cap):=fun W=>W.cell Rx
 cases h1:eW a 0 ((rows:Int)-1)
 .skip
  go_enter func216,ntmps216
  exact Y8
 obtain⟨Z,ab⟩:0<=a/\a<=(rows:Int)-1:=SX;have I:a.toNat<rows.length:=Ry;obtain⟨r,hr⟩:=aw I;obtain⟨z,o,rfl,E⟩:=D.here I;obtain⟨O,U,F,H⟩:=E _ r hr;have ac:∀W:Ext ((w.alloc (.cells (bc a) 136)).alloc (.cells (ae v h (some ⟨z,o,none⟩) rows cap) 26)),af W.W z (o+a.toNat) (.slice O r U):=fun W=>ag (an HB W.ok) F
 obtain⟨Q,T,R⟩:=dD (fun W:Ext ((w.alloc (.cells (bc a) 136)).alloc (.cells (ae v h (some ⟨z,o,none⟩) rows cap) 26))=>H.ext (an HB W.ok)) (To:rows.getD a.toNat []=r) (J r (aR hr));clear hr E F H D J;go_enter func216,ntmps216
 go_upto_region 1 with(fail)
 refine cL ?_
 repeat (go_big_quiet_step (first|(go_at_call_of 209 a;exact Calls.eF (Calls.bj (dL _ _ _ _ _ _ _ hm) h1))|(go_at_call 219;exact Calls.cC (zbB _ _ _ _ (Q.o _) R.o))))
 refine dm ?_;rintro _ ⟨W,rfl⟩;go_wp2;go_ret
 exact⟨aO (by rw[T.o];simp),an HB W.ok⟩
def AX(a:Int)(p v h:Int)(A:aq)(cap:Nat)(rows:aC)(w:aa)(D:rows.length<=maxLen):ax 222 (eL (bc a) p (ae v h A rows cap)) w fun e w'=>e=.returned (.bool (eW a 0 (rows:Int)))/\aj w w':=by
 have z:Below w w ((w.alloc (.cells (bc a) 137)).alloc (.cells (ae v h A rows cap) 26)):=((ai w w).alloc Rx _).alloc Rx _;have B:=zH z;clear z;have E:∀W:Ext ((w.alloc (.cells (bc a) 137)).alloc (.cells (ae v h A rows cap) 26)),af W.W w 0 (zI a):=fun W=>W.cell Rx
 have F:∀W:Ext ((w.alloc (.cells (bc a) 137)).alloc (.cells (ae v h A rows cap) 26)),af W.W ((w:Nat)+1) 2 (.slice A rows cap):=fun W=>W.cell Rx
 go_enter func222,ntmps222
 go_upto_region 1 with(fail)
 refine cL ?_
 repeat (go_big_quiet_step ((go_at_call 39;exact Calls.cC (eB _ _ _ _))))
 refine dm ?_;rintro _ ⟨W,rfl⟩;go_wp2;go_ret
 exact⟨aO (by rfl),an B W.ok⟩
def tU(b:Int)(p v h:Int)(A:aq)(cap:Nat)(rows:aC)(w:aa)(D:rows.length<=maxLen):ax 249 (eL (bc b) p (ae v h A rows cap)) w fun e w'=>e=.returned (.bool (eW b 0 h))/\aj w w':=by
 have z:Below w w ((w.alloc (.cells (bc b) 143)).alloc (.cells (ae v h A rows cap) 26)):=((ai w w).alloc Rx _).alloc Rx _;have B:=zH z;clear z;have E:∀W:Ext ((w.alloc (.cells (bc b) 143)).alloc (.cells (ae v h A rows cap) 26)),af W.W w 0 (zI b):=fun W=>W.cell Rx
 have F:∀W:Ext ((w.alloc (.cells (bc b) 143)).alloc (.cells (ae v h A rows cap) 26)),af W.W ((w:Nat)+1) 1 (zI h):=fun W=>W.cell Rx
 go_enter func249,ntmps249
 go_upto_region 1 with(fail)
 refine cL ?_
 repeat (go_big_quiet_step ((go_at_call 39;exact Calls.cC (eB _ _ _ _))))
 refine dm ?_;rintro _ ⟨W,rfl⟩;go_wp2;go_ret
 exact⟨aO (by rfl),an B W.ok⟩
def tV(b:Int)(p v h:Int)(A:aq)(cap:Nat)(rows:aC)(w:aa)(O:rows.length<=maxLen)(D:aL w A rows)(Q:0<=v)(R:v<=24)(E:0<=h)(z:h<=100)(F:∀r∈rows,(r.length:Int)=v+h):ax 246 (eL (bc b) p (ae v h A rows cap)) w fun e w'=>e=.returned (.bool (eW b 0 (h-1)&&pF rows (v+b).toNat (-1)))/\aj w w':=by
 have B:Below w w ((w.alloc (.cells (bc b) 142)).alloc (.cells (ae v h A rows cap) 26)):=((ai w w).alloc Rx _).alloc Rx _;have HB:=zH B;clear B;have U:∀W:Ext ((w.alloc (.cells (bc b) 142)).alloc (.cells (ae v h A rows cap) 26)),af W.W w 0 (zI b):=fun W=>W.cell Rx
 have Z:∀W:Ext ((w.alloc (.cells (bc b) 142)).alloc (.cells (ae v h A rows cap) 26)),af W.W ((w:Nat)+1) 0 (zI v):=fun W=>W.cell Rx
 have ab:∀W:Ext ((w.alloc (.cells (bc b) 142)).alloc (.cells (ae v h A rows cap) 26)),af W.W ((w:Nat)+1) 1 (zI h):=fun W=>W.cell Rx
 have ac:∀W:Ext ((w.alloc (.cells (bc b) 142)).alloc (.cells (ae v h A rows cap) 26)),af W.W ((w:Nat)+1) 2 (.slice A rows cap):=fun W=>W.cell Rx
 cases h1:eW b 0 (h-1)
 .skip
  go_enter func246,ntmps246
  go_upto_region 1 with(fail)
  refine cL ?_
  repeat (go_big_quiet_step ((go_at_call 233;exact Calls.eF (Calls.bj (kK _ _ _ _ _ E z) h1))))
  exact XF
 obtain⟨J,T⟩:0<=b/\b<=h-1:=SX;obtain⟨I,H⟩:=bL (fun W:Ext ((w.alloc (.cells (bc b) 142)).alloc (.cells (ae v h A rows cap) 26))=>D.ext (an HB W.ok)) F;clear D F;go_enter func246,ntmps246
 go_upto_region 1 with(fail)
 refine cL ?_
 repeat (go_big_quiet_step (first|(go_at_call 233;exact Calls.eF (Calls.bj (kK _ _ _ _ _ E z) h1))|(go_at_call 234;exact Calls.eF (zY _ _ _ _ _ _ _ _ (I.o _) O Q R z J Ry H.o))))
 refine dm ?_;rintro _ ⟨W,rfl⟩;go_wp2;go_ret
 exact⟨aO Rx,an HB W.ok⟩
def vY(a b:Int)(p v h:Int)(A:aq)(cap:Nat)(rows:aC)(w:aa)(hm:rows.length<=maxLen)(B:aL w A rows)(ap:0<=v)(a0:v<=24)(hh:0<=h)(Kw:h<=100)(E:∀r∈rows,(r.length:Int)=v+h):ax 230 (eL (bI a b) p (ae v h A rows cap)) w fun e w'=>e=.returned (.bool (eW a 0 ((rows:Int)-1)&&(eW b 0 (h-1)&&(((rows.getD a.toNat []).getD (v+b).toNat 0 !=0)&&pF rows (v+b).toNat a))))/\aj w w':=by
 have F:Below w w ((w.alloc (.cells (bI a b) 138)).alloc (.cells (ae v h A rows cap) 26)):=((ai w w).alloc Rx _).alloc Rx _;have HB:=zH F;clear F;have bb:∀W:Ext ((w.alloc (.cells (bI a b) 138)).alloc (.cells (ae v h A rows cap) 26)),af W.W w 0 (zI a):=fun W=>W.cell Rx
 have bd:∀W:Ext ((w.alloc (.cells (bI a b) 138)).alloc (.cells (ae v h A rows cap) 26)),af W.W w 1 (zI b):=fun W=>W.cell Rx
 have be:∀W:Ext ((w.alloc (.cells (bI a b) 138)).alloc (.cells (ae v h A rows cap) 26)),af W.W ((w:Nat)+1) 0 (zI v):=fun W=>W.cell Rx
 have bi:∀W:Ext ((w.alloc (.cells (bI a b) 138)).alloc (.cells (ae v h A rows cap) 26)),af W.W ((w:Nat)+1) 1 (zI h):=fun W=>W.cell Rx
 have bm:∀W:Ext ((w.alloc (.cells (bI a b) 138)).alloc (.cells (ae v h A rows cap) 26)),af W.W ((w:Nat)+1) 2 (.slice A rows cap):=fun W=>W.cell Rx
 cases h1:eW a 0 ((rows:Int)-1)
 .skip
  go_enter func230,ntmps230
  go_upto_region 1 with(fail)
  refine bM RU RU ?_
  repeat (go_big_quiet_step ((go_at_call_of 209 a;exact Calls.eF (Calls.bj (dL _ _ _ _ _ _ _ hm) h1))))
  exact XF
 cases h2:eW b 0 (h-1)
 .skip
  exact Zp
 obtain⟨ac,a5⟩:0<=b/\b<=h-1:=by simpa[eW]using h2
 obtain⟨a3,a4⟩:0<=a/\a<=(rows:Int)-1:=SX;have O:a.toNat<rows.length:=Ry;obtain⟨r,hr⟩:=aw O;obtain⟨z,o,rfl,H⟩:=B.here O;obtain⟨R,am,J,D⟩:=H _ r hr;have a9:∀W:Ext ((w.alloc (.cells (bI a b) 138)).alloc (.cells (ae v h (some ⟨z,o,none⟩) rows cap) 26)),af W.W z (o+a.toNat) (.slice R r am):=fun W=>ag (an HB W.ok) J
 obtain⟨a2,Z,U,T⟩:=fS (fun W:Ext ((w.alloc (.cells (bI a b) 138)).alloc (.cells (ae v h (some ⟨z,o,none⟩) rows cap) 26))=>D.ext (an HB W.ok)) (To:rows.getD a.toNat []=r) (fun W:Ext ((w.alloc (.cells (bI a b) 138)).alloc (.cells (ae v h (some ⟨z,o,none⟩) rows cap) 26))=>B.ext (an HB W.ok)) E;have ao:=E r (aR hr);have Q:(v+b).toNat<r.length:=Ry;obtain⟨x,hx⟩:=aw Q;obtain⟨ad,a1,rfl,I⟩:=D.here Q;have ba:∀W:Ext ((w.alloc (.cells (bI a b) 138)).alloc (.cells (ae v h (some ⟨z,o,none⟩) rows cap) 26)),af W.W ad (a1+(v+b).toNat) (zI x):=fun W=>ag (an HB W.ok) (I _ _ hx)
 have ab:=zH (Tn:r.getD (v+b).toNat 0=x);have a7:0<=v+b:=Ry;have a8:v+b < (r:Int):=Ry;clear hr H J D B E hx I;clear ao;rw[Z.o,ab.o];cases a6:(x !=0)
 .skip
  exact Zp
 go_enter func230,ntmps230
 go_upto_region 1 with(fail)
 refine bM RU RU ?_
 repeat (go_big_quiet_step (first|(go_at_call_of 209 a;exact Calls.eF (Calls.bj (dL _ _ _ _ _ _ _ hm) h1))|(go_at_call 233;exact Calls.eF (Calls.bj (kK _ _ _ _ _ hh Kw) h2))|(go_at_call 234;exact Calls.eF (zY _ _ _ _ _ _ _ _ (U.o _) hm ap a0 Kw ac Ry T))))
 refine dm ?_;rintro _ ⟨W,rfl⟩;go_wp2;go_ret
 exact⟨aO Rx,an HB W.ok⟩
def vZ(a b:Int)(z:aq)(B:Nat)(row:aH)(p v h:Int)(A:aq)(cap:Nat)(rows:aC)(w:aa)(a2:rows.length<=maxLen)(H:aU w z row)(Z:row.length<=maxLen)(J:0<=v)(a3:v<=24)(I:0<=h)(ap:h<=100):ax 237 (eL (ae a b z row B) p (ae v h A rows cap)) w fun e w'=>e=.returned (.bool (eW a 0 (rows:Int)&&(eW b 0 h&&(pE p row (v+h+1)&&(row.getD (v+b).toNat 0 !=0)))))/\aj w w':=by
 have R:Below w w ((w.alloc (.cells (ae a b z row B) 140)).alloc (.cells (ae v h A rows cap) 26)):=((ai w w).alloc Rx _).alloc Rx _;have HB:=zH R;clear R;have a5:∀W:Ext ((w.alloc (.cells (ae a b z row B) 140)).alloc (.cells (ae v h A rows cap) 26)),af W.W w 0 (zI a):=fun W=>W.cell Rx
 have a6:∀W:Ext ((w.alloc (.cells (ae a b z row B) 140)).alloc (.cells (ae v h A rows cap) 26)),af W.W w 1 (zI b):=fun W=>W.cell Rx
 have a7:∀W:Ext ((w.alloc (.cells (ae a b z row B) 140)).alloc (.cells (ae v h A rows cap) 26)),af W.W w 2 (.slice z row B):=fun W=>W.cell Rx
 have a8:∀W:Ext ((w.alloc (.cells (ae a b z row B) 140)).alloc (.cells (ae v h A rows cap) 26)),af W.W ((w:Nat)+1) 0 (zI v):=fun W=>W.cell Rx
 have a9:∀W:Ext ((w.alloc (.cells (ae a b z row B) 140)).alloc (.cells (ae v h A rows cap) 26)),af W.W ((w:Nat)+1) 1 (zI h):=fun W=>W.cell Rx
 have ba:∀W:Ext ((w.alloc (.cells (ae a b z row B) 140)).alloc (.cells (ae v h A rows cap) 26)),af W.W ((w:Nat)+1) 2 (.slice A rows cap):=fun W=>W.cell Rx
 have O:=zH (fun W:Ext ((w.alloc (.cells (ae a b z row B) 140)).alloc (.cells (ae v h A rows cap) 26))=>H.ext (an HB W.ok));cases E:eW a 0 (rows:Int)
 .skip
  go_enter func237,ntmps237
  go_upto_region 1 with(fail)
  refine bM RU RU ?_
  repeat (go_big_quiet_step ((go_at_call_of 39 a;exact Calls.cC (Calls.dN (eB _ _ _ _) E))))
  exact XF
 cases F:eW b 0 h
 .skip
  go_enter func237,ntmps237
  go_upto_region 1 with(fail)
  refine bM RU RU ?_
  repeat (go_big_quiet_step (first|(go_at_call 66;exact Calls.eF (pC v h _ _ J Ry I Ry))|(go_at_call_of 39 a;exact Calls.cC (Calls.dN (eB _ _ _ _) E))|(go_at_call_of 39 b;exact Calls.cC (Calls.dN (eB _ _ _ _) F))))
  exact XF
 obtain⟨am,ao⟩:0<=b/\b<=h:=by simpa[eW]using F
 cases D:pE p row (v+h+1)
 .skip
  go_enter func237,ntmps237
  go_upto_region 1 with(fail)
  refine bM RU RU ?_
  repeat (go_big_quiet_step (first|(go_at_call 66;exact Calls.eF (pC v h _ _ J Ry I Ry))|(go_at_call_of 39 a;exact Calls.cC (Calls.dN (eB _ _ _ _) E))|(go_at_call_of 39 b;exact Calls.cC (Calls.dN (eB _ _ _ _) F))|(go_at_call 107;exact Calls.cC (Calls.dN (nf _ _ _ _ _ _ (O.o _) Z) D))))
  exact XF
 have ad:(row:Int)=v+h+1:=by unfold pE at D;rw[bn,cw]at D;exact D.1
 have U:(v+b).toNat<row.length:=Ry;obtain⟨x,hx⟩:=aw U;obtain⟨Q,ab,rfl,T⟩:=H.here U;have a4:∀W:Ext ((w.alloc (.cells (ae a b (some ⟨Q,ab,none⟩) row B) 140)).alloc (.cells (ae v h A rows cap) 26)),af W.W Q (ab+(v+b).toNat) (zI x):=fun W=>ag (an HB W.ok) (T _ _ hx)
 have ac:=zH (Tn:row.getD (v+b).toNat 0=x);have a0:0<=v+b:=Ry;have a1:v+b < (row:Int):=Ry;clear H hx T;clear ad;rw[ac.o];go_enter func237,ntmps237
 go_upto_region 1 with(fail)
 refine bM RU RU ?_
 repeat (go_big_quiet_step (first|(go_at_call 66;exact Calls.eF (pC v h _ _ J Ry I Ry))|(go_at_call_of 39 a;exact Calls.cC (Calls.dN (eB _ _ _ _) E))|(go_at_call_of 39 b;exact Calls.cC (Calls.dN (eB _ _ _ _) F))|(go_at_call 107;exact Calls.cC (Calls.dN (nf _ _ _ _ _ _ (O.o _) Z) D))))
 refine dm ?_;rintro _ ⟨W,rfl⟩;go_wp2;go_ret
 exact⟨aO Rx,an HB W.ok⟩
def zfC(a b p v h:Int)(A:aq)(cap:Nat)(rows:aC)(w:aa):ax 208 (eL (bI a b) p (ae v h A rows cap)) w fun e w'=>∃u,e=.returned (.agg #[.int .i64 1,a,b,(),u])/\au w' w u []/\aj w w':=by
 go_enter func208,ntmps208
 go_wp2;refine az (v:=.agg #[.int .i64 1,a,b,(),fA]) (by simp[results,results208,go_sem]) rfl ⟨_,rfl,au.nil _ _,?_⟩;exact below_alloc3 w _ _ _
def zfD(a p v h:Int)(A:aq)(cap:Nat)(rows:aC)(w:aa):ax 218 (eL (bc a) p (ae v h A rows cap)) w fun e w'=>∃u,e=.returned (.agg #[.int .i64 5,a,(),(),u])/\au w' w u []/\aj w w':=by
 go_enter func218,ntmps218
 go_wp2;refine az (v:=.agg #[.int .i64 5,a,(),(),fA]) (by simp[results,results218,go_sem]) rfl ⟨_,rfl,au.nil _ _,?_⟩;exact below_alloc3 w _ _ _
def zg9(a p v h:Int)(A:aq)(cap:Nat)(rows:aC)(w:aa):ax 224 (eL (bc a) p (ae v h A rows cap)) w fun e w'=>∃u,e=.returned (.agg #[.int .i64 4,a,(),(),u])/\au w' w u []/\aj w w':=by
 go_enter func224,ntmps224
 go_wp2;refine az (v:=.agg #[.int .i64 4,a,(),(),fA]) (by simp[results,results224,go_sem]) rfl ⟨_,rfl,au.nil _ _,?_⟩;exact below_alloc3 w _ _ _
def zdT(a b p v h:Int)(A:aq)(cap:Nat)(rows:aC)(w:aa)(z:aq)(n B:Nat):ax 239 (eL (dp a b z n B) p (ae v h A rows cap)) w fun e w'=>∃u,e=.returned (.agg #[.int .i64 6,a,b,(),u])/\au w' w u []/\aj w w':=by
 go_enter func239,ntmps239
 go_wp2;refine az (v:=.agg #[.int .i64 6,a,b,(),fA]) (by simp[results,results239,go_sem]) rfl ⟨_,rfl,au.nil _ _,?_⟩;exact below_alloc3 w _ _ _
def zbD(b p v h:Int)(A:aq)(cap:Nat)(rows:aC)(w:aa):ax 248 (eL (bc b) p (ae v h A rows cap)) w fun e w'=>∃u,e=.returned (.agg #[.int .i64 9,(),b,(),u])/\au w' w u []/\aj w w':=by
 go_enter func248,ntmps248
 go_wp2;refine az (v:=.agg #[.int .i64 9,(),b,(),fA]) (by simp[results,results248,go_sem]) rfl ⟨_,rfl,au.nil _ _,?_⟩;exact below_alloc3 w _ _ _
def zbE(b p v h:Int)(A:aq)(cap:Nat)(rows:aC)(w:aa):ax 251 (eL (bc b) p (ae v h A rows cap)) w fun e w'=>∃u,e=.returned (.agg #[.int .i64 8,(),b,(),u])/\au w' w u []/\aj w w':=by
 go_enter func251,ntmps251
 go_wp2;refine az (v:=.agg #[.int .i64 8,(),b,(),fA]) (by simp[results,results251,go_sem]) rfl ⟨_,rfl,au.nil _ _,?_⟩;exact below_alloc3 w _ _ _
def zdU(a c p v h:Int)(A:aq)(cap:Nat)(rows:aC)(w:aa)(z:cP p=true)(D:1<=c)(E:c<p):ax 212 (eL (bI a c) p (ae v h A rows cap)) w fun e w'=>∃u,e=.returned (.agg #[.int .i64 2,a,(),.int .i64 (ec p c),u])/\au w' w u []/\aj w w':=by
 have B:=zH z;clear z;go_enter func212,ntmps212
 go_wp2;go_region_held3 (fun W=>af W w 0 (zI a)/\af W w 1 (zI c)) (go_keep)
  ((go_at_call 129;refine(oJ p c _ B D E).mono ?_;rintro e w' ⟨rfl,rfl⟩))
 go_wp2;refine az (v:=.agg #[.int .i64 2,a,(),.int .i64 (ec p c),fA]) (by simp[results,results212,go_sem]) rfl ⟨_,rfl,au.nil _ _,?_⟩;exact(below_alloc3 w _ _ _).drew
def zg_(a b c p v h:Int)(A:aq)(cap:Nat)(rows:aC)(w:aa)(D:2<=p)(E:p<=97)(z:0<=c)(B:c<p):ax 215 (eL (fe a b c) p (ae v h A rows cap)) w fun e w'=>∃u,e=.returned (.agg #[.int .i64 3,a,b,.int .i64 ((p-c)%p),u])/\au w' w u []/\aj w w':=by
 go_enter func215,ntmps215
 go_wp2;have F:IntKind.i64.wrap (p-c)=p-c:=Sq;go_region_held3 (fun W=>af W w 0 (zI a)/\af W w 1 (zI b)/\af W w 2 (zI c)) (go_keep)
  ((go_at_call 143;refine(Dc p (p-c) _ Ry Ry Ry Ry).mono ?_;rintro e w' ⟨rfl,rfl⟩))
 go_wp2;refine az (v:=.agg #[.int .i64 3,a,b,.int .i64 ((p-c)%p),fA]) (by simp[results,results215,go_sem]) rfl ⟨_,rfl,au.nil _ _,?_⟩;exact(below_alloc3 w _ _ _).drew
def zdV(a b p v h:Int)(A:aq)(cap:Nat)(rows:aC)(w:aa)(Z:aL w A rows)(ba:0<=a)(bb:a<rows.length)(ao:∀r∈rows,r.length<=1048576):ax 232 (eL (bI a b) p (ae v h A rows cap)) w fun e w'=>∃u,e=.returned (.agg #[.int .i64 7,a,b,(),u])/\au w' w u (rows.getD a.toNat [])/\aj w w':=by
 obtain⟨r,hr⟩:=aw (Ry:a.toNat<rows.length);obtain⟨z,o,rfl,ad⟩:=Z.here (Ry:a.toNat<rows.length);obtain⟨T,U,J,am⟩:=ad _ r hr;obtain⟨HG,Fu⟩:=bL (To:rows.getD a.toNat []=r) (ao r (aR hr));have E:=below_alloc3 w (.cells (bI a b) 138) (.cells (ae v h (some ⟨z,o,none⟩) rows cap) 26) (.cells dH 29);have ac:z < (w:Nat):=iK _ _ J;obtain⟨F,EY⟩:=aK (((w.alloc (.cells (bI a b) 138)).alloc (.cells (ae v h (some ⟨z,o,none⟩) rows cap) 26)).alloc (.cells dH 29));obtain⟨I,Q,R⟩:=cv w (.cells (bI a b) 138) (.cells (ae v h (some ⟨z,o,none⟩) rows cap) 26) (.cells dH 29);rw[<-EY]at E I Q R;have D:=zH (show ∀W,aj F W->af W w 0 (zI a)/\af W w 1 (zI b)/\af W ((w:Nat)+1) 2 (.slice (some ⟨z,o,none⟩) rows cap)/\af W z (o+a.toNat) (.slice T r U) from
  fun W H=>⟨aV (cp H I) 0,aV (cp H I) 1,aV (cp H Q) 2,ag (an E H) J⟩)
 obtain⟨a2,a0,a6,a1,a5⟩:=l_ (am.ext E) E R ac EY;have ap:(F:Nat)=w+3:=Sc;have a3:=zH ap;clear Z ad J am hr ao E I Q R ac ap EY;go_enter func232,ntmps232
 go_wp2;rw[<-a5.o];go_region_held3 (fun W=>af W w 0 (zI a)/\af W w 1 (zI b)/\af W ((w:Nat)+1) 2 (.slice (some ⟨z,o,none⟩) rows cap)/\af W z (o+a.toNat) (.slice T r U)) (first|exact D.o _ (ai _ _).drew|exact D.o _ B.o|exact⟨(lg Sn).trans (D.o _ B.o).1,(lg Sn).trans (D.o _ B.o).2.1,(lg Sn).trans (D.o _ B.o).2.2.1,(lg (by have:=a1.o;simp<;>omega)).trans (D.o _ B.o).2.2.2⟩)
  ((go_at_call 121;refine(xN _ _ _ _ (a2.ext ?_) Tq).mono ?_;exact(ai _ _).drew;rintro e be ⟨u,rfl,O,ab⟩;obtain⟨A2,c2,rfl,_⟩:=O.view;have B:=zH ((ai F F).drew.trans ab);have a4:=zH O;clear O ab;obtain⟨⟨a7,c1,a8,c3,a9⟩,f0,f1,f2,f3,f4⟩:=m6 B a6))
 have bd:=a3.o;have HO:=a4.o;simp only[World.size_drew]at HO;go_wp2;refine az (v:=.agg #[.int .i64 7,a,b,(),.slice A2 r c2]) (by simp[results,results232,go_sem, *]) rfl ⟨_,rfl,?_,?_⟩
 .exact Y7
 .exact gN (an a0 B) Ry _ _ _ _ _
end Go.Proofs.YtdpgblncijojiaaGreatDoor
