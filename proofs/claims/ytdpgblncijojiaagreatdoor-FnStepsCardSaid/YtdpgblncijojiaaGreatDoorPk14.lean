/- Parts of the walks. Conditions: as stated with each. -/
import Derived.Test.YtdpgblncijojiaaGreatDoorPk13
namespace Go.Proofs.YtdpgblncijojiaaGreatDoor
open Go.RowKit Tryz
set_option linter.all false
set_option maxHeartbeats 4000000
set_option maxRecDepth 100000
variable{E RL W w:aa}{b r:Nat}{cs:gh}{g:Gr}{p:Int}{ps:qx}{row:Option Nat}{xs:aG}
def xa(a b:Int)(p v h:Int)(A:an)(cap:Nat)(rows:aE)(w:aa)(hm:rows.length<=maxLen):aw 206 (eQ (bP a b) p (ae v h A rows cap)) w fun e w'=>e=.returned (.bool (eX a 0 ((rows:Int)-1)&&(eX b 0 ((rows:Int)-1)&&(a !=b))))/\ai w w':=by
 have D:Below w w ((w.alloc (.cells (bP a b) 130)).alloc (.cells (ae v h A rows cap) 26)):=((aj w w).alloc RS _).alloc RS _;have HB:=zH D;clear D;have E:∀W:Ext ((w.alloc (.cells (bP a b) 130)).alloc (.cells (ae v h A rows cap) 26)),ah W.W w 0 (zI a):=fun W=>W.cell RS
 have F:∀W:Ext ((w.alloc (.cells (bP a b) 130)).alloc (.cells (ae v h A rows cap) 26)),ah W.W w 1 (zI b):=fun W=>W.cell RS
 have H:∀W:Ext ((w.alloc (.cells (bP a b) 130)).alloc (.cells (ae v h A rows cap) 26)),ah W.W ((w:Nat)+1) 0 (zI v):=fun W=>W.cell RS
 have I:∀W:Ext ((w.alloc (.cells (bP a b) 130)).alloc (.cells (ae v h A rows cap) 26)),ah W.W ((w:Nat)+1) 1 (zI h):=fun W=>W.cell RS
 have J:∀W:Ext ((w.alloc (.cells (bP a b) 130)).alloc (.cells (ae v h A rows cap) 26)),ah W.W ((w:Nat)+1) 2 (.slice A rows cap):=fun W=>W.cell RS
 cases h1:eX a 0 ((rows:Int)-1)
 .skip
  go_enter func206,ntmps206
  exact Zg
 cases z:eX b 0 ((rows:Int)-1)
 .skip
  go_enter func206,ntmps206
  go_upto_region 1 with(fail)
  refine cV ?_
  repeat (go_big_quiet_step (first|(go_at_call_of 209 a;exact Calls.eJ (Calls.bl (dV _ _ _ _ _ _ _ hm) h1))|(go_at_call_of 209 b;exact Calls.eJ (Calls.bl (dV _ _ _ _ _ _ _ hm) z))))
  exact XV
 go_enter func206,ntmps206
 go_upto_region 1 with(fail)
 refine cV ?_
 repeat (go_big_quiet_step (first|(go_at_call_of 209 a;exact Calls.eJ (Calls.bl (dV _ _ _ _ _ _ _ hm) h1))|(go_at_call_of 209 b;exact Calls.eJ (Calls.bl (dV _ _ _ _ _ _ _ hm) z))))
 refine dF ?_;rintro _ ⟨W,rfl⟩;go_wp2;go_ret
 exact⟨aS RS,af HB W.ok⟩
def vd(a c:Int)(p v h:Int)(A:an)(cap:Nat)(rows:aE)(w:aa)(hm:rows.length<=maxLen):aw 210 (eQ (bP a c) p (ae v h A rows cap)) w fun e w'=>e=.returned (.bool (eX a 0 ((rows:Int)-1)&&(jr p c&&(c !=0))))/\ai w w':=by
 have D:Below w w ((w.alloc (.cells (bP a c) 132)).alloc (.cells (ae v h A rows cap) 26)):=((aj w w).alloc RS _).alloc RS _;have HB:=zH D;clear D;have E:∀W:Ext ((w.alloc (.cells (bP a c) 132)).alloc (.cells (ae v h A rows cap) 26)),ah W.W w 0 (zI a):=fun W=>W.cell RS
 have F:∀W:Ext ((w.alloc (.cells (bP a c) 132)).alloc (.cells (ae v h A rows cap) 26)),ah W.W w 1 (zI c):=fun W=>W.cell RS
 have H:∀W:Ext ((w.alloc (.cells (bP a c) 132)).alloc (.cells (ae v h A rows cap) 26)),ah W.W ((w:Nat)+1) 0 (zI v):=fun W=>W.cell RS
 have I:∀W:Ext ((w.alloc (.cells (bP a c) 132)).alloc (.cells (ae v h A rows cap) 26)),ah W.W ((w:Nat)+1) 1 (zI h):=fun W=>W.cell RS
 have J:∀W:Ext ((w.alloc (.cells (bP a c) 132)).alloc (.cells (ae v h A rows cap) 26)),ah W.W ((w:Nat)+1) 2 (.slice A rows cap):=fun W=>W.cell RS
 cases h1:eX a 0 ((rows:Int)-1)
 .skip
  go_enter func210,ntmps210
  exact Zg
 cases z:jr p c
 .skip
  go_enter func210,ntmps210
  go_upto_region 1 with(fail)
  refine cV ?_
  repeat (go_big_quiet_step (first|(go_at_call_of 209 a;exact Calls.eJ (Calls.bl (dV _ _ _ _ _ _ _ hm) h1))|(go_at_call 131;exact Calls.cQ (Calls.dQ (kB _ _ _) z))))
  exact XV
 go_enter func210,ntmps210
 go_upto_region 1 with(fail)
 refine cV ?_
 repeat (go_big_quiet_step (first|(go_at_call_of 209 a;exact Calls.eJ (Calls.bl (dV _ _ _ _ _ _ _ hm) h1))|(go_at_call 131;exact Calls.cQ (Calls.dQ (kB _ _ _) z))))
 refine dF ?_;rintro _ ⟨W,rfl⟩;go_wp2;go_ret
 exact⟨aS RS,af HB W.ok⟩
def zB(a b c:Int)(p v h:Int)(A:an)(cap:Nat)(rows:aE)(w:aa)(hm:rows.length<=maxLen):aw 213 (eQ (fB a b c) p (ae v h A rows cap)) w fun e w'=>e=.returned (.bool (eX a 0 ((rows:Int)-1)&&(eX b 0 ((rows:Int)-1)&&((a !=b)&&jr p c))))/\ai w w':=by
 have z:Below w w ((w.alloc (.cells (fB a b c) 134)).alloc (.cells (ae v h A rows cap) 26)):=((aj w w).alloc RS _).alloc RS _;have HB:=zH z;clear z;have E:∀W:Ext ((w.alloc (.cells (fB a b c) 134)).alloc (.cells (ae v h A rows cap) 26)),ah W.W w 0 (zI a):=fun W=>W.cell RS
 have F:∀W:Ext ((w.alloc (.cells (fB a b c) 134)).alloc (.cells (ae v h A rows cap) 26)),ah W.W w 1 (zI b):=fun W=>W.cell RS
 have H:∀W:Ext ((w.alloc (.cells (fB a b c) 134)).alloc (.cells (ae v h A rows cap) 26)),ah W.W w 2 (zI c):=fun W=>W.cell RS
 have I:∀W:Ext ((w.alloc (.cells (fB a b c) 134)).alloc (.cells (ae v h A rows cap) 26)),ah W.W ((w:Nat)+1) 0 (zI v):=fun W=>W.cell RS
 have J:∀W:Ext ((w.alloc (.cells (fB a b c) 134)).alloc (.cells (ae v h A rows cap) 26)),ah W.W ((w:Nat)+1) 1 (zI h):=fun W=>W.cell RS
 have O:∀W:Ext ((w.alloc (.cells (fB a b c) 134)).alloc (.cells (ae v h A rows cap) 26)),ah W.W ((w:Nat)+1) 2 (.slice A rows cap):=fun W=>W.cell RS
 cases h1:eX a 0 ((rows:Int)-1)
 .skip
  go_enter func213,ntmps213
  exact Zg
 cases h2:eX b 0 ((rows:Int)-1)
 .skip
  exact Zr
 cases D:(a !=b)
 .skip
  exact Zr
 go_enter func213,ntmps213
 go_upto_region 1 with(fail)
 refine cV ?_
 repeat (go_big_quiet_step (first|(go_at_call_of 209 a;exact Calls.eJ (Calls.bl (dV _ _ _ _ _ _ _ hm) h1))|(go_at_call_of 209 b;exact Calls.eJ (Calls.bl (dV _ _ _ _ _ _ _ hm) h2))|(go_at_call 131;exact Calls.cQ (kB _ _ _))))
 refine dF ?_;rintro _ ⟨W,rfl⟩;go_wp2;go_ret
 exact⟨aS RS,af HB W.ok⟩
def xb(a:Int)(p v h:Int)(A:an)(cap:Nat)(rows:aE)(w:aa)(hm:rows.length<=maxLen)(E:aX w A rows)(O:∀r∈rows,r.length<=maxLen):aw 216 (eQ (bg a) p (ae v h A rows cap)) w fun e w'=>e=.returned (.bool (eX a 0 ((rows:Int)-1)&&wU (rows.getD a.toNat [])))/\ai w w':=by
 have D:Below w w ((w.alloc (.cells (bg a) 136)).alloc (.cells (ae v h A rows cap) 26)):=((aj w w).alloc RS _).alloc RS _;have HB:=zH D;clear D;have am:∀W:Ext ((w.alloc (.cells (bg a) 136)).alloc (.cells (ae v h A rows cap) 26)),ah W.W w 0 (zI a):=fun W=>W.cell RS
 have ao:∀W:Ext ((w.alloc (.cells (bg a) 136)).alloc (.cells (ae v h A rows cap) 26)),ah W.W ((w:Nat)+1) 0 (zI v):=fun W=>W.cell RS
 have ap:∀W:Ext ((w.alloc (.cells (bg a) 136)).alloc (.cells (ae v h A rows cap) 26)),ah W.W ((w:Nat)+1) 1 (zI h):=fun W=>W.cell RS
 have a0:∀W:Ext ((w.alloc (.cells (bg a) 136)).alloc (.cells (ae v h A rows cap) 26)),ah W.W ((w:Nat)+1) 2 (.slice A rows cap):=fun W=>W.cell RS
 cases h1:eX a 0 ((rows:Int)-1)
 .skip
  go_enter func216,ntmps216
  exact Zg
 obtain⟨ab,ac⟩:0<=a/\a<=(rows:Int)-1:=Tn;have J:a.toNat<rows.length:=RU;obtain⟨r,hr⟩:=aB J;obtain⟨z,o,rfl,F⟩:=E.here J;obtain⟨Q,Z,H,I⟩:=F _ r hr;have ad:∀W:Ext ((w.alloc (.cells (bg a) 136)).alloc (.cells (ae v h (some ⟨z,o,none⟩) rows cap) 26)),ah W.W z (o+a.toNat) (.slice Q r Z):=fun W=>av (af HB W.ok) H
 obtain⟨R,Y,U⟩:=d_ (fun W:Ext ((w.alloc (.cells (bg a) 136)).alloc (.cells (ae v h (some ⟨z,o,none⟩) rows cap) 26))=>I.ext (af HB W.ok)) (TD:rows.getD a.toNat []=r) (O r (a_ hr));clear hr F H I E O;go_enter func216,ntmps216
 go_upto_region 1 with(fail)
 refine cV ?_
 repeat (go_big_quiet_step (first|(go_at_call_of 209 a;exact Calls.eJ (Calls.bl (dV _ _ _ _ _ _ _ hm) h1))|(go_at_call 219;exact Calls.cQ (za6 _ _ _ _ (R.o _) U.o))))
 refine dF ?_;rintro _ ⟨W,rfl⟩;go_wp2;go_ret
 exact⟨aS (by rw[Y.o];simp),af HB W.ok⟩
def zC(a:Int)(p v h:Int)(A:an)(cap:Nat)(rows:aE)(w:aa)(E:rows.length<=maxLen):aw 222 (eQ (bg a) p (ae v h A rows cap)) w fun e w'=>e=.returned (.bool (eX a 0 (rows:Int)))/\ai w w':=by
 have z:Below w w ((w.alloc (.cells (bg a) 137)).alloc (.cells (ae v h A rows cap) 26)):=((aj w w).alloc RS _).alloc RS _;have D:=zH z;clear z;have F:∀W:Ext ((w.alloc (.cells (bg a) 137)).alloc (.cells (ae v h A rows cap) 26)),ah W.W w 0 (zI a):=fun W=>W.cell RS
 have H:∀W:Ext ((w.alloc (.cells (bg a) 137)).alloc (.cells (ae v h A rows cap) 26)),ah W.W ((w:Nat)+1) 2 (.slice A rows cap):=fun W=>W.cell RS
 go_enter func222,ntmps222
 go_upto_region 1 with(fail)
 refine cV ?_
 repeat (go_big_quiet_step ((go_at_call 39;exact Calls.cQ (ez _ _ _ _))))
 refine dF ?_;rintro _ ⟨W,rfl⟩;go_wp2;go_ret
 exact⟨aS (by rfl),af D.o W.ok⟩
def s7(b:Int)(p v h:Int)(A:an)(cap:Nat)(rows:aE)(w:aa)(E:rows.length<=maxLen):aw 249 (eQ (bg b) p (ae v h A rows cap)) w fun e w'=>e=.returned (.bool (eX b 0 h))/\ai w w':=by
 have z:Below w w ((w.alloc (.cells (bg b) 143)).alloc (.cells (ae v h A rows cap) 26)):=((aj w w).alloc RS _).alloc RS _;have D:=zH z;clear z;have F:∀W:Ext ((w.alloc (.cells (bg b) 143)).alloc (.cells (ae v h A rows cap) 26)),ah W.W w 0 (zI b):=fun W=>W.cell RS
 have H:∀W:Ext ((w.alloc (.cells (bg b) 143)).alloc (.cells (ae v h A rows cap) 26)),ah W.W ((w:Nat)+1) 1 (zI h):=fun W=>W.cell RS
 go_enter func249,ntmps249
 go_upto_region 1 with(fail)
 refine cV ?_
 repeat (go_big_quiet_step ((go_at_call 39;exact Calls.cQ (ez _ _ _ _))))
 refine dF ?_;rintro _ ⟨W,rfl⟩;go_wp2;go_ret
 exact⟨aS (by rfl),af D.o W.ok⟩
def s_(b:Int)(p v h:Int)(A:an)(cap:Nat)(rows:aE)(w:aa)(Q:rows.length<=maxLen)(E:aX w A rows)(R:0<=v)(U:v<=24)(F:0<=h)(z:h<=100)(H:∀r∈rows,(r.length:Int)=v+h):aw 246 (eQ (bg b) p (ae v h A rows cap)) w fun e w'=>e=.returned (.bool (eX b 0 (h-1)&&oZ rows (v+b).toNat (-1)))/\ai w w':=by
 have D:Below w w ((w.alloc (.cells (bg b) 142)).alloc (.cells (ae v h A rows cap) 26)):=((aj w w).alloc RS _).alloc RS _;have HB:=zH D;clear D;have Z:∀W:Ext ((w.alloc (.cells (bg b) 142)).alloc (.cells (ae v h A rows cap) 26)),ah W.W w 0 (zI b):=fun W=>W.cell RS
 have ab:∀W:Ext ((w.alloc (.cells (bg b) 142)).alloc (.cells (ae v h A rows cap) 26)),ah W.W ((w:Nat)+1) 0 (zI v):=fun W=>W.cell RS
 have ac:∀W:Ext ((w.alloc (.cells (bg b) 142)).alloc (.cells (ae v h A rows cap) 26)),ah W.W ((w:Nat)+1) 1 (zI h):=fun W=>W.cell RS
 have ad:∀W:Ext ((w.alloc (.cells (bg b) 142)).alloc (.cells (ae v h A rows cap) 26)),ah W.W ((w:Nat)+1) 2 (.slice A rows cap):=fun W=>W.cell RS
 cases h1:eX b 0 (h-1)
 .skip
  go_enter func246,ntmps246
  go_upto_region 1 with(fail)
  refine cV ?_
  repeat (go_big_quiet_step ((go_at_call 233;exact Calls.eJ (Calls.bl (ky _ _ _ _ _ F z) h1))))
  exact XV
 obtain⟨O,Y⟩:0<=b/\b<=h-1:=Tn;obtain⟨J,I⟩:=bS (fun W:Ext ((w.alloc (.cells (bg b) 142)).alloc (.cells (ae v h A rows cap) 26))=>E.ext (af HB W.ok)) H;clear E H;go_enter func246,ntmps246
 go_upto_region 1 with(fail)
 refine cV ?_
 repeat (go_big_quiet_step (first|(go_at_call 233;exact Calls.eJ (Calls.bl (ky _ _ _ _ _ F z) h1))|(go_at_call 234;exact Calls.eJ (yO _ _ _ _ _ _ _ _ (J.o _) Q R U z O RU I))))
 refine dF ?_;rintro _ ⟨W,rfl⟩;go_wp2;go_ret
 exact⟨aS RS,af HB W.ok⟩
def ve(a b:Int)(p v h:Int)(A:an)(cap:Nat)(rows:aE)(w:aa)(hm:rows.length<=maxLen)(D:aX w A rows)(a0:0<=v)(a1:v<=24)(hh:0<=h)(Ke:h<=100)(F:∀r∈rows,(r.length:Int)=v+h):aw 230 (eQ (bP a b) p (ae v h A rows cap)) w fun e w'=>e=.returned (.bool (eX a 0 ((rows:Int)-1)&&(eX b 0 (h-1)&&(((rows.getD a.toNat []).getD (v+b).toNat 0 !=0)&&oZ rows (v+b).toNat a))))/\ai w w':=by
 have H:Below w w ((w.alloc (.cells (bP a b) 138)).alloc (.cells (ae v h A rows cap) 26)):=((aj w w).alloc RS _).alloc RS _;have HB:=zH H;clear H;have bd:∀W:Ext ((w.alloc (.cells (bP a b) 138)).alloc (.cells (ae v h A rows cap) 26)),ah W.W w 0 (zI a):=fun W=>W.cell RS
 have be:∀W:Ext ((w.alloc (.cells (bP a b) 138)).alloc (.cells (ae v h A rows cap) 26)),ah W.W w 1 (zI b):=fun W=>W.cell RS
 have bi:∀W:Ext ((w.alloc (.cells (bP a b) 138)).alloc (.cells (ae v h A rows cap) 26)),ah W.W ((w:Nat)+1) 0 (zI v):=fun W=>W.cell RS
 have bm:∀W:Ext ((w.alloc (.cells (bP a b) 138)).alloc (.cells (ae v h A rows cap) 26)),ah W.W ((w:Nat)+1) 1 (zI h):=fun W=>W.cell RS
 have bo:∀W:Ext ((w.alloc (.cells (bP a b) 138)).alloc (.cells (ae v h A rows cap) 26)),ah W.W ((w:Nat)+1) 2 (.slice A rows cap):=fun W=>W.cell RS
 cases h1:eX a 0 ((rows:Int)-1)
 .skip
  go_enter func230,ntmps230
  go_upto_region 1 with(fail)
  refine bV Si Si ?_
  repeat (go_big_quiet_step ((go_at_call_of 209 a;exact Calls.eJ (Calls.bl (dV _ _ _ _ _ _ _ hm) h1))))
  exact XV
 cases h2:eX b 0 (h-1)
 .skip
  exact Zu
 obtain⟨ad,a6⟩:0<=b/\b<=h-1:=by simpa[eX]using h2
 obtain⟨a4,a5⟩:0<=a/\a<=(rows:Int)-1:=Tn;have Q:a.toNat<rows.length:=RU;obtain⟨r,hr⟩:=aB Q;obtain⟨z,o,rfl,I⟩:=D.here Q;obtain⟨U,ao,O,E⟩:=I _ r hr;have ba:∀W:Ext ((w.alloc (.cells (bP a b) 138)).alloc (.cells (ae v h (some ⟨z,o,none⟩) rows cap) 26)),ah W.W z (o+a.toNat) (.slice U r ao):=fun W=>av (af HB W.ok) O
 obtain⟨a3,ab,Z,Y⟩:=fU (fun W:Ext ((w.alloc (.cells (bP a b) 138)).alloc (.cells (ae v h (some ⟨z,o,none⟩) rows cap) 26))=>E.ext (af HB W.ok)) (TD:rows.getD a.toNat []=r) (fun W:Ext ((w.alloc (.cells (bP a b) 138)).alloc (.cells (ae v h (some ⟨z,o,none⟩) rows cap) 26))=>D.ext (af HB W.ok)) F;have ap:=F r (a_ hr);have R:(v+b).toNat<r.length:=RU;obtain⟨x,hx⟩:=aB R;obtain⟨am,a2,rfl,J⟩:=E.here R;have bb:∀W:Ext ((w.alloc (.cells (bP a b) 138)).alloc (.cells (ae v h (some ⟨z,o,none⟩) rows cap) 26)),ah W.W am (a2+(v+b).toNat) (zI x):=fun W=>av (af HB W.ok) (J _ _ hx)
 have ac:=zH (TC:r.getD (v+b).toNat 0=x);have a8:0<=v+b:=RU;have a9:v+b < (r:Int):=RU;clear hr I O E D F hx J;clear ap;rw[ab.o,ac.o];cases a7:(x !=0)
 .skip
  exact Zu
 go_enter func230,ntmps230
 go_upto_region 1 with(fail)
 refine bV Si Si ?_
 repeat (go_big_quiet_step (first|(go_at_call_of 209 a;exact Calls.eJ (Calls.bl (dV _ _ _ _ _ _ _ hm) h1))|(go_at_call 233;exact Calls.eJ (Calls.bl (ky _ _ _ _ _ hh Ke) h2))|(go_at_call 234;exact Calls.eJ (yO _ _ _ _ _ _ _ _ (Z.o _) hm a0 a1 Ke ad RU Y.o))))
 refine dF ?_;rintro _ ⟨W,rfl⟩;go_wp2;go_ret
 exact⟨aS RS,af HB W.ok⟩
def vf(a b:Int)(z:an)(D:Nat)(row:aG)(p v h:Int)(A:an)(cap:Nat)(rows:aE)(w:aa)(a3:rows.length<=maxLen)(I:aT w z row)(ab:row.length<=maxLen)(O:0<=v)(a4:v<=24)(J:0<=h)(a0:h<=100):aw 237 (eQ (ae a b z row D) p (ae v h A rows cap)) w fun e w'=>e=.returned (.bool (eX a 0 (rows:Int)&&(eX b 0 h&&(oX p row (v+h+1)&&(row.getD (v+b).toNat 0 !=0)))))/\ai w w':=by
 have U:Below w w ((w.alloc (.cells (ae a b z row D) 140)).alloc (.cells (ae v h A rows cap) 26)):=((aj w w).alloc RS _).alloc RS _;have HB:=zH U;clear U;have a6:∀W:Ext ((w.alloc (.cells (ae a b z row D) 140)).alloc (.cells (ae v h A rows cap) 26)),ah W.W w 0 (zI a):=fun W=>W.cell RS
 have a7:∀W:Ext ((w.alloc (.cells (ae a b z row D) 140)).alloc (.cells (ae v h A rows cap) 26)),ah W.W w 1 (zI b):=fun W=>W.cell RS
 have a8:∀W:Ext ((w.alloc (.cells (ae a b z row D) 140)).alloc (.cells (ae v h A rows cap) 26)),ah W.W w 2 (.slice z row D):=fun W=>W.cell RS
 have a9:∀W:Ext ((w.alloc (.cells (ae a b z row D) 140)).alloc (.cells (ae v h A rows cap) 26)),ah W.W ((w:Nat)+1) 0 (zI v):=fun W=>W.cell RS
 have ba:∀W:Ext ((w.alloc (.cells (ae a b z row D) 140)).alloc (.cells (ae v h A rows cap) 26)),ah W.W ((w:Nat)+1) 1 (zI h):=fun W=>W.cell RS
 have bb:∀W:Ext ((w.alloc (.cells (ae a b z row D) 140)).alloc (.cells (ae v h A rows cap) 26)),ah W.W ((w:Nat)+1) 2 (.slice A rows cap):=fun W=>W.cell RS
 have Q:=zH (fun W:Ext ((w.alloc (.cells (ae a b z row D) 140)).alloc (.cells (ae v h A rows cap) 26))=>I.ext (af HB W.ok));cases F:eX a 0 (rows:Int)
 .skip
  go_enter func237,ntmps237
  go_upto_region 1 with(fail)
  refine bV Si Si ?_
  repeat (go_big_quiet_step ((go_at_call_of 39 a;exact Calls.cQ (Calls.dQ (ez _ _ _ _) F))))
  exact XV
 cases H:eX b 0 h
 .skip
  go_enter func237,ntmps237
  go_upto_region 1 with(fail)
  refine bV Si Si ?_
  repeat (go_big_quiet_step (first|(go_at_call 66;exact Calls.eJ (oV v h _ _ O RU J RU))|(go_at_call_of 39 a;exact Calls.cQ (Calls.dQ (ez _ _ _ _) F))|(go_at_call_of 39 b;exact Calls.cQ (Calls.dQ (ez _ _ _ _) H))))
  exact XV
 obtain⟨ao,ap⟩:0<=b/\b<=h:=by simpa[eX]using H
 cases E:oX p row (v+h+1)
 .skip
  go_enter func237,ntmps237
  go_upto_region 1 with(fail)
  refine bV Si Si ?_
  repeat (go_big_quiet_step (first|(go_at_call 66;exact Calls.eJ (oV v h _ _ O RU J RU))|(go_at_call_of 39 a;exact Calls.cQ (Calls.dQ (ez _ _ _ _) F))|(go_at_call_of 39 b;exact Calls.cQ (Calls.dQ (ez _ _ _ _) H))|(go_at_call 107;exact Calls.cQ (Calls.dQ (mS _ _ _ _ _ _ (Q.o _) ab) E))))
  exact XV
 have am:(row:Int)=v+h+1:=by unfold oX at E;rw[bC,cK]at E;exact E.1
 have Z:(v+b).toNat<row.length:=RU;obtain⟨x,hx⟩:=aB Z;obtain⟨R,ac,rfl,Y⟩:=I.here Z;have a5:∀W:Ext ((w.alloc (.cells (ae a b (some ⟨R,ac,none⟩) row D) 140)).alloc (.cells (ae v h A rows cap) 26)),ah W.W R (ac+(v+b).toNat) (zI x):=fun W=>av (af HB W.ok) (Y _ _ hx)
 have ad:=zH (TC:row.getD (v+b).toNat 0=x);have a1:0<=v+b:=RU;have a2:v+b < (row:Int):=RU;clear I hx Y;clear am;rw[ad.o];go_enter func237,ntmps237
 go_upto_region 1 with(fail)
 refine bV Si Si ?_
 repeat (go_big_quiet_step (first|(go_at_call 66;exact Calls.eJ (oV v h _ _ O RU J RU))|(go_at_call_of 39 a;exact Calls.cQ (Calls.dQ (ez _ _ _ _) F))|(go_at_call_of 39 b;exact Calls.cQ (Calls.dQ (ez _ _ _ _) H))|(go_at_call 107;exact Calls.cQ (Calls.dQ (mS _ _ _ _ _ _ (Q.o _) ab) E))))
 refine dF ?_;rintro _ ⟨W,rfl⟩;go_wp2;go_ret
 exact⟨aS RS,af HB W.ok⟩
def AW{n:Nd}(h:dZ n=true):dZ ⟨n.k,n.v,true⟩=true:=by unfold dZ at h ⊢;rw[bC]at h;rw[bC];exact⟨rfl,h.2⟩
def ze1{n:Nd}(h:dZ n=true):(gD n).okB=true:=by
 have O:=uf h;have F:=Dl n;obtain⟨Q,R⟩:=AM n h;rw[Gr.gl];have I:(∀x∈(gD n).i,x < (gD n).w)/\(∀x∈(gD n).o,x < (gD n).w)/\∀e∈(gD n).es,(∀x∈e.i,x < (gD n).w)/\∀x∈e.o,x < (gD n).w:=
  ⟨fun x z=>F x (aF z),fun x z=>F x (aA (aF z)),fun e D=>⟨fun x z=>F x (aA (aA ⟨e,D,aF z⟩)),fun x z=>F x (aA (aA ⟨e,D,aA z⟩))⟩⟩
 have H:(gD n).w<=100/\(gD n).es.length<=60/\(∀e∈(gD n).es,e.mE=true)/\∀x,x < (gD n).w->(gD n).DT x=true:=by
  by_cases E:n.k=1
  .have:gD n=⟨n.v.toNat,[],List.range n.v.toNat,List.range n.v.toNat⟩:=by unfold gD;rw[ay E]
   rw[this];have:n.v.toNat<=12:=by unfold dZ at h;rw[bC]at h;have h:=h.2;rw[ay E]at h;simp only[bC,cK]at h;omega
   exact⟨Tg,RS,fun e D=>by simp at D,fun x z=>Gr.jY.2 (aF (et.2 z))⟩
  by_cases J:n.k=2
  .have:gD n=⟨2,[],[0,1],[1,0]⟩:=by unfold gD;rw[al E,ay J]
   rw[this];refine⟨Tg,RS,fun e D=>by simp at D,fun x z=>Gr.jY.2 (aF ?_)⟩;have:x=0∨x=1:=by dsimp only at z;omega
   rcases this with rfl|rfl <;>simp
  .have:gD n=⟨pz n+sN n,[⟨n.k,n.v,List.range (pz n),(List.range (sN n)).map (· +pz n)⟩],List.range (pz n),(List.range (sN n)).map (· +pz n)⟩:=by unfold gD;rw[al E,al J]
   rw[this];refine⟨Tg,RS,fun e D=>?_,fun x z=>Gr.jY.2 ?_⟩
   .have D:e=_:=gp.1 D;subst D;have Z:3<=n.k:=by
     unfold dZ at h;rw[bC]at h;have h:=h.2;rw[al E]at h;by_cases ab:n.k=7∨n.k=13
     .omega
     .rw[al ab]at h;simp only[bC,cK]at h;omega
    have U:pz ⟨n.k,n.v,true⟩=pz n:=rfl;have Y:sN ⟨n.k,n.v,true⟩=sN n:=rfl;unfold Ed.mE;dsimp only;rw[AW h,U,Y];simp[Z]
   .dsimp only at z;by_cases ac:x<pz n
    .exact aF (et.2 ac)
    .exact aA (aF (cf.2 ⟨x-pz n,et.2 RU,RU⟩))
 exact⟨H.1,H.2.1,by rw[Q];exact O.1,by rw[R];exact O.2,H.2.2.1,H.2.2.2,I.1,I.2.1,I.2.2⟩
def Tm.py(k:Int)(a b:Tm):(Tm.op k a b).flat=a.flat++b.flat++[⟨k,0,true⟩]:=rfl
def Tm.zhi(k:Int)(a b:Tm):(Tm.op k a b).gr=if k=15 then Al a.gr b.gr else o_ a.gr b.gr:=rfl
def Tm.leaves:Tm->List Nd
 |.lf n=>[n]
 |.op _ a b=>a.leaves++b.leaves
def Gr.kv(g:Gr):List (Int×Int):=g.es.map fun e=>(e.k,e.v)
def AX(a b:Gr):(jc a b).map (fun e=>(e.k,e.v))=a.kv++b.kv:=by unfold jc Gr.kv;rw[gu,ko];rfl
def zhN(a b:Gr):(Al a b).kv=a.kv++b.kv:=by rw[<-AX];unfold Al iK Gr.kv Gr.map;dsimp only;rw[ko];rfl
def zhO(a b:Gr):(o_ a b).kv=a.kv++b.kv:=by rw[<-AX];rfl
def zgB(n:Nd):(gD n).kv=if n.k=1∨n.k=2 then[] else[(n.k,n.v)]:=by
 unfold gD;by_cases z:n.k=1
 .rw[ay z,ay (aF z)];rfl
 by_cases D:n.k=2
 .rw[al z,ay D,ay (aA D)];rfl
 .rw[al z,al D,al RU];rfl
def Tm.zaY:∀{t:Tm} {x:Int×Int},x∈t.gr.kv↔∃n∈t.leaves,n.k≠1/\n.k≠2/\x=(n.k,n.v)
 |.lf n,x=>by
  show x∈(gD n).kv↔∃m∈[n],_
  rw[zgB];by_cases h:n.k=1∨n.k=2
  .rw[ay h];simp only[kp,gp,exists_eq_left,false_iff];omega
  .rw[al h];simp only[gp,exists_eq_left];constructor
   .intro e;exact⟨RU,RU,e⟩
   .rintro⟨_,_,e⟩;exact e
 |.op k a b,x=>by
  have z:(Tm.op k a b).gr.kv=a.gr.kv++b.gr.kv:=by
   rw[Tm.zhi];by_cases e:k=15
   .rw[ay e];exact zhN _ _
   .rw[al e];exact zhO _ _
  rw[z,fc,Tm.zaY (t:=a),Tm.zaY (t:=b)]
  show _↔∃n∈a.leaves++b.leaves,_
  constructor
  .rintro(⟨n,h,r⟩|⟨n,h,r⟩)
   .exact⟨n,r5 _ h,r⟩
   .exact⟨n,oD _ h,r⟩
  .rintro⟨n,h,r⟩;rcases fc.1 h with h|h
   .exact aF ⟨n,h,r⟩
   .exact aA ⟨n,h,r⟩
def wP(L:List Nd):Bool:=L.all fun n=>decide (n.k≠8)&&decide (n.k≠14)
def wQ(p:Int)(L:List Nd):Bool:=L.all fun n=>!(decide (n.k=7)||decide (n.k=13))||decide (n.v<p)
def Tm.tW{p:Int}:∀{t:Tm} {c:gW},t.ty=some c->(t.xe p↔wP t.flat=true/\wQ p t.flat=true)
 |.lf n,c,h=>by
  unfold Tm.ty at h;split at h
  .rename_i H;unfold Tm.xe zb1 wP wQ Tm.flat;simp only[vH,List.all_nil,Bool.and_true,bC,cK,lQ,Bool.not_eq_true',CN,CO];constructor
   .rintro⟨_,z,D,E⟩;refine⟨⟨z,D⟩,?_⟩;by_cases e:n.k=7∨n.k=13
    .exact aA (E e)
    .exact aF RU
   .rintro⟨⟨z,D⟩,E⟩;exact⟨H,z,D,fun e=>RU⟩
  .cases h
 |.op k a b,c,h=>by
  obtain⟨x,y,Q,H,R⟩:=Tm.Be h;have I:=pA R;have J:wP (Tm.op k a b).flat=(wP a.flat&&wP b.flat):=by rw[Tm.py];unfold wP;rw[xU,xU];rcases I with rfl|rfl <;>simp
  have O:wQ p (Tm.op k a b).flat=(wQ p a.flat&&wQ p b.flat):=by rw[Tm.py];unfold wQ;rw[xU,xU];rcases I with rfl|rfl <;>simp
  rw[J,O];unfold Tm.xe;rw[Tm.tW Q,Tm.tW H];simp only[bC];constructor
  .rintro⟨⟨z,D⟩,E,F⟩;exact⟨⟨z,E⟩,D,F⟩
  .rintro⟨⟨z,E⟩,D,F⟩;exact⟨⟨z,D⟩,E,F⟩
def Tm.zfu(k:Int)(a b:Tm):(Tm.op k a b).v_=(a.v_&&(b.v_&&((Tm.op k a b).gr).okB)):=rfl
def Tm.ze:∀{t:Tm},t.v_=true->t.gr.okB=true
 |.lf _,h=>h
 |.op k a b,h=>by rw[Tm.zfu,bC,bC]at h;exact h.2.2
def Tm.qT{p:Int}:∀{t:Tm},t.xe p->∀n∈t.leaves,zb1 p n
 |.lf n,h,m,z=>by have z:m=n:=gp.1 z;subst z;exact h
 |.op k a b,h,m,z=>by
  rcases fc.1 z with z|z
  .exact Tm.qT h.1 m z
  .exact Tm.qT h.2 m z
def Tm.zcj{t:Tm}(U:t.xe p)(O:t.v_=true):t.gr.xe p:=fun e D=>by have J:=(Gr.gl.1 (Tm.ze O)).2.2.2.2.1 e D;have Q:(e.k,e.v)∈t.gr.kv:=cf.2 ⟨e,D,rfl⟩;obtain⟨n,R,_,_,z⟩:=Tm.zaY.1 Q;obtain⟨E,F,H,I⟩:=Tm.qT U n R;simp only[Prod.mk.injEq]at z;refine⟨J,?_⟩;rw[z.1,z.2];exact⟨AW E,F,H,I⟩
def D8{n:Nd}(H:2<=p)(z:dZ n=true)(E:n.k≠1)(F:n.k=7∨n.k=13->n.v<p):n.v<p:=by
 unfold dZ at z;rw[bC]at z;have z:=z.2;rw[al E]at z;by_cases D:n.k=7∨n.k=13
 .exact F D
 .rw[al D]at z;simp only[bC,cK]at z;omega
structure Gr.G1(g:Gr):Prop where
 inr:g.In
 fit:∀e∈g.es,e.mE=true
 on:∀x,x<g.w->g.On x
def Gr.nv(h:g.okB=true):g.G1:=⟨Gr.lE h,(Gr.gl.1 h).2.2.2.2.1,fun x z=>Gr.jY.1 ((Gr.gl.1 h).2.2.2.2.2.1 x z)⟩
def Ed.B5(f:gF)(e:Ed):(e.map f).mE=e.mE:=by unfold Ed.mE Ed.map;simp only[bt]
def Gr.zex{w:Nat}{f:gF}{y:Nat}(h:g.On y):(g.map w f).On (f y):=by
 rcases h with h|h|⟨e,z,h⟩
 .exact aF (cf.2 ⟨y,h,rfl⟩)
 .exact aA (aF (cf.2 ⟨y,h,rfl⟩))
 .refine aA (aA ⟨e.map f,cf.2 ⟨e,z,rfl⟩,?_⟩);exact Xz
def te(n:Nat)(q:Nat->Bool):((List.range n).filter q).Nodup:=List.Pairwise.filter _ List.nodup_range
def zbY(U:g.In)(R:∀e∈g.es,e.mE=true)(Z:∀q∈ps,q.1<g.w/\q.2<g.w):(iK g ps).G1:=by
 refine⟨zb2 U Z,fun e O=>?_,fun x z=>?_⟩
 .obtain⟨J,Q,rfl⟩:=cf.1 O;rw[Ed.B5];exact R J Q
 .have z:x < (lA g (jb g.w ps)).length:=z;have Y:(lA g (jb g.w ps)).Nodup:=te _ _;obtain⟨r,I⟩:=aO ((lA g (jb g.w ps))[x]);have H:r∈lA g (jb g.w ps):=I ▸ oz z;rw[uc,vz]at H;have D:=H.2;unfold Ad at D;rw[bC,lT]at D;obtain⟨y,ab,E⟩:=D.2;rw[bC,cK]at E;have F:=Gr.zex (w:=(lA g (jb g.w ps)).length) (f:=fun x=>(lA g (jb g.w ps)).idxOf ((jb g.w ps).getD x 0)) (Gr.jY.1 E.1);have e:(lA g (jb g.w ps)).idxOf ((jb g.w ps).getD y 0)=x:=by rw[E.2,I];exact Y.idxOf_getElem x z
  rw[e]at F;exact F
def yc{a b:Gr}(E:∀e∈a.es,e.mE=true)(F:∀e∈b.es,e.mE=true):∀e∈jc a b,e.mE=true:=fun e z=>by
 rcases fc.1 z with z|z
 .exact E e z
 .obtain⟨D,H,rfl⟩:=cf.1 z;rw[Ed.B5];exact F D H
def kY(a b:Gr):Gr:=⟨a.w+b.w,jc a b,a.i,b.o.map (· +a.w)⟩
def zbZ(a b:Gr):List (Nat×Nat):=a.o.zip (b.i.map (· +a.w))
def yd{a b:Gr}(D:a.In)(E:b.In):(kY a b).In:=
 rJ D E (fun x z=>by have:=D x (aF z);omega) fun x z=>by obtain⟨y,F,rfl⟩:=cf.1 z;have:=E y (aA (aF F));omega
def C6{a b:Gr}(E:a.In)(F:b.In):∀q∈zbZ a b,q.1 < (kY a b).w/\q.2 < (kY a b).w:=fun q H=>by
 obtain⟨z,D⟩:=pT H;obtain⟨y,I,e⟩:=cf.1 D;have:=E q.1 (aA (aF z));have:=F y (aF I)
 show q.1<a.w+b.w/\q.2<a.w+b.w
 omega
def zey{a b:Gr}(z:a.G1)(D:b.G1):(Al a b).G1:=zbY (g:=kY a b) (ps:=zbZ a b) (yd z.inr D.inr) (yc z.fit D.fit) (C6 z.inr D.inr)
def zez{a b:Gr}(D:a.G1)(E:b.G1):(o_ a b).G1:=by
 have I:∀{l:bX},(∀x∈l,b.On x)->∀x∈l.map (· +a.w),x<a.w+b.w:=fun h x z=>by obtain⟨y,J,rfl⟩:=cf.1 z;have:=E.inr y (h y J);omega
 refine⟨rJ D.inr E.inr (fun x z=>?_) (fun x z=>?_),yc D.fit E.fit,fun x z=>?_⟩
 .rcases fc.1 z with h|h
  .have:=D.inr x (aF h);omega
  .exact I (fun x z=>aF z) x h
 .rcases fc.1 z with h|h
  .have:=D.inr x (aA (aF h));omega
  .exact I (fun x z=>aA (aF z)) x h
 .have z:x<a.w+b.w:=z;by_cases h:x<a.w
  .rcases D.on x h with h|h|⟨e,F,h⟩
   .exact aF (r5 _ h)
   .exact aA (aF (r5 _ h))
   .exact aA (aA ⟨e,r5 _ F,h⟩)
  .have H:=Gr.zex (w:=0) (f:=(· +a.w)) (E.on (x-a.w) RU);rw[show x-a.w+a.w=x by omega]at H;rcases H with h|h|⟨e,F,h⟩
   .exact aF (oD _ h)
   .exact aA (aF (oD _ h))
   .exact aA (aA ⟨e,oD _ F,h⟩)
def mH(g:Gr):Bool:=decide (g.w<=100)&&(decide (g.es.length<=60)&&(decide (g.i.length<=12)&&decide (g.o.length<=12)))
def Gr.G1.okB(h:g.G1):g.okB=mH g:=by
 rw[mY,Gr.gl];unfold mH;simp only[bC,cK];constructor
 .rintro⟨D,E,F,H,_⟩;exact⟨D,E,F,H⟩
 .rintro⟨D,E,F,H⟩;exact⟨D,E,F,H,h.fit,fun x z=>Gr.jY.2 (h.on x z),fun x z=>h.inr x (aF z),fun x z=>h.inr x (aA (aF z)),fun e I=>⟨fun x z=>h.inr x (aA (aA ⟨e,I,aF z⟩)),fun x z=>h.inr x (aA (aA ⟨e,I,aA z⟩))⟩⟩
def DC(h:aU W b cs 3)(e:cs.toList=xs.map (Value.int .i64)):aT W (some ⟨b,0,none⟩) xs:=aA ⟨b,0,rfl,fun k x z=>by rw[iw,aW h k,e,cp,z];rfl⟩
def iE(C:Code)(b m:Nat)(w:aa)(xs:aG)(cs:gh)(D:cH C b m w)(O:m<=549755813888)(e:cs.toList=xs.map (Value.int .i64))(E:0<xs.length)(J:xs.length<=65536)(n:Nat)(Q:n=xs.length):aw 85 #[.pointer (aY b),.slice (aY w) n n] (w.alloc (.cells cs 3)) fun e w'=>∃v,e=.returned v/\(∃x∈xs,v=.int .i64 x)/\cH C b (m+2) w'/\w.grownBy w' (some b):=by subst Q;have z:=(aj w w).alloc (ag _) (.cells cs 3);have H:w.grownBy (w.alloc (.cells cs 3)) (some b):=aN z;refine(zed C b m _ xs (some ⟨w,0,none⟩) xs (D.ext z) O (DC (az w _ rfl) e) E J fun a e=>by cases e;exact D.lt).mono ?_;rintro e w' ⟨v,rfl,R,F,I⟩;exact⟨v,rfl,R,F,H.trans I⟩
def zda(C:Code)(b m:Nat)(w:aa)(z:cH C b m w)(R:m<=549755813888):aw 86 #[.pointer (aY b)] w (kM C b (m+2) (fun _ v=>∃x:Int,v=.int .i64 x/\dr x=true) w):=by
 obtain⟨O,I⟩:=bS (iE C b m w [2,3,5,7,2,3,5,11,13,97] _ z R rfl RX RX 10 rfl) (show ∀x∈[(2:Int),3,5,7,2,3,5,11,13,97],dr x=true by decide);clear z;go_enter func86,ntmps86
 go_wp2_with (go_at_call 85;refine O.mono ?_;rintro e U ⟨v,rfl,⟨x,F,rfl⟩,D,E⟩;have Q:=zH (I x F);have H:=zH D;have J:=zH E;clear D E F)
 go_ret
 exact⟨_,rfl,⟨x,rfl,Q.o⟩,H.o,J.o⟩
def t_(C:Code)(b m:Nat)(w:aa)(O:cH C b m w)(ad:m<=549755813000):aw 42 #[.pointer (aY b)] w (kM C b (m+4) (fun _ v=>∃x:Int,v=.int .i64 x/\-1<=x/\x<=101) w):=by
 obtain⟨ab,Y⟩:=bS (gX C b m w 24 O RU) (show ∀x∈[(-1:Int),0,1,4,9,91,98,101],-1<=x/\x<=101 by decide);clear O;go_enter func42,ntmps42
 go_wp2_with (first
  |(go_at_call 46;(with_reducible refine ab.o.mono ?_);rintro e U ⟨v,rfl,⟨y,rfl⟩,Q,R⟩;have F:=zH Q;have Z:=zH R;clear Q R)
  |(go_at_call 86;(with_reducible refine(zda C b (m+2) U F.o RU).mono ?_);rintro e ac ⟨v,rfl,⟨x,rfl,E⟩,z,D⟩;have J:=zH (show -1<=x/\x<=101 from(by have:=eY E;omega));have H:=zH z;have I:=zH D;clear z D E)
  |(go_at_call 85;refine(iE C b (m+2) U [-1,0,1,4,9,91,98,101] _ F RU rfl RX RX 8 rfl).mono ?_;rintro e ac ⟨v,rfl,⟨x,E,rfl⟩,z,D⟩;have J:=zH (Y.o x E);have H:=zH z;have I:=zH D;clear z D E))
 all_goals
  go_ret
  exact⟨_,rfl,⟨x,rfl,J.o⟩,H.o,Z.o.trans I⟩
def zje(p:Int)(_:aa)(v:au):Prop:=∃r:Nat,v=.int .i64 r/\((r:Int)<p∨r=0)/\r<65536
def kx(C:Code)(b m:Nat)(w:aa)(p:Int)(F:cH C b m w)(Z:m<=549755813888):aw 104 (lO (aY b) p) w (kM C b (m+2) (zje p) w):=by
 obtain⟨E,z⟩:=bS (dg C b m w (max p 1) F Z) (fun V=>yH p 1 V);have J:∀r:Nat,((r:Int)<max p 1∨r=0)->((r:Int)<p∨r=0):=fun r h=>RU
 have D:=zH J;obtain⟨q,O⟩:=aO (max p 1);rw[<-O]at E z D;clear F J O;go_enter func104,ntmps104
 go_wp2_with (first|(go_at_call 130;(with_reducible refine(z.o _).mono ?_);rintro e w' ⟨rfl,rfl⟩)|(go_at_call 88;(with_reducible refine E.o.mono ?_);rintro e ac ⟨v,rfl,⟨r,rfl,Q,ab⟩,H,I⟩;have Y:=zH (D.o r Q);have R:=zH H;have U:=zH I;clear H I Q))
 go_ret
 exact⟨_,rfl,⟨r,rfl,Y.o,ab⟩,R.o,U.o⟩
def DD(C:Code)(b m:Nat)(w:aa)(p:Int)(O:cH C b m w)(am:m<=549755813000)(ac:-65536<=p/\p<=65536):aw 106 (lO (aY b) p) w (kM C b (m+4) (fun _ v=>∃x:Int,v=.int .i64 x/\-65536<=x/\x<=65537) w):=by
 have ab:=zH (gX C b m w 24 O RU);have ao:IntKind.i64.wrap (p+1)=p+1:=SQ;have Y:=zH (show ∀x∈[(-1:Int),p,p+1],-65536<=x/\x<=65537 from fun x z=>by simp only[jh,kp,kJ]at z;omega)
 clear O ac;go_enter func106,ntmps106
 go_wp2_with (first
  |(go_at_call 46;(with_reducible refine ab.o.mono ?_);rintro e U ⟨v,rfl,⟨y,rfl⟩,Q,R⟩;have F:=zH Q;have Z:=zH R;clear Q R)
  |(go_at_call 104;(with_reducible refine(kx C b (m+2) U p F.o RU).mono ?_);rintro e ad ⟨v,rfl,⟨r,rfl,-,z⟩,D,E⟩;have J:=zH (show -65536<=((r:Nat):Int)/\((r:Nat):Int)<=65537 from⟨RU,RU⟩);have H:=zH D;have I:=zH E;clear D E z)
  |(go_at_call 85;refine(iE C b (m+2) U [-1,p,p+1] _ F RU rfl RS RS 3 rfl).mono ?_;rintro e ad ⟨v,rfl,⟨x,z,rfl⟩,D,E⟩;have J:=zH (Y.o x z);have H:=zH D;have I:=zH E;clear D E z))
 all_goals
  go_ret
  exact⟨_,rfl,⟨_,rfl,J.o⟩,H.o,Z.o.trans I⟩
def je(h:w.grownBy E row)(z:Below w E RL):w.grownBy RL row:=⟨z.os.trans h.os,z.tape.trans h.tape,z.output.trans h.output,bc h.size z.size,fun k D F=>(z.block k D).trans (h.block k D F)⟩
def uI(p:Int)(xs:aG):Prop:=∀x∈xs,0<=x/\(x<p∨x=0)
def uI.snoc(h:uI p xs)(D:(r:Int)<p∨r=0):uI p (xs++[(r:Int)]):=fun x z=>by
 rcases fc.1 z with z|z
 .exact h x z
 .rw[gp.1 z];omega
def zd1(C:Code)(b m:Nat)(w:aa)(p:Int)(n:Nat)(E:cH C b m w)(a8:m<=549755000000)(a9:n<=65536):aw 105 #[.pointer (aY b),p,n] w (kM C b (m+2*n) (fun w' v=>∃xs,xs.length=n/\uI p xs/\ar w' w v xs) w):=by
 obtain⟨ac,H⟩:=bS E E.lt;clear E;go_enter func105,ntmps105
 go_wp2;go_loopw [2,7] (fun i u wr=>∃(j:Nat) (xs:aG),j<=n/\i=.int .i64 j/\Hd (j+xs.length=n)/\Hd (uI p xs)/\Hd (ar wr w u xs)/\Hd (cH C b (m+2*xs.length) wr)/\Hd (w.grownBy wr (some b))) (fun i _ _=>(intOf i).toNat)
 case atStart=>exact⟨n,[],ag _,rfl,zH rfl,zH (fun x a3=>by cases a3),zH (ar.nil _ _),ac,zH (uE _ _)⟩
 case round=>
  obtain⟨j,xs,a5,rfl,z,J,R,I,O⟩:=hrel;by_cases U:j=0
  .subst U;have a7:=z.o;go_wp2;go_ret
   exact⟨_,rfl,⟨xs,RU,J.o,R.o⟩,I.mono RU,O⟩
  .have a6:0 < (j:Int):=RU;have ba:IntKind.i64.wrap ((j:Int)-1)=((j:Int)-1):=SQ;have Gb:=zH (show xs.length<n by have:=z.o;omega);have ap:=zH (kx C b (m+2*xs.length) wr p I Tx);clear U;go_wp2_with (first
    |(go_at_call 104;(with_reducible refine ap.o.mono ?_);rintro e a4 ⟨v,rfl,⟨r,rfl,ab,-⟩,Y,F⟩;have a2:=zH ab;have a0:=zH (R.o.drawn F H.o);have ad:=zH Y;have Q:=zH (O.trans F);clear Y F ab)
    |(at_builtin;refine ny rfl _ _ rfl _ a4 _ _ _ rfl rfl a0.o Tx Q.o.size ?_;intro bb bd Z _ D;have a1:=zH Z;have am:=zH (ad.below D H.o);have ao:=zH (je Q.o D);clear Z D))
   go_roundw
   case rel=>exact⟨j-1,xs++[(r:Int)],RU,RW,zH (by have:=z.o;simp;omega),zH (J.o.snoc a2),a1,zH (am.mono Sk),ao⟩
   case measure=>simp[intOf];omega
end Go.Proofs.YtdpgblncijojiaaGreatDoor
