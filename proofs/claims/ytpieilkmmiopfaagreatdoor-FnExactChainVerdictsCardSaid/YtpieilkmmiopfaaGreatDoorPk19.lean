/- Parts of the walks and laws (Can1, Sof). Conditions: as stated with each. -/
import Derived.Test.YtpieilkmmiopfaaGreatDoorPk5
namespace Go.Proofs.YtpieilkmmiopfaaGreatDoor
open Go.RowKit Tryz
set_option linter.all false
set_option maxHeartbeats 2000000
variable{J w:aa}
theorem xZ(a b:Int)(p v h:Int)(A:aq)(cap:Nat)(rows:aN)(w:aa)(hm:rows.length<=maxLen):aw 244 (gQ (bf a b) p (ar v h A rows cap)) w fun e w'=>e=.returned (.bool (et a 0 ((rows.length:Int)-1)&&(et b 0 ((rows.length:Int)-1)&&(a !=b))))/\ag w w':=by
 have F:Below w.heap.size w ((w.alloc (.cells (bf a b) 229)).alloc (.cells (ar v h A rows cap) 57)):=((aj w.heap.size w).alloc Rq _).alloc Rq _;have HB:=zH F;clear F;have G:∀W:Ext ((w.alloc (.cells (bf a b) 229)).alloc (.cells (ar v h A rows cap) 57)),ae W.W w.heap.size 0 (.int .i64 a):=fun W=>W.cell Rq
 have H:∀W:Ext ((w.alloc (.cells (bf a b) 229)).alloc (.cells (ar v h A rows cap) 57)),ae W.W w.heap.size 1 (.int .i64 b):=fun W=>W.cell Rq
 have I:∀W:Ext ((w.alloc (.cells (bf a b) 229)).alloc (.cells (ar v h A rows cap) 57)),ae W.W (w.heap.size+1) 0 (.int .i64 v):=fun W=>W.cell Rq
 have J:∀W:Ext ((w.alloc (.cells (bf a b) 229)).alloc (.cells (ar v h A rows cap) 57)),ae W.W (w.heap.size+1) 1 (.int .i64 h):=fun W=>W.cell Rq
 have N:∀W:Ext ((w.alloc (.cells (bf a b) 229)).alloc (.cells (ar v h A rows cap) 57)),ae W.W (w.heap.size+1) 2 (.slice A rows.length cap):=fun W=>W.cell Rq
 cases h1:et a 0 ((rows.length:Int)-1)
 .skip
  go_enter func244,ntmps244
  exact Y9
 cases D:et b 0 ((rows.length:Int)-1)
 .skip
  go_enter func244,ntmps244
  go_upto_region 1 with(fail)
  refine cS ?_
  repeat (go_big_quiet_step (first|(go_at_call_of 247 a;exact Calls.eA (Calls.be (dS _ _ _ _ _ _ _ hm) h1))|(go_at_call_of 247 b;exact Calls.eA (Calls.be (dS _ _ _ _ _ _ _ hm) D))))
  exact Xt
 go_enter func244,ntmps244
 go_upto_region 1 with(fail)
 refine cS ?_
 repeat (go_big_quiet_step (first|(go_at_call_of 247 a;exact Calls.eA (Calls.be (dS _ _ _ _ _ _ _ hm) h1))|(go_at_call_of 247 b;exact Calls.eA (Calls.be (dS _ _ _ _ _ _ _ hm) D))))
 refine dn ?_;rintro _ ⟨W,rfl⟩;go_wp2;go_ret
 exact⟨aL Rq,ai HB.o W.ok⟩
theorem uU(a c:Int)(p v h:Int)(A:aq)(cap:Nat)(rows:aN)(w:aa)(hm:rows.length<=maxLen):aw 248 (gQ (bf a c) p (ar v h A rows cap)) w fun e w'=>e=.returned (.bool (et a 0 ((rows.length:Int)-1)&&(jX p c&&(c !=0))))/\ag w w':=by
 have F:Below w.heap.size w ((w.alloc (.cells (bf a c) 231)).alloc (.cells (ar v h A rows cap) 57)):=((aj w.heap.size w).alloc Rq _).alloc Rq _;have HB:=zH F;clear F;have G:∀W:Ext ((w.alloc (.cells (bf a c) 231)).alloc (.cells (ar v h A rows cap) 57)),ae W.W w.heap.size 0 (.int .i64 a):=fun W=>W.cell Rq
 have H:∀W:Ext ((w.alloc (.cells (bf a c) 231)).alloc (.cells (ar v h A rows cap) 57)),ae W.W w.heap.size 1 (.int .i64 c):=fun W=>W.cell Rq
 have I:∀W:Ext ((w.alloc (.cells (bf a c) 231)).alloc (.cells (ar v h A rows cap) 57)),ae W.W (w.heap.size+1) 0 (.int .i64 v):=fun W=>W.cell Rq
 have J:∀W:Ext ((w.alloc (.cells (bf a c) 231)).alloc (.cells (ar v h A rows cap) 57)),ae W.W (w.heap.size+1) 1 (.int .i64 h):=fun W=>W.cell Rq
 have N:∀W:Ext ((w.alloc (.cells (bf a c) 231)).alloc (.cells (ar v h A rows cap) 57)),ae W.W (w.heap.size+1) 2 (.slice A rows.length cap):=fun W=>W.cell Rq
 cases h1:et a 0 ((rows.length:Int)-1)
 .skip
  go_enter func248,ntmps248
  exact Y9
 cases D:jX p c
 .skip
  go_enter func248,ntmps248
  go_upto_region 1 with(fail)
  refine cS ?_
  repeat (go_big_quiet_step (first|(go_at_call_of 247 a;exact Calls.eA (Calls.be (dS _ _ _ _ _ _ _ hm) h1))|(go_at_call 131;exact Calls.cQ (Calls.cT (j9 _ _ _) D))))
  exact Xt
 go_enter func248,ntmps248
 go_upto_region 1 with(fail)
 refine cS ?_
 repeat (go_big_quiet_step (first|(go_at_call_of 247 a;exact Calls.eA (Calls.be (dS _ _ _ _ _ _ _ hm) h1))|(go_at_call 131;exact Calls.cQ (Calls.cT (j9 _ _ _) D))))
 refine dn ?_;rintro _ ⟨W,rfl⟩;go_wp2;go_ret
 exact⟨aL Rq,ai HB.o W.ok⟩
theorem Af(a b c:Int)(p v h:Int)(A:aq)(cap:Nat)(rows:aN)(w:aa)(hm:rows.length<=maxLen):aw 251 (gQ (fP a b c) p (ar v h A rows cap)) w fun e w'=>e=.returned (.bool (et a 0 ((rows.length:Int)-1)&&(et b 0 ((rows.length:Int)-1)&&((a !=b)&&jX p c))))/\ag w w':=by
 have D:Below w.heap.size w ((w.alloc (.cells (fP a b c) 233)).alloc (.cells (ar v h A rows cap) 57)):=((aj w.heap.size w).alloc Rq _).alloc Rq _;have HB:=zH D;clear D;have G:∀W:Ext ((w.alloc (.cells (fP a b c) 233)).alloc (.cells (ar v h A rows cap) 57)),ae W.W w.heap.size 0 (.int .i64 a):=fun W=>W.cell Rq
 have H:∀W:Ext ((w.alloc (.cells (fP a b c) 233)).alloc (.cells (ar v h A rows cap) 57)),ae W.W w.heap.size 1 (.int .i64 b):=fun W=>W.cell Rq
 have I:∀W:Ext ((w.alloc (.cells (fP a b c) 233)).alloc (.cells (ar v h A rows cap) 57)),ae W.W w.heap.size 2 (.int .i64 c):=fun W=>W.cell Rq
 have J:∀W:Ext ((w.alloc (.cells (fP a b c) 233)).alloc (.cells (ar v h A rows cap) 57)),ae W.W (w.heap.size+1) 0 (.int .i64 v):=fun W=>W.cell Rq
 have N:∀W:Ext ((w.alloc (.cells (fP a b c) 233)).alloc (.cells (ar v h A rows cap) 57)),ae W.W (w.heap.size+1) 1 (.int .i64 h):=fun W=>W.cell Rq
 have O:∀W:Ext ((w.alloc (.cells (fP a b c) 233)).alloc (.cells (ar v h A rows cap) 57)),ae W.W (w.heap.size+1) 2 (.slice A rows.length cap):=fun W=>W.cell Rq
 cases h1:et a 0 ((rows.length:Int)-1)
 .skip
  go_enter func251,ntmps251
  exact Y9
 cases h2:et b 0 ((rows.length:Int)-1)
 .skip
  exact Zm
 cases F:(a !=b)
 .skip
  exact Zm
 go_enter func251,ntmps251
 go_upto_region 1 with(fail)
 refine cS ?_
 repeat (go_big_quiet_step (first|(go_at_call_of 247 a;exact Calls.eA (Calls.be (dS _ _ _ _ _ _ _ hm) h1))|(go_at_call_of 247 b;exact Calls.eA (Calls.be (dS _ _ _ _ _ _ _ hm) h2))|(go_at_call 131;exact Calls.cQ (j9 _ _ _))))
 refine dn ?_;rintro _ ⟨W,rfl⟩;go_wp2;go_ret
 exact⟨aL Rq,ai HB.o W.ok⟩
theorem x_(a:Int)(p v h:Int)(A:aq)(cap:Nat)(rows:aN)(w:aa)(hm:rows.length<=maxLen)(G:bk w A rows)(O:∀r∈rows,r.length<=maxLen):aw 254 (gQ (bs a) p (ar v h A rows cap)) w fun e w'=>e=.returned (.bool (et a 0 ((rows.length:Int)-1)&&yj (rows.getD a.toNat [])))/\ag w w':=by
 have F:Below w.heap.size w ((w.alloc (.cells (bs a) 235)).alloc (.cells (ar v h A rows cap) 57)):=((aj w.heap.size w).alloc Rq _).alloc Rq _;have HB:=zH F;clear F;have ad:∀W:Ext ((w.alloc (.cells (bs a) 235)).alloc (.cells (ar v h A rows cap) 57)),ae W.W w.heap.size 0 (.int .i64 a):=fun W=>W.cell Rq
 have am:∀W:Ext ((w.alloc (.cells (bs a) 235)).alloc (.cells (ar v h A rows cap) 57)),ae W.W (w.heap.size+1) 0 (.int .i64 v):=fun W=>W.cell Rq
 have ao:∀W:Ext ((w.alloc (.cells (bs a) 235)).alloc (.cells (ar v h A rows cap) 57)),ae W.W (w.heap.size+1) 1 (.int .i64 h):=fun W=>W.cell Rq
 have ap:∀W:Ext ((w.alloc (.cells (bs a) 235)).alloc (.cells (ar v h A rows cap) 57)),ae W.W (w.heap.size+1) 2 (.slice A rows.length cap):=fun W=>W.cell Rq
 cases h1:et a 0 ((rows.length:Int)-1)
 .skip
  go_enter func254,ntmps254
  exact Y9
 obtain⟨Z,ab⟩:0<=a/\a<=(rows.length:Int)-1:=Te;have N:a.toNat<rows.length:=Rr;obtain⟨r,hr⟩:=aB N;obtain⟨D,o,rfl,H⟩:=G.here N;obtain⟨R,Y,I,J⟩:=H _ r hr;have ac:∀W:Ext ((w.alloc (.cells (bs a) 235)).alloc (.cells (ar v h (some ⟨D,o,none⟩) rows cap) 57)),ae W.W D (o+a.toNat) (.slice R r.length Y):=fun W=>al (ai HB.o W.ok) I
 obtain⟨T,V,U⟩:=dO (fun W:Ext ((w.alloc (.cells (bs a) 235)).alloc (.cells (ar v h (some ⟨D,o,none⟩) rows cap) 57))=>J.ext (ai HB.o W.ok)) (To:rows.getD a.toNat []=r) (O r (aY hr));clear hr H I J G O;go_enter func254,ntmps254
 go_upto_region 1 with(fail)
 refine cS ?_
 repeat (go_big_quiet_step (first|(go_at_call_of 247 a;exact Calls.eA (Calls.be (dS _ _ _ _ _ _ _ hm) h1))|(go_at_call 186;exact Calls.cQ (zb_ _ _ _ _ (T.o _) U.o))))
 refine dn ?_;rintro _ ⟨W,rfl⟩;go_wp2;go_ret
 exact⟨aL (by rw[V.o];simp),ai HB.o W.ok⟩
theorem Ag(a:Int)(p v h:Int)(A:aq)(cap:Nat)(rows:aN)(w:aa)(G:rows.length<=maxLen):aw 258 (gQ (bs a) p (ar v h A rows cap)) w fun e w'=>e=.returned (.bool (et a 0 (rows.length:Int)))/\ag w w':=by
 have D:Below w.heap.size w ((w.alloc (.cells (bs a) 236)).alloc (.cells (ar v h A rows cap) 57)):=((aj w.heap.size w).alloc Rq _).alloc Rq _;have F:=zH D;clear D;have H:∀W:Ext ((w.alloc (.cells (bs a) 236)).alloc (.cells (ar v h A rows cap) 57)),ae W.W w.heap.size 0 (.int .i64 a):=fun W=>W.cell Rq
 have I:∀W:Ext ((w.alloc (.cells (bs a) 236)).alloc (.cells (ar v h A rows cap) 57)),ae W.W (w.heap.size+1) 0 (.int .i64 v):=fun W=>W.cell Rq
 have J:∀W:Ext ((w.alloc (.cells (bs a) 236)).alloc (.cells (ar v h A rows cap) 57)),ae W.W (w.heap.size+1) 1 (.int .i64 h):=fun W=>W.cell Rq
 have N:∀W:Ext ((w.alloc (.cells (bs a) 236)).alloc (.cells (ar v h A rows cap) 57)),ae W.W (w.heap.size+1) 2 (.slice A rows.length cap):=fun W=>W.cell Rq
 go_enter func258,ntmps258
 go_upto_region 1 with(fail)
 refine cS ?_
 repeat (go_big_quiet_step ((go_at_call 143;exact Calls.cQ (da _ _ _ _))))
 refine dn ?_;rintro _ ⟨W,rfl⟩;go_wp2;go_ret
 exact⟨aL Rp,ai F.o W.ok⟩
theorem sY(b:Int)(p v h:Int)(A:aq)(cap:Nat)(rows:aN)(w:aa)(G:rows.length<=maxLen):aw 285 (gQ (bs b) p (ar v h A rows cap)) w fun e w'=>e=.returned (.bool (et b 0 h))/\ag w w':=by
 have D:Below w.heap.size w ((w.alloc (.cells (bs b) 242)).alloc (.cells (ar v h A rows cap) 57)):=((aj w.heap.size w).alloc Rq _).alloc Rq _;have F:=zH D;clear D;have H:∀W:Ext ((w.alloc (.cells (bs b) 242)).alloc (.cells (ar v h A rows cap) 57)),ae W.W w.heap.size 0 (.int .i64 b):=fun W=>W.cell Rq
 have I:∀W:Ext ((w.alloc (.cells (bs b) 242)).alloc (.cells (ar v h A rows cap) 57)),ae W.W (w.heap.size+1) 0 (.int .i64 v):=fun W=>W.cell Rq
 have J:∀W:Ext ((w.alloc (.cells (bs b) 242)).alloc (.cells (ar v h A rows cap) 57)),ae W.W (w.heap.size+1) 1 (.int .i64 h):=fun W=>W.cell Rq
 have N:∀W:Ext ((w.alloc (.cells (bs b) 242)).alloc (.cells (ar v h A rows cap) 57)),ae W.W (w.heap.size+1) 2 (.slice A rows.length cap):=fun W=>W.cell Rq
 go_enter func285,ntmps285
 go_upto_region 1 with(fail)
 refine cS ?_
 repeat (go_big_quiet_step ((go_at_call 143;exact Calls.cQ (da _ _ _ _))))
 refine dn ?_;rintro _ ⟨W,rfl⟩;go_wp2;go_ret
 exact⟨aL Rp,ai F.o W.ok⟩
theorem sZ(b:Int)(p v h:Int)(A:aq)(cap:Nat)(rows:aN)(w:aa)(R:rows.length<=maxLen)(G:bk w A rows)(T:0<=v)(U:v<=24)(H:0<=h)(D:h<=100)(I:∀r∈rows,(r.length:Int)=v+h):aw 282 (gQ (bs b) p (ar v h A rows cap)) w fun e w'=>e=.returned (.bool (et b 0 (h-1)&&pB rows (v+b).toNat (-1)))/\ag w w':=by
 have F:Below w.heap.size w ((w.alloc (.cells (bs b) 241)).alloc (.cells (ar v h A rows cap) 57)):=((aj w.heap.size w).alloc Rq _).alloc Rq _;have HB:=zH F;clear F;have Y:∀W:Ext ((w.alloc (.cells (bs b) 241)).alloc (.cells (ar v h A rows cap) 57)),ae W.W w.heap.size 0 (.int .i64 b):=fun W=>W.cell Rq
 have Z:∀W:Ext ((w.alloc (.cells (bs b) 241)).alloc (.cells (ar v h A rows cap) 57)),ae W.W (w.heap.size+1) 0 (.int .i64 v):=fun W=>W.cell Rq
 have ab:∀W:Ext ((w.alloc (.cells (bs b) 241)).alloc (.cells (ar v h A rows cap) 57)),ae W.W (w.heap.size+1) 1 (.int .i64 h):=fun W=>W.cell Rq
 have ac:∀W:Ext ((w.alloc (.cells (bs b) 241)).alloc (.cells (ar v h A rows cap) 57)),ae W.W (w.heap.size+1) 2 (.slice A rows.length cap):=fun W=>W.cell Rq
 cases h1:et b 0 (h-1)
 .skip
  go_enter func282,ntmps282
  go_upto_region 1 with(fail)
  refine cS ?_
  repeat (go_big_quiet_step ((go_at_call 269;exact Calls.eA (Calls.be (kd _ _ _ _ _ H D) h1))))
  exact Xt
 obtain⟨O,V⟩:0<=b/\b<=h-1:=Te;obtain⟨N,J⟩:=bD (fun W:Ext ((w.alloc (.cells (bs b) 241)).alloc (.cells (ar v h A rows cap) 57))=>G.ext (ai HB.o W.ok)) I;clear G I;go_enter func282,ntmps282
 go_upto_region 1 with(fail)
 refine cS ?_
 repeat (go_big_quiet_step (first|(go_at_call 269;exact Calls.eA (Calls.be (kd _ _ _ _ _ H D) h1))|(go_at_call 270;exact Calls.eA (AV _ _ _ _ _ _ _ _ (N.o _) R T U D O Rr J.o))))
 refine dn ?_;rintro _ ⟨W,rfl⟩;go_wp2;go_ret
 exact⟨aL Rq,ai HB.o W.ok⟩
theorem uV(a b:Int)(p v h:Int)(A:aq)(cap:Nat)(rows:aN)(w:aa)(hm:rows.length<=maxLen)(F:bk w A rows)(ap:0<=v)(a0:v<=24)(hh:0<=h)(Lq:h<=100)(H:∀r∈rows,(r.length:Int)=v+h):aw 266 (gQ (bf a b) p (ar v h A rows cap)) w fun e w'=>e=.returned (.bool (et a 0 ((rows.length:Int)-1)&&(et b 0 (h-1)&&(((rows.getD a.toNat []).getD (v+b).toNat 0 !=0)&&pB rows (v+b).toNat a))))/\ag w w':=by
 have I:Below w.heap.size w ((w.alloc (.cells (bf a b) 237)).alloc (.cells (ar v h A rows cap) 57)):=((aj w.heap.size w).alloc Rq _).alloc Rq _;have HB:=zH I;clear I;have bc:∀W:Ext ((w.alloc (.cells (bf a b) 237)).alloc (.cells (ar v h A rows cap) 57)),ae W.W w.heap.size 0 (.int .i64 a):=fun W=>W.cell Rq
 have bd:∀W:Ext ((w.alloc (.cells (bf a b) 237)).alloc (.cells (ar v h A rows cap) 57)),ae W.W w.heap.size 1 (.int .i64 b):=fun W=>W.cell Rq
 have bg:∀W:Ext ((w.alloc (.cells (bf a b) 237)).alloc (.cells (ar v h A rows cap) 57)),ae W.W (w.heap.size+1) 0 (.int .i64 v):=fun W=>W.cell Rq
 have bi:∀W:Ext ((w.alloc (.cells (bf a b) 237)).alloc (.cells (ar v h A rows cap) 57)),ae W.W (w.heap.size+1) 1 (.int .i64 h):=fun W=>W.cell Rq
 have bo:∀W:Ext ((w.alloc (.cells (bf a b) 237)).alloc (.cells (ar v h A rows cap) 57)),ae W.W (w.heap.size+1) 2 (.slice A rows.length cap):=fun W=>W.cell Rq
 cases h1:et a 0 ((rows.length:Int)-1)
 .skip
  go_enter func266,ntmps266
  go_upto_region 1 with(fail)
  refine bK RP RP ?_
  repeat (go_big_quiet_step ((go_at_call_of 247 a;exact Calls.eA (Calls.be (dS _ _ _ _ _ _ _ hm) h1))))
  exact Xt
 cases h2:et b 0 (h-1)
 .skip
  exact Zn
 obtain⟨ad,a6⟩:0<=b/\b<=h-1:=by simpa[et]using h2
 obtain⟨a4,a5⟩:0<=a/\a<=(rows.length:Int)-1:=Te;have R:a.toNat<rows.length:=Rr;obtain⟨r,hr⟩:=aB R;obtain⟨D,o,rfl,J⟩:=F.here R;obtain⟨V,ao,O,G⟩:=J _ r hr;have ba:∀W:Ext ((w.alloc (.cells (bf a b) 237)).alloc (.cells (ar v h (some ⟨D,o,none⟩) rows cap) 57)),ae W.W D (o+a.toNat) (.slice V r.length ao):=fun W=>al (ai HB.o W.ok) O
 obtain⟨a2,ab,Z,Y⟩:=fU (fun W:Ext ((w.alloc (.cells (bf a b) 237)).alloc (.cells (ar v h (some ⟨D,o,none⟩) rows cap) 57))=>G.ext (ai HB.o W.ok)) (To:rows.getD a.toNat []=r) (fun W:Ext ((w.alloc (.cells (bf a b) 237)).alloc (.cells (ar v h (some ⟨D,o,none⟩) rows cap) 57))=>F.ext (ai HB.o W.ok)) H;have U:=H r (aY hr);have T:(v+b).toNat<r.length:=Rr;obtain⟨x,hx⟩:=aB T;obtain⟨am,a1,rfl,N⟩:=G.here T;have bb:∀W:Ext ((w.alloc (.cells (bf a b) 237)).alloc (.cells (ar v h (some ⟨D,o,none⟩) rows cap) 57)),ae W.W am (a1+(v+b).toNat) (.int .i64 x):=fun W=>al (ai HB.o W.ok) (N _ _ hx)
 have ac:=zH (Tn:r.getD (v+b).toNat 0=x);have a8:0<=v+b:=Rr;have a9:v+b < (r.length:Int):=Rr;clear hr J O G F H hx N;have a3:=zH U;clear U;rw[ab.o,ac.o];cases a7:(x !=0)
 .skip
  exact Zn
 go_enter func266,ntmps266
 go_upto_region 1 with(fail)
 refine bK RP RP ?_
 repeat (go_big_quiet_step (first|(go_at_call_of 247 a;exact Calls.eA (Calls.be (dS _ _ _ _ _ _ _ hm) h1))|(go_at_call 269;exact Calls.eA (Calls.be (kd _ _ _ _ _ hh Lq) h2))|(go_at_call 270;exact Calls.eA (AV _ _ _ _ _ _ _ _ (Z.o _) hm ap a0 Lq ad Rr Y.o))))
 refine dn ?_;rintro _ ⟨W,rfl⟩;go_wp2;go_ret
 exact⟨aL Rq,ai HB.o W.ok⟩
theorem uW(a b:Int)(D:aq)(F:Nat)(row:aH)(p v h:Int)(A:aq)(cap:Nat)(rows:aN)(w:aa)(a3:rows.length<=maxLen)(J:aJ w D row)(Z:row.length<=maxLen)(O:0<=v)(a4:v<=24)(N:0<=h)(a0:h<=100):aw 273 (gQ (ar a b D row F) p (ar v h A rows cap)) w fun e w'=>e=.returned (.bool (et a 0 (rows.length:Int)&&(et b 0 h&&(rI p row (v+h+1)&&(row.getD (v+b).toNat 0 !=0)))))/\ag w w':=by
 have U:Below w.heap.size w ((w.alloc (.cells (ar a b D row F) 239)).alloc (.cells (ar v h A rows cap) 57)):=((aj w.heap.size w).alloc Rq _).alloc Rq _;have HB:=zH U;clear U;have a6:∀W:Ext ((w.alloc (.cells (ar a b D row F) 239)).alloc (.cells (ar v h A rows cap) 57)),ae W.W w.heap.size 0 (.int .i64 a):=fun W=>W.cell Rq
 have a7:∀W:Ext ((w.alloc (.cells (ar a b D row F) 239)).alloc (.cells (ar v h A rows cap) 57)),ae W.W w.heap.size 1 (.int .i64 b):=fun W=>W.cell Rq
 have a8:∀W:Ext ((w.alloc (.cells (ar a b D row F) 239)).alloc (.cells (ar v h A rows cap) 57)),ae W.W w.heap.size 2 (.slice D row.length F):=fun W=>W.cell Rq
 have a9:∀W:Ext ((w.alloc (.cells (ar a b D row F) 239)).alloc (.cells (ar v h A rows cap) 57)),ae W.W (w.heap.size+1) 0 (.int .i64 v):=fun W=>W.cell Rq
 have ba:∀W:Ext ((w.alloc (.cells (ar a b D row F) 239)).alloc (.cells (ar v h A rows cap) 57)),ae W.W (w.heap.size+1) 1 (.int .i64 h):=fun W=>W.cell Rq
 have bb:∀W:Ext ((w.alloc (.cells (ar a b D row F) 239)).alloc (.cells (ar v h A rows cap) 57)),ae W.W (w.heap.size+1) 2 (.slice A rows.length cap):=fun W=>W.cell Rq
 have R:=zH (fun W:Ext ((w.alloc (.cells (ar a b D row F) 239)).alloc (.cells (ar v h A rows cap) 57))=>J.ext (ai HB.o W.ok));cases H:et a 0 (rows.length:Int)
 .skip
  go_enter func273,ntmps273
  go_upto_region 1 with(fail)
  refine bK RP RP ?_
  repeat (go_big_quiet_step ((go_at_call_of 143 a;exact Calls.cQ (Calls.cT (da _ _ _ _) H))))
  exact Xt
 cases I:et b 0 h
 .skip
  go_enter func273,ntmps273
  go_upto_region 1 with(fail)
  refine bK RP RP ?_
  repeat (go_big_quiet_step (first|(go_at_call 64;exact Calls.eA (ny v h _ _ O Rr N Rr))|(go_at_call_of 143 a;exact Calls.cQ (Calls.cT (da _ _ _ _) H))|(go_at_call_of 143 b;exact Calls.cQ (Calls.cT (da _ _ _ _) I))))
  exact Xt
 obtain⟨ao,ap⟩:0<=b/\b<=h:=by simpa[et]using I
 cases G:rI p row (v+h+1)
 .skip
  go_enter func273,ntmps273
  go_upto_region 1 with(fail)
  refine bK RP RP ?_
  repeat (go_big_quiet_step (first|(go_at_call 64;exact Calls.eA (ny v h _ _ O Rr N Rr))|(go_at_call_of 143 a;exact Calls.cQ (Calls.cT (da _ _ _ _) H))|(go_at_call_of 143 b;exact Calls.cQ (Calls.cT (da _ _ _ _) I))|(go_at_call 88;exact Calls.cQ (Calls.cT (mM _ _ _ _ _ _ (R.o _) Z) G))))
  exact Xt
 have ab:(row.length:Int)=v+h+1:=by unfold rI at G;rw[bE,bX]at G;exact G.1
 have Y:(v+b).toNat<row.length:=Rr;obtain⟨x,hx⟩:=aB Y;obtain⟨T,ac,rfl,V⟩:=J.here Y;have a5:∀W:Ext ((w.alloc (.cells (ar a b (some ⟨T,ac,none⟩) row F) 239)).alloc (.cells (ar v h A rows cap) 57)),ae W.W T (ac+(v+b).toNat) (.int .i64 x):=fun W=>al (ai HB.o W.ok) (V _ _ hx)
 have ad:=zH (Tn:row.getD (v+b).toNat 0=x);have a1:0<=v+b:=Rr;have a2:v+b < (row.length:Int):=Rr;clear J hx V;have am:=zH ab;clear ab;rw[ad.o];go_enter func273,ntmps273
 go_upto_region 1 with(fail)
 refine bK RP RP ?_
 repeat (go_big_quiet_step (first|(go_at_call 64;exact Calls.eA (ny v h _ _ O Rr N Rr))|(go_at_call_of 143 a;exact Calls.cQ (Calls.cT (da _ _ _ _) H))|(go_at_call_of 143 b;exact Calls.cQ (Calls.cT (da _ _ _ _) I))|(go_at_call 88;exact Calls.cQ (Calls.cT (mM _ _ _ _ _ _ (R.o _) Z) G))))
 refine dn ?_;rintro _ ⟨W,rfl⟩;go_wp2;go_ret
 exact⟨aL Rq,ai HB.o W.ok⟩
theorem e_(F G H I N:ax)(t:du)(V:Below (w.alloc (.cells #[F,G,H,I,N] t)).heap.size (w.alloc (.cells #[F,G,H,I,N] t)) J)(O R T U:ax)(t2:du):∃W,W=J.alloc (.cells #[O,R,T,U] t2)/\ag w W/\ae W w.heap.size 0 F/\ae W w.heap.size 1 G/\ae W w.heap.size 2 H/\ae W w.heap.size 3 I/\ae W w.heap.size 4 N/\ae W J.heap.size 0 O/\ae W J.heap.size 1 R/\ae W J.heap.size 2 T/\ae W J.heap.size 3 U:=by have Y:=V.alloc V.size (.cells #[O,R,T,U] t2);have h:=cH Y (aC w (.cells #[F,G,H,I,N] t) rfl);have D:=aC J (.cells #[O,R,T,U] t2) rfl;exact⟨_,rfl,((aj w.heap.size w).alloc (af _) _).trans (Y.mono Rq),a_ h 0,a_ h 1,a_ h 2,a_ h 3,a_ h 4,a_ D 0,a_ D 1,a_ D 2,a_ D 3⟩
theorem yt(a b c:Int)(h:aq)(n cap:Nat)(w:aa)(J:n<=1048576):aw 146 (cy (qf a b c h n cap)) w fun e w'=>e=.returned (.tuple #[if((c==0)&&((n==0)))=true then .iface 229 (.agg (bf a b)) else .nilIface,.bool ((c==0)&&((n==0)))])/\ag w w':=by
 by_cases tC:c=0
 .subst tC;by_cases tL:n=0
  .subst tL;go_enter d_,ec
   go_upto_region 2 with(go_at_call 192;refine(bY _ _).mono ?_;rintro e w1 ⟨rfl,EG⟩)
   obtain⟨W,hW,hb,e0,e1,e2,e3,e4,f0,f1,f2,f3⟩:=e_ _ _ _ _ _ _ EG (.bool (eJ 1)) (.bool (eK 1)) (.bool (eL 1)) (.bool (eN 1)) 226;rw[<-hW];clear hW EG;simp only[show eJ 1=true from rfl,show eK 1=true from rfl,show eL 1=false from rfl,show eN 1=false from rfl]at f0 f1 f2 f3 ⊢;go_wp2
   all_goals exact aE (v:=.tuple #[.iface 229 (.agg (bf a b)),.bool true]) Um rfl ⟨Rz,hb⟩
  .have F:(n==0)=false:=Sd;have H:(0:Int)<n:=Rr;have I:0<n:=Rr;exact Zw
 .have D:(c==0)=false:=Sc;have G:(c !=0)=true:=Sc;exact Zw
theorem xk(a b c:Int)(h:aq)(n cap:Nat)(w:aa)(J:n<=1048576):aw 146 (cy (qg a b c h n cap)) w fun e w'=>e=.returned (.tuple #[if((b==0)&&((n==0)))=true then .iface 231 (.agg (bf a c)) else .nilIface,.bool ((b==0)&&((n==0)))])/\ag w w':=by
 by_cases tB:b=0
 .subst tB;by_cases tL:n=0
  .subst tL;go_enter d_,ec
   go_upto_region 2 with(go_at_call 192;refine(bY _ _).mono ?_;rintro e w1 ⟨rfl,EG⟩)
   obtain⟨W,hW,hb,e0,e1,e2,e3,e4,f0,f1,f2,f3⟩:=e_ _ _ _ _ _ _ EG (.bool (eJ 2)) (.bool (eK 2)) (.bool (eL 2)) (.bool (eN 2)) 226;rw[<-hW];clear hW EG;simp only[show eJ 2=true from rfl,show eK 2=false from rfl,show eL 2=true from rfl,show eN 2=false from rfl]at f0 f1 f2 f3 ⊢;go_wp2
   all_goals exact aE (v:=.tuple #[.iface 231 (.agg (bf a c)),.bool true]) Um rfl ⟨Rz,hb⟩
  .have F:(n==0)=false:=Sd;have H:(0:Int)<n:=Rr;have I:0<n:=Rr;exact Zv
 .have D:(b==0)=false:=Sb;have G:(b !=0)=true:=Sb;exact Zv
theorem Al(a b c:Int)(F:aq)(n cap:Nat)(w:aa)(V:n<=1048576):aw 146 (cy (qc a b c F n cap)) w fun e w'=>e=.returned (.tuple #[if((n==0))=true then .iface 233 (.agg (fP a b c)) else .nilIface,.bool ((n==0))])/\ag w w':=by
 by_cases tL:n=0
 .subst tL;go_enter d_,ec
  go_upto_region 2 with(go_at_call 192;refine(bY _ _).mono ?_;rintro e O ⟨rfl,D⟩)
  obtain⟨W,h,hb,G,H,I,J,N,f0,f1,f2,f3⟩:=e_ _ _ _ _ _ _ D (.bool (eJ 3)) (.bool (eK 3)) (.bool (eL 3)) (.bool (eN 3)) 226;rw[<-h];clear h D;simp only[show eJ 3=true from rfl,show eK 3=true from rfl,show eL 3=true from rfl,show eN 3=false from rfl]at f0 f1 f2 f3 ⊢;go_wp2
  all_goals exact aE (v:=.tuple #[.iface 233 (.agg (fP a b c)),.bool true]) Um rfl ⟨Rz,hb⟩
 .have R:(n==0)=false:=Sd;have T:(0:Int)<n:=Rr;have U:0<n:=Rr;go_enter d_,ec
  go_upto_region 2 with(go_at_call 192;refine(bY _ _).mono ?_;rintro e O ⟨rfl,D⟩)
  obtain⟨W,h,hb,G,H,I,J,N,f0,f1,f2,f3⟩:=e_ _ _ _ _ _ _ D (.bool (eJ 3)) (.bool (eK 3)) (.bool (eL 3)) (.bool (eN 3)) 226;rw[<-h];clear h D;simp only[show eJ 3=true from rfl,show eK 3=true from rfl,show eL 3=true from rfl,show eN 3=false from rfl]at f0 f1 f2 f3 ⊢;exact XX
theorem yv(a b c:Int)(h:aq)(n cap:Nat)(w:aa)(O:n<=1048576):aw 146 (cy (qh a b c h n cap)) w fun e w'=>e=.returned (.tuple #[if((b==0)&&((c==0)&&((n==0))))=true then .iface 235 (.agg (bs a)) else .nilIface,.bool ((b==0)&&((c==0)&&((n==0))))])/\ag w w':=by
 by_cases tB:b=0
 .subst tB;by_cases tC:c=0
  .subst tC;by_cases tL:n=0
   .subst tL;go_enter d_,ec
    go_upto_region 2 with(go_at_call 192;refine(bY _ _).mono ?_;rintro e w1 ⟨rfl,EG⟩)
    obtain⟨W,hW,hb,e0,e1,e2,e3,e4,f0,f1,f2,f3⟩:=e_ _ _ _ _ _ _ EG (.bool (eJ 4)) (.bool (eK 4)) (.bool (eL 4)) (.bool (eN 4)) 226;rw[<-hW];clear hW EG;simp only[show eJ 4=true from rfl,show eK 4=false from rfl,show eL 4=false from rfl,show eN 4=false from rfl]at f0 f1 f2 f3 ⊢;go_wp2
    all_goals exact aE (v:=.tuple #[.iface 235 (.agg (bs a)),.bool true]) Um rfl ⟨Rz,hb⟩
   .have G:(n==0)=false:=Sd;have J:(0:Int)<n:=Rr;have N:0<n:=Rr;exact ZA
  .have F:(c==0)=false:=Sc;have I:(c !=0)=true:=Sc;exact ZA
 .have D:(b==0)=false:=Sb;have H:(b !=0)=true:=Sb;exact ZA
theorem Am(a b c:Int)(h:aq)(n cap:Nat)(w:aa)(O:n<=1048576):aw 146 (cy (qi a b c h n cap)) w fun e w'=>e=.returned (.tuple #[if((b==0)&&((c==0)&&((n==0))))=true then .iface 236 (.agg (bs a)) else .nilIface,.bool ((b==0)&&((c==0)&&((n==0))))])/\ag w w':=by
 by_cases tB:b=0
 .subst tB;by_cases tC:c=0
  .subst tC;by_cases tL:n=0
   .subst tL;go_enter d_,ec
    go_upto_region 2 with(go_at_call 192;refine(bY _ _).mono ?_;rintro e w1 ⟨rfl,EG⟩)
    obtain⟨W,hW,hb,e0,e1,e2,e3,e4,f0,f1,f2,f3⟩:=e_ _ _ _ _ _ _ EG (.bool (eJ 5)) (.bool (eK 5)) (.bool (eL 5)) (.bool (eN 5)) 226;rw[<-hW];clear hW EG;simp only[show eJ 5=true from rfl,show eK 5=false from rfl,show eL 5=false from rfl,show eN 5=false from rfl]at f0 f1 f2 f3 ⊢;go_wp2
    all_goals exact aE (v:=.tuple #[.iface 236 (.agg (bs a)),.bool true]) Um rfl ⟨Rz,hb⟩
   .have G:(n==0)=false:=Sd;have J:(0:Int)<n:=Rr;have N:0<n:=Rr;exact Zz
  .have F:(c==0)=false:=Sc;have I:(c !=0)=true:=Sc;exact Zz
 .have D:(b==0)=false:=Sb;have H:(b !=0)=true:=Sb;exact Zz
theorem xl(a b c:Int)(h:aq)(n cap:Nat)(w:aa)(J:n<=1048576):aw 146 (cy (qd a b c h n cap)) w fun e w'=>e=.returned (.tuple #[if((c==0)&&((n==0)))=true then .iface 237 (.agg (bf a b)) else .nilIface,.bool ((c==0)&&((n==0)))])/\ag w w':=by
 by_cases tC:c=0
 .subst tC;by_cases tL:n=0
  .subst tL;go_enter d_,ec
   go_upto_region 2 with(go_at_call 192;refine(bY _ _).mono ?_;rintro e w1 ⟨rfl,EG⟩)
   obtain⟨W,hW,hb,e0,e1,e2,e3,e4,f0,f1,f2,f3⟩:=e_ _ _ _ _ _ _ EG (.bool (eJ 6)) (.bool (eK 6)) (.bool (eL 6)) (.bool (eN 6)) 226;rw[<-hW];clear hW EG;simp only[show eJ 6=true from rfl,show eK 6=true from rfl,show eL 6=false from rfl,show eN 6=false from rfl]at f0 f1 f2 f3 ⊢;go_wp2
   all_goals exact aE (v:=.tuple #[.iface 237 (.agg (bf a b)),.bool true]) Um rfl ⟨Rz,hb⟩
  .have F:(n==0)=false:=Sd;have H:(0:Int)<n:=Rr;have I:0<n:=Rr;exact Zu
 .have D:(c==0)=false:=Sc;have G:(c !=0)=true:=Sc;exact Zu
theorem xm(a b c:Int)(F:aq)(n cap:Nat)(w:aa)(U:n<=1048576):aw 146 (cy (qj a b c F n cap)) w fun e w'=>e=.returned (.tuple #[if((c==0))=true then .iface 239 (.agg (fy a b F n cap)) else .nilIface,.bool ((c==0))])/\ag w w':=by
 by_cases tC:c=0
 .subst tC;go_enter d_,ec
  go_upto_region 2 with(go_at_call 192;refine(bY _ _).mono ?_;rintro e O ⟨rfl,D⟩)
  obtain⟨W,h,hb,G,H,I,J,N,f0,f1,f2,f3⟩:=e_ _ _ _ _ _ _ D (.bool (eJ 7)) (.bool (eK 7)) (.bool (eL 7)) (.bool (eN 7)) 226;rw[<-h];clear h D;simp only[show eJ 7=true from rfl,show eK 7=true from rfl,show eL 7=false from rfl,show eN 7=true from rfl]at f0 f1 f2 f3 ⊢;go_wp2
  all_goals exact aE (v:=.tuple #[.iface 239 (.agg (fy a b F n cap)),.bool true]) Um rfl ⟨Rz,hb⟩
 .have R:(c==0)=false:=Sc;have T:(c !=0)=true:=Sc;go_enter d_,ec
  go_upto_region 2 with(go_at_call 192;refine(bY _ _).mono ?_;rintro e O ⟨rfl,D⟩)
  obtain⟨W,h,hb,G,H,I,J,N,f0,f1,f2,f3⟩:=e_ _ _ _ _ _ _ D (.bool (eJ 7)) (.bool (eK 7)) (.bool (eL 7)) (.bool (eN 7)) 226;rw[<-h];clear h D;simp only[show eJ 7=true from rfl,show eK 7=true from rfl,show eL 7=false from rfl,show eN 7=true from rfl]at f0 f1 f2 f3 ⊢;exact XX
theorem uX(a b c:Int)(h:aq)(n cap:Nat)(w:aa)(O:n<=1048576):aw 146 (cy (qe a b c h n cap)) w fun e w'=>e=.returned (.tuple #[if((a==0)&&((c==0)&&((n==0))))=true then .iface 241 (.agg (bs b)) else .nilIface,.bool ((a==0)&&((c==0)&&((n==0))))])/\ag w w':=by
 by_cases tA:a=0
 .subst tA;by_cases tC:c=0
  .subst tC;by_cases tL:n=0
   .subst tL;go_enter d_,ec
    go_upto_region 2 with(go_at_call 192;refine(bY _ _).mono ?_;rintro e w1 ⟨rfl,EG⟩)
    obtain⟨W,hW,hb,e0,e1,e2,e3,e4,f0,f1,f2,f3⟩:=e_ _ _ _ _ _ _ EG (.bool (eJ 8)) (.bool (eK 8)) (.bool (eL 8)) (.bool (eN 8)) 226;rw[<-hW];clear hW EG;simp only[show eJ 8=false from rfl,show eK 8=true from rfl,show eL 8=false from rfl,show eN 8=false from rfl]at f0 f1 f2 f3 ⊢;go_wp2
    all_goals exact aE (v:=.tuple #[.iface 241 (.agg (bs b)),.bool true]) Um rfl ⟨Rz,hb⟩
   .have G:(n==0)=false:=Sd;have J:(0:Int)<n:=Rr;have N:0<n:=Rr;exact Zy
  .have F:(c==0)=false:=Sc;have I:(c !=0)=true:=Sc;exact Zy
 .have D:(a==0)=false:=Sa;have H:(a !=0)=true:=Sa;exact Zy
theorem uY(a b c:Int)(h:aq)(n cap:Nat)(w:aa)(O:n<=1048576):aw 146 (cy (qk a b c h n cap)) w fun e w'=>e=.returned (.tuple #[if((a==0)&&((c==0)&&((n==0))))=true then .iface 242 (.agg (bs b)) else .nilIface,.bool ((a==0)&&((c==0)&&((n==0))))])/\ag w w':=by
 by_cases tA:a=0
 .subst tA;by_cases tC:c=0
  .subst tC;by_cases tL:n=0
   .subst tL;go_enter d_,ec
    go_upto_region 2 with(go_at_call 192;refine(bY _ _).mono ?_;rintro e w1 ⟨rfl,EG⟩)
    obtain⟨W,hW,hb,e0,e1,e2,e3,e4,f0,f1,f2,f3⟩:=e_ _ _ _ _ _ _ EG (.bool (eJ 9)) (.bool (eK 9)) (.bool (eL 9)) (.bool (eN 9)) 226;rw[<-hW];clear hW EG;simp only[show eJ 9=false from rfl,show eK 9=true from rfl,show eL 9=false from rfl,show eN 9=false from rfl]at f0 f1 f2 f3 ⊢;go_wp2
    all_goals exact aE (v:=.tuple #[.iface 242 (.agg (bs b)),.bool true]) Um rfl ⟨Rz,hb⟩
   .have G:(n==0)=false:=Sd;have J:(0:Int)<n:=Rr;have N:0<n:=Rr;exact Zx
  .have F:(c==0)=false:=Sc;have I:(c !=0)=true:=Sc;exact Zx
 .have D:(a==0)=false:=Sa;have H:(a !=0)=true:=Sa;exact Zx
theorem Dl(k a b c:Int)(h:aq)(n cap:Nat)(w:aa)(ad:n<=1048576)(H:k≠1)(I:k≠2)(J:k≠3)(N:k≠4)(O:k≠5)(R:k≠6)(T:k≠7)(U:k≠8)(V:k≠9):aw 146 (cy (oG k a b c h n cap)) w fun e w'=>e=.returned (.tuple fg)/\ag w w':=by
 by_cases tB:b=0
 .subst tB;by_cases tC:c=0
  .subst tC;by_cases tL:n=0
   .subst tL;exact ZC
   .have G:(n==0)=false:=Sd;have ab:(0:Int)<n:=Rr;have ac:0<n:=Rr;exact ZC
  .have F:(c==0)=false:=Sc;have Z:(c !=0)=true:=Sc;exact ZC
 .have D:(b==0)=false:=Sb;have Y:(b !=0)=true:=Sb;exact ZC
end Go.Proofs.YtpieilkmmiopfaaGreatDoor
