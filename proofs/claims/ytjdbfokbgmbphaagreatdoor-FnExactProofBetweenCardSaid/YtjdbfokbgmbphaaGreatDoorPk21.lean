/- Whether a step of each kind is possible (the program's methods 'can'). Conditions: rows as long as the system says. -/
import Derived.Test.YtjdbfokbgmbphaaGreatDoorPk4
namespace Go.Proofs.YtjdbfokbgmbphaaGreatDoor
set_option linter.unusedVariables false
set_option linter.unusedSimpArgs false
open Go.RowKit
set_option maxHeartbeats 2000000 in
theorem swapCan_any (a b : Int) (p v h : Int) (A : Option Addr) (cap : Nat) (rows : List (List Int)) (w : World) (hm : rows.length ≤ maxLen) :
  Calls Tryz.prog 161 #[.agg #[.int .i64 a, .int .i64 b], .int .i64 p, .agg #[.int .i64 v, .int .i64 h, .slice A rows.length cap]] w fun e w' =>
   e = .returned (.bool (inB a 0 ((rows.length : Int) - 1) && (inB b 0 ((rows.length : Int) - 1) && (a != b)))) ∧ Below w.heap.size w w' := by
 have hB : Below w.heap.size w ((w.alloc (.cells #[.int .i64 a, .int .i64 b] 118)).alloc (.cells #[.int .i64 v, .int .i64 h, .slice A rows.length cap] 30)) := ((Below.refl w.heap.size w).alloc (by simp) _).alloc (by simp) _
 have HB := Lib.hid hB
 clear hB
 have r0 : ∀ W : Ext ((w.alloc (.cells #[.int .i64 a, .int .i64 b] 118)).alloc (.cells #[.int .i64 v, .int .i64 h, .slice A rows.length cap] 30)), W.W.cell? ⟨w.heap.size, 0, none⟩ = some (.int .i64 a) := fun W => W.cell (by simp)
 have r1 : ∀ W : Ext ((w.alloc (.cells #[.int .i64 a, .int .i64 b] 118)).alloc (.cells #[.int .i64 v, .int .i64 h, .slice A rows.length cap] 30)), W.W.cell? ⟨w.heap.size, 1, none⟩ = some (.int .i64 b) := fun W => W.cell (by simp)
 have s0 : ∀ W : Ext ((w.alloc (.cells #[.int .i64 a, .int .i64 b] 118)).alloc (.cells #[.int .i64 v, .int .i64 h, .slice A rows.length cap] 30)), W.W.cell? ⟨w.heap.size + 1, 0, none⟩ = some (.int .i64 v) := fun W => W.cell (by simp)
 have s1 : ∀ W : Ext ((w.alloc (.cells #[.int .i64 a, .int .i64 b] 118)).alloc (.cells #[.int .i64 v, .int .i64 h, .slice A rows.length cap] 30)), W.W.cell? ⟨w.heap.size + 1, 1, none⟩ = some (.int .i64 h) := fun W => W.cell (by simp)
 have s2 : ∀ W : Ext ((w.alloc (.cells #[.int .i64 a, .int .i64 b] 118)).alloc (.cells #[.int .i64 v, .int .i64 h, .slice A rows.length cap] 30)), W.W.cell? ⟨w.heap.size + 1, 2, none⟩ = some (.slice A rows.length cap) := fun W => W.cell (by simp)
 cases h1 : inB a 0 ((rows.length : Int) - 1)
 ·skip
  go_enter Tryz.func161, Tryz.ntmps161
  go_upto_region 1 with (fail)
  refine wp_region_ext_seq ?_
  repeat (go_big_quiet_step ((go_at_call_of 164 a; exact Calls.ext_of (Calls.bool_eq' (hasRow_any _ _ _ _ _ _ _ hm) h1))))
  refine wpQuiet_nil ?_
  rintro _ ⟨W, rfl⟩
  go_wp2
  go_ret
  exact ⟨ret_bool (by simp), below_ext HB.out W.ok⟩
 cases h2 : inB b 0 ((rows.length : Int) - 1)
 ·skip
  go_enter Tryz.func161, Tryz.ntmps161
  go_upto_region 1 with (fail)
  refine wp_region_ext_seq ?_
  repeat (go_big_quiet_step (first | (go_at_call_of 164 a; exact Calls.ext_of (Calls.bool_eq' (hasRow_any _ _ _ _ _ _ _ hm) h1)) | (go_at_call_of 164 b; exact Calls.ext_of (Calls.bool_eq' (hasRow_any _ _ _ _ _ _ _ hm) h2))))
  refine wpQuiet_nil ?_
  rintro _ ⟨W, rfl⟩
  go_wp2
  go_ret
  exact ⟨ret_bool (by simp), below_ext HB.out W.ok⟩
 go_enter Tryz.func161, Tryz.ntmps161
 go_upto_region 1 with (fail)
 refine wp_region_ext_seq ?_
 repeat (go_big_quiet_step (first | (go_at_call_of 164 a; exact Calls.ext_of (Calls.bool_eq' (hasRow_any _ _ _ _ _ _ _ hm) h1)) | (go_at_call_of 164 b; exact Calls.ext_of (Calls.bool_eq' (hasRow_any _ _ _ _ _ _ _ hm) h2))))
 refine wpQuiet_nil ?_
 rintro _ ⟨W, rfl⟩
 go_wp2
 go_ret
 exact ⟨ret_bool (by simp), below_ext HB.out W.ok⟩
set_option maxHeartbeats 2000000 in
theorem scaleCan_any (a c : Int) (p v h : Int) (A : Option Addr) (cap : Nat) (rows : List (List Int)) (w : World) (hm : rows.length ≤ maxLen) :
  Calls Tryz.prog 165 #[.agg #[.int .i64 a, .int .i64 c], .int .i64 p, .agg #[.int .i64 v, .int .i64 h, .slice A rows.length cap]] w fun e w' =>
   e = .returned (.bool (inB a 0 ((rows.length : Int) - 1) && (elemB p c && (c != 0)))) ∧ Below w.heap.size w w' := by
 have hB : Below w.heap.size w ((w.alloc (.cells #[.int .i64 a, .int .i64 c] 120)).alloc (.cells #[.int .i64 v, .int .i64 h, .slice A rows.length cap] 30)) := ((Below.refl w.heap.size w).alloc (by simp) _).alloc (by simp) _
 have HB := Lib.hid hB
 clear hB
 have r0 : ∀ W : Ext ((w.alloc (.cells #[.int .i64 a, .int .i64 c] 120)).alloc (.cells #[.int .i64 v, .int .i64 h, .slice A rows.length cap] 30)), W.W.cell? ⟨w.heap.size, 0, none⟩ = some (.int .i64 a) := fun W => W.cell (by simp)
 have r1 : ∀ W : Ext ((w.alloc (.cells #[.int .i64 a, .int .i64 c] 120)).alloc (.cells #[.int .i64 v, .int .i64 h, .slice A rows.length cap] 30)), W.W.cell? ⟨w.heap.size, 1, none⟩ = some (.int .i64 c) := fun W => W.cell (by simp)
 have s0 : ∀ W : Ext ((w.alloc (.cells #[.int .i64 a, .int .i64 c] 120)).alloc (.cells #[.int .i64 v, .int .i64 h, .slice A rows.length cap] 30)), W.W.cell? ⟨w.heap.size + 1, 0, none⟩ = some (.int .i64 v) := fun W => W.cell (by simp)
 have s1 : ∀ W : Ext ((w.alloc (.cells #[.int .i64 a, .int .i64 c] 120)).alloc (.cells #[.int .i64 v, .int .i64 h, .slice A rows.length cap] 30)), W.W.cell? ⟨w.heap.size + 1, 1, none⟩ = some (.int .i64 h) := fun W => W.cell (by simp)
 have s2 : ∀ W : Ext ((w.alloc (.cells #[.int .i64 a, .int .i64 c] 120)).alloc (.cells #[.int .i64 v, .int .i64 h, .slice A rows.length cap] 30)), W.W.cell? ⟨w.heap.size + 1, 2, none⟩ = some (.slice A rows.length cap) := fun W => W.cell (by simp)
 cases h1 : inB a 0 ((rows.length : Int) - 1)
 ·skip
  go_enter Tryz.func165, Tryz.ntmps165
  go_upto_region 1 with (fail)
  refine wp_region_ext_seq ?_
  repeat (go_big_quiet_step ((go_at_call_of 164 a; exact Calls.ext_of (Calls.bool_eq' (hasRow_any _ _ _ _ _ _ _ hm) h1))))
  refine wpQuiet_nil ?_
  rintro _ ⟨W, rfl⟩
  go_wp2
  go_ret
  exact ⟨ret_bool (by simp), below_ext HB.out W.ok⟩
 cases h2 : elemB p c
 ·skip
  go_enter Tryz.func165, Tryz.ntmps165
  go_upto_region 1 with (fail)
  refine wp_region_ext_seq ?_
  repeat (go_big_quiet_step (first | (go_at_call_of 164 a; exact Calls.ext_of (Calls.bool_eq' (hasRow_any _ _ _ _ _ _ _ hm) h1)) | (go_at_call 125; exact Calls.ext_of_same (Calls.bool_eq (isElement_any _ _ _) h2))))
  refine wpQuiet_nil ?_
  rintro _ ⟨W, rfl⟩
  go_wp2
  go_ret
  exact ⟨ret_bool (by simp), below_ext HB.out W.ok⟩
 go_enter Tryz.func165, Tryz.ntmps165
 go_upto_region 1 with (fail)
 refine wp_region_ext_seq ?_
 repeat (go_big_quiet_step (first | (go_at_call_of 164 a; exact Calls.ext_of (Calls.bool_eq' (hasRow_any _ _ _ _ _ _ _ hm) h1)) | (go_at_call 125; exact Calls.ext_of_same (Calls.bool_eq (isElement_any _ _ _) h2))))
 refine wpQuiet_nil ?_
 rintro _ ⟨W, rfl⟩
 go_wp2
 go_ret
 exact ⟨ret_bool (by simp), below_ext HB.out W.ok⟩
set_option maxHeartbeats 2000000 in
theorem addCan_any (a b c : Int) (p v h : Int) (A : Option Addr) (cap : Nat) (rows : List (List Int)) (w : World) (hm : rows.length ≤ maxLen) :
  Calls Tryz.prog 168 #[.agg #[.int .i64 a, .int .i64 b, .int .i64 c], .int .i64 p, .agg #[.int .i64 v, .int .i64 h, .slice A rows.length cap]] w fun e w' =>
   e = .returned (.bool (inB a 0 ((rows.length : Int) - 1) && (inB b 0 ((rows.length : Int) - 1) && ((a != b) && elemB p c)))) ∧ Below w.heap.size w w' := by
 have hB : Below w.heap.size w ((w.alloc (.cells #[.int .i64 a, .int .i64 b, .int .i64 c] 122)).alloc (.cells #[.int .i64 v, .int .i64 h, .slice A rows.length cap] 30)) := ((Below.refl w.heap.size w).alloc (by simp) _).alloc (by simp) _
 have HB := Lib.hid hB
 clear hB
 have r0 : ∀ W : Ext ((w.alloc (.cells #[.int .i64 a, .int .i64 b, .int .i64 c] 122)).alloc (.cells #[.int .i64 v, .int .i64 h, .slice A rows.length cap] 30)), W.W.cell? ⟨w.heap.size, 0, none⟩ = some (.int .i64 a) := fun W => W.cell (by simp)
 have r1 : ∀ W : Ext ((w.alloc (.cells #[.int .i64 a, .int .i64 b, .int .i64 c] 122)).alloc (.cells #[.int .i64 v, .int .i64 h, .slice A rows.length cap] 30)), W.W.cell? ⟨w.heap.size, 1, none⟩ = some (.int .i64 b) := fun W => W.cell (by simp)
 have r2 : ∀ W : Ext ((w.alloc (.cells #[.int .i64 a, .int .i64 b, .int .i64 c] 122)).alloc (.cells #[.int .i64 v, .int .i64 h, .slice A rows.length cap] 30)), W.W.cell? ⟨w.heap.size, 2, none⟩ = some (.int .i64 c) := fun W => W.cell (by simp)
 have s0 : ∀ W : Ext ((w.alloc (.cells #[.int .i64 a, .int .i64 b, .int .i64 c] 122)).alloc (.cells #[.int .i64 v, .int .i64 h, .slice A rows.length cap] 30)), W.W.cell? ⟨w.heap.size + 1, 0, none⟩ = some (.int .i64 v) := fun W => W.cell (by simp)
 have s1 : ∀ W : Ext ((w.alloc (.cells #[.int .i64 a, .int .i64 b, .int .i64 c] 122)).alloc (.cells #[.int .i64 v, .int .i64 h, .slice A rows.length cap] 30)), W.W.cell? ⟨w.heap.size + 1, 1, none⟩ = some (.int .i64 h) := fun W => W.cell (by simp)
 have s2 : ∀ W : Ext ((w.alloc (.cells #[.int .i64 a, .int .i64 b, .int .i64 c] 122)).alloc (.cells #[.int .i64 v, .int .i64 h, .slice A rows.length cap] 30)), W.W.cell? ⟨w.heap.size + 1, 2, none⟩ = some (.slice A rows.length cap) := fun W => W.cell (by simp)
 cases h1 : inB a 0 ((rows.length : Int) - 1)
 ·skip
  go_enter Tryz.func168, Tryz.ntmps168
  go_upto_region 1 with (fail)
  refine wp_region_ext_seq ?_
  repeat (go_big_quiet_step ((go_at_call_of 164 a; exact Calls.ext_of (Calls.bool_eq' (hasRow_any _ _ _ _ _ _ _ hm) h1))))
  refine wpQuiet_nil ?_
  rintro _ ⟨W, rfl⟩
  go_wp2
  go_ret
  exact ⟨ret_bool (by simp), below_ext HB.out W.ok⟩
 cases h2 : inB b 0 ((rows.length : Int) - 1)
 ·skip
  go_enter Tryz.func168, Tryz.ntmps168
  go_upto_region 1 with (fail)
  refine wp_region_ext_seq ?_
  repeat (go_big_quiet_step (first | (go_at_call_of 164 a; exact Calls.ext_of (Calls.bool_eq' (hasRow_any _ _ _ _ _ _ _ hm) h1)) | (go_at_call_of 164 b; exact Calls.ext_of (Calls.bool_eq' (hasRow_any _ _ _ _ _ _ _ hm) h2))))
  refine wpQuiet_nil ?_
  rintro _ ⟨W, rfl⟩
  go_wp2
  go_ret
  exact ⟨ret_bool (by simp), below_ext HB.out W.ok⟩
 cases h3 : (a != b)
 ·skip
  go_enter Tryz.func168, Tryz.ntmps168
  go_upto_region 1 with (fail)
  refine wp_region_ext_seq ?_
  repeat (go_big_quiet_step (first | (go_at_call_of 164 a; exact Calls.ext_of (Calls.bool_eq' (hasRow_any _ _ _ _ _ _ _ hm) h1)) | (go_at_call_of 164 b; exact Calls.ext_of (Calls.bool_eq' (hasRow_any _ _ _ _ _ _ _ hm) h2))))
  refine wpQuiet_nil ?_
  rintro _ ⟨W, rfl⟩
  go_wp2
  go_ret
  exact ⟨ret_bool (by simp), below_ext HB.out W.ok⟩
 go_enter Tryz.func168, Tryz.ntmps168
 go_upto_region 1 with (fail)
 refine wp_region_ext_seq ?_
 repeat (go_big_quiet_step (first | (go_at_call_of 164 a; exact Calls.ext_of (Calls.bool_eq' (hasRow_any _ _ _ _ _ _ _ hm) h1)) | (go_at_call_of 164 b; exact Calls.ext_of (Calls.bool_eq' (hasRow_any _ _ _ _ _ _ _ hm) h2)) | (go_at_call 125; exact Calls.ext_of_same (isElement_any _ _ _))))
 refine wpQuiet_nil ?_
 rintro _ ⟨W, rfl⟩
 go_wp2
 go_ret
 exact ⟨ret_bool (by simp), below_ext HB.out W.ok⟩
set_option maxHeartbeats 2000000 in
theorem dropCan_any (a : Int) (p v h : Int) (A : Option Addr) (cap : Nat) (rows : List (List Int)) (w : World) (hm : rows.length ≤ maxLen) (hR : RowsAt w A rows) (hms : ∀ r ∈ rows, r.length ≤ maxLen) :
  Calls Tryz.prog 171 #[.agg #[.int .i64 a], .int .i64 p, .agg #[.int .i64 v, .int .i64 h, .slice A rows.length cap]] w fun e w' =>
   e = .returned (.bool (inB a 0 ((rows.length : Int) - 1) && zeroB (rows.getD a.toNat []))) ∧ Below w.heap.size w w' := by
 have hB : Below w.heap.size w ((w.alloc (.cells #[.int .i64 a] 124)).alloc (.cells #[.int .i64 v, .int .i64 h, .slice A rows.length cap] 30)) := ((Below.refl w.heap.size w).alloc (by simp) _).alloc (by simp) _
 have HB := Lib.hid hB
 clear hB
 have r0 : ∀ W : Ext ((w.alloc (.cells #[.int .i64 a] 124)).alloc (.cells #[.int .i64 v, .int .i64 h, .slice A rows.length cap] 30)), W.W.cell? ⟨w.heap.size, 0, none⟩ = some (.int .i64 a) := fun W => W.cell (by simp)
 have s0 : ∀ W : Ext ((w.alloc (.cells #[.int .i64 a] 124)).alloc (.cells #[.int .i64 v, .int .i64 h, .slice A rows.length cap] 30)), W.W.cell? ⟨w.heap.size + 1, 0, none⟩ = some (.int .i64 v) := fun W => W.cell (by simp)
 have s1 : ∀ W : Ext ((w.alloc (.cells #[.int .i64 a] 124)).alloc (.cells #[.int .i64 v, .int .i64 h, .slice A rows.length cap] 30)), W.W.cell? ⟨w.heap.size + 1, 1, none⟩ = some (.int .i64 h) := fun W => W.cell (by simp)
 have s2 : ∀ W : Ext ((w.alloc (.cells #[.int .i64 a] 124)).alloc (.cells #[.int .i64 v, .int .i64 h, .slice A rows.length cap] 30)), W.W.cell? ⟨w.heap.size + 1, 2, none⟩ = some (.slice A rows.length cap) := fun W => W.cell (by simp)
 cases h1 : inB a 0 ((rows.length : Int) - 1)
 ·skip
  go_enter Tryz.func171, Tryz.ntmps171
  go_upto_region 1 with (fail)
  refine wp_region_ext_seq ?_
  repeat (go_big_quiet_step ((go_at_call_of 164 a; exact Calls.ext_of (Calls.bool_eq' (hasRow_any _ _ _ _ _ _ _ hm) h1))))
  refine wpQuiet_nil ?_
  rintro _ ⟨W, rfl⟩
  go_wp2
  go_ret
  exact ⟨ret_bool (by simp), below_ext HB.out W.ok⟩
 obtain ⟨a1, a2⟩ : 0 ≤ a ∧ a ≤ (rows.length : Int) - 1 := by simpa [inB] using h1
 have hlt : a.toNat < rows.length := by omega
 obtain ⟨r, hr⟩ := get_of_lt hlt
 obtain ⟨bb, o, rfl, hc⟩ := hR.here hlt
 obtain ⟨A', cap', hck, hin⟩ := hc _ r hr
 have k1 : ∀ W : Ext ((w.alloc (.cells #[.int .i64 a] 124)).alloc (.cells #[.int .i64 v, .int .i64 h, .slice (some ⟨bb, o, none⟩) rows.length cap] 30)), W.W.cell? ⟨bb, o + a.toNat, none⟩ = some (.slice A' r.length cap') := fun W => ext_cell (below_ext HB.out W.ok) hck
 have HI := Lib.hid (fun W : Ext ((w.alloc (.cells #[.int .i64 a] 124)).alloc (.cells #[.int .i64 v, .int .i64 h, .slice (some ⟨bb, o, none⟩) rows.length cap] 30)) => hin.ext (below_ext HB.out W.ok))
 have Hg := Lib.hid (show rows.getD a.toNat [] = r by simp [List.getD, hr])
 have HM := Lib.hid (hms r (List.mem_of_getElem? hr))
 clear hr hc hck hin hR hms
 go_enter Tryz.func171, Tryz.ntmps171
 go_upto_region 1 with (fail)
 refine wp_region_ext_seq ?_
 repeat (go_big_quiet_step (first | (go_at_call_of 164 a; exact Calls.ext_of (Calls.bool_eq' (hasRow_any _ _ _ _ _ _ _ hm) h1)) | (go_at_call 174; exact Calls.ext_of_same (isZero_any _ _ _ _ (HI.out _) HM.out))))
 refine wpQuiet_nil ?_
 rintro _ ⟨W, rfl⟩
 go_wp2
 go_ret
 exact ⟨ret_bool (by rw [Hg.out]; simp), below_ext HB.out W.ok⟩
set_option maxHeartbeats 2000000 in
theorem putCan_any (a : Int) (p v h : Int) (A : Option Addr) (cap : Nat) (rows : List (List Int)) (w : World) (hm : rows.length ≤ maxLen) :
  Calls Tryz.prog 177 #[.agg #[.int .i64 a], .int .i64 p, .agg #[.int .i64 v, .int .i64 h, .slice A rows.length cap]] w fun e w' =>
   e = .returned (.bool (inB a 0 (rows.length : Int))) ∧ Below w.heap.size w w' := by
 have hB : Below w.heap.size w ((w.alloc (.cells #[.int .i64 a] 125)).alloc (.cells #[.int .i64 v, .int .i64 h, .slice A rows.length cap] 30)) := ((Below.refl w.heap.size w).alloc (by simp) _).alloc (by simp) _
 have HB := Lib.hid hB
 clear hB
 have r0 : ∀ W : Ext ((w.alloc (.cells #[.int .i64 a] 125)).alloc (.cells #[.int .i64 v, .int .i64 h, .slice A rows.length cap] 30)), W.W.cell? ⟨w.heap.size, 0, none⟩ = some (.int .i64 a) := fun W => W.cell (by simp)
 have s0 : ∀ W : Ext ((w.alloc (.cells #[.int .i64 a] 125)).alloc (.cells #[.int .i64 v, .int .i64 h, .slice A rows.length cap] 30)), W.W.cell? ⟨w.heap.size + 1, 0, none⟩ = some (.int .i64 v) := fun W => W.cell (by simp)
 have s1 : ∀ W : Ext ((w.alloc (.cells #[.int .i64 a] 125)).alloc (.cells #[.int .i64 v, .int .i64 h, .slice A rows.length cap] 30)), W.W.cell? ⟨w.heap.size + 1, 1, none⟩ = some (.int .i64 h) := fun W => W.cell (by simp)
 have s2 : ∀ W : Ext ((w.alloc (.cells #[.int .i64 a] 125)).alloc (.cells #[.int .i64 v, .int .i64 h, .slice A rows.length cap] 30)), W.W.cell? ⟨w.heap.size + 1, 2, none⟩ = some (.slice A rows.length cap) := fun W => W.cell (by simp)
 go_enter Tryz.func177, Tryz.ntmps177
 go_upto_region 1 with (fail)
 refine wp_region_ext_seq ?_
 repeat (go_big_quiet_step ((go_at_call 90; exact Calls.ext_of_same (within_any _ _ _ _))))
 refine wpQuiet_nil ?_
 rintro _ ⟨W, rfl⟩
 go_wp2
 go_ret
 exact ⟨ret_bool (by rfl), below_ext HB.out W.ok⟩
set_option maxHeartbeats 2000000 in
theorem inventCan_any (b : Int) (p v h : Int) (A : Option Addr) (cap : Nat) (rows : List (List Int)) (w : World) (hm : rows.length ≤ maxLen) :
  Calls Tryz.prog 204 #[.agg #[.int .i64 b], .int .i64 p, .agg #[.int .i64 v, .int .i64 h, .slice A rows.length cap]] w fun e w' =>
   e = .returned (.bool (inB b 0 h)) ∧ Below w.heap.size w w' := by
 have hB : Below w.heap.size w ((w.alloc (.cells #[.int .i64 b] 131)).alloc (.cells #[.int .i64 v, .int .i64 h, .slice A rows.length cap] 30)) := ((Below.refl w.heap.size w).alloc (by simp) _).alloc (by simp) _
 have HB := Lib.hid hB
 clear hB
 have r0 : ∀ W : Ext ((w.alloc (.cells #[.int .i64 b] 131)).alloc (.cells #[.int .i64 v, .int .i64 h, .slice A rows.length cap] 30)), W.W.cell? ⟨w.heap.size, 0, none⟩ = some (.int .i64 b) := fun W => W.cell (by simp)
 have s0 : ∀ W : Ext ((w.alloc (.cells #[.int .i64 b] 131)).alloc (.cells #[.int .i64 v, .int .i64 h, .slice A rows.length cap] 30)), W.W.cell? ⟨w.heap.size + 1, 0, none⟩ = some (.int .i64 v) := fun W => W.cell (by simp)
 have s1 : ∀ W : Ext ((w.alloc (.cells #[.int .i64 b] 131)).alloc (.cells #[.int .i64 v, .int .i64 h, .slice A rows.length cap] 30)), W.W.cell? ⟨w.heap.size + 1, 1, none⟩ = some (.int .i64 h) := fun W => W.cell (by simp)
 have s2 : ∀ W : Ext ((w.alloc (.cells #[.int .i64 b] 131)).alloc (.cells #[.int .i64 v, .int .i64 h, .slice A rows.length cap] 30)), W.W.cell? ⟨w.heap.size + 1, 2, none⟩ = some (.slice A rows.length cap) := fun W => W.cell (by simp)
 go_enter Tryz.func204, Tryz.ntmps204
 go_upto_region 1 with (fail)
 refine wp_region_ext_seq ?_
 repeat (go_big_quiet_step ((go_at_call 90; exact Calls.ext_of_same (within_any _ _ _ _))))
 refine wpQuiet_nil ?_
 rintro _ ⟨W, rfl⟩
 go_wp2
 go_ret
 exact ⟨ret_bool (by rfl), below_ext HB.out W.ok⟩
set_option maxHeartbeats 2000000 in
theorem forgetCan_any (b : Int) (p v h : Int) (A : Option Addr) (cap : Nat) (rows : List (List Int)) (w : World) (hm : rows.length ≤ maxLen) (hR : RowsAt w A rows) (hv : 0 ≤ v) (hv' : v ≤ 24) (hh : 0 ≤ h) (hh' : h ≤ 100) (hl : ∀ r ∈ rows, (r.length : Int) = v + h) :
  Calls Tryz.prog 201 #[.agg #[.int .i64 b], .int .i64 p, .agg #[.int .i64 v, .int .i64 h, .slice A rows.length cap]] w fun e w' =>
   e = .returned (.bool (inB b 0 (h - 1) && freeB rows (v + b).toNat (-1))) ∧ Below w.heap.size w w' := by
 have hB : Below w.heap.size w ((w.alloc (.cells #[.int .i64 b] 130)).alloc (.cells #[.int .i64 v, .int .i64 h, .slice A rows.length cap] 30)) := ((Below.refl w.heap.size w).alloc (by simp) _).alloc (by simp) _
 have HB := Lib.hid hB
 clear hB
 have r0 : ∀ W : Ext ((w.alloc (.cells #[.int .i64 b] 130)).alloc (.cells #[.int .i64 v, .int .i64 h, .slice A rows.length cap] 30)), W.W.cell? ⟨w.heap.size, 0, none⟩ = some (.int .i64 b) := fun W => W.cell (by simp)
 have s0 : ∀ W : Ext ((w.alloc (.cells #[.int .i64 b] 130)).alloc (.cells #[.int .i64 v, .int .i64 h, .slice A rows.length cap] 30)), W.W.cell? ⟨w.heap.size + 1, 0, none⟩ = some (.int .i64 v) := fun W => W.cell (by simp)
 have s1 : ∀ W : Ext ((w.alloc (.cells #[.int .i64 b] 130)).alloc (.cells #[.int .i64 v, .int .i64 h, .slice A rows.length cap] 30)), W.W.cell? ⟨w.heap.size + 1, 1, none⟩ = some (.int .i64 h) := fun W => W.cell (by simp)
 have s2 : ∀ W : Ext ((w.alloc (.cells #[.int .i64 b] 130)).alloc (.cells #[.int .i64 v, .int .i64 h, .slice A rows.length cap] 30)), W.W.cell? ⟨w.heap.size + 1, 2, none⟩ = some (.slice A rows.length cap) := fun W => W.cell (by simp)
 cases h1 : inB b 0 (h - 1)
 ·skip
  go_enter Tryz.func201, Tryz.ntmps201
  go_upto_region 1 with (fail)
  refine wp_region_ext_seq ?_
  repeat (go_big_quiet_step ((go_at_call 188; exact Calls.ext_of (Calls.bool_eq' (hasHidden_any _ _ _ _ _ hh hh') h1))))
  refine wpQuiet_nil ?_
  rintro _ ⟨W, rfl⟩
  go_wp2
  go_ret
  exact ⟨ret_bool (by simp), below_ext HB.out W.ok⟩
 obtain ⟨b1, b2⟩ : 0 ≤ b ∧ b ≤ h - 1 := by simpa [inB] using h1
 have HR := Lib.hid (fun W : Ext ((w.alloc (.cells #[.int .i64 b] 130)).alloc (.cells #[.int .i64 v, .int .i64 h, .slice A rows.length cap] 30)) => hR.ext (below_ext HB.out W.ok))
 have HL := Lib.hid hl
 clear hR hl
 go_enter Tryz.func201, Tryz.ntmps201
 go_upto_region 1 with (fail)
 refine wp_region_ext_seq ?_
 repeat (go_big_quiet_step (first | (go_at_call 188; exact Calls.ext_of (Calls.bool_eq' (hasHidden_any _ _ _ _ _ hh hh') h1)) | (go_at_call 189; exact Calls.ext_of (isFree_any _ _ _ _ _ _ _ _ (HR.out _) hm hv hv' hh' b1 (by omega) HL.out))))
 refine wpQuiet_nil ?_
 rintro _ ⟨W, rfl⟩
 go_wp2
 go_ret
 exact ⟨ret_bool (by simp), below_ext HB.out W.ok⟩
set_option maxHeartbeats 2000000 in
theorem solveCan_any (a b : Int) (p v h : Int) (A : Option Addr) (cap : Nat) (rows : List (List Int)) (w : World) (hm : rows.length ≤ maxLen) (hR : RowsAt w A rows) (hv : 0 ≤ v) (hv' : v ≤ 24) (hh : 0 ≤ h) (hh' : h ≤ 100) (hl : ∀ r ∈ rows, (r.length : Int) = v + h) :
  Calls Tryz.prog 185 #[.agg #[.int .i64 a, .int .i64 b], .int .i64 p, .agg #[.int .i64 v, .int .i64 h, .slice A rows.length cap]] w fun e w' =>
   e = .returned (.bool (inB a 0 ((rows.length : Int) - 1) && (inB b 0 (h - 1) && (((rows.getD a.toNat []).getD (v + b).toNat 0 != 0) && freeB rows (v + b).toNat a)))) ∧ Below w.heap.size w w' := by
 have hB : Below w.heap.size w ((w.alloc (.cells #[.int .i64 a, .int .i64 b] 126)).alloc (.cells #[.int .i64 v, .int .i64 h, .slice A rows.length cap] 30)) := ((Below.refl w.heap.size w).alloc (by simp) _).alloc (by simp) _
 have HB := Lib.hid hB
 clear hB
 have r0 : ∀ W : Ext ((w.alloc (.cells #[.int .i64 a, .int .i64 b] 126)).alloc (.cells #[.int .i64 v, .int .i64 h, .slice A rows.length cap] 30)), W.W.cell? ⟨w.heap.size, 0, none⟩ = some (.int .i64 a) := fun W => W.cell (by simp)
 have r1 : ∀ W : Ext ((w.alloc (.cells #[.int .i64 a, .int .i64 b] 126)).alloc (.cells #[.int .i64 v, .int .i64 h, .slice A rows.length cap] 30)), W.W.cell? ⟨w.heap.size, 1, none⟩ = some (.int .i64 b) := fun W => W.cell (by simp)
 have s0 : ∀ W : Ext ((w.alloc (.cells #[.int .i64 a, .int .i64 b] 126)).alloc (.cells #[.int .i64 v, .int .i64 h, .slice A rows.length cap] 30)), W.W.cell? ⟨w.heap.size + 1, 0, none⟩ = some (.int .i64 v) := fun W => W.cell (by simp)
 have s1 : ∀ W : Ext ((w.alloc (.cells #[.int .i64 a, .int .i64 b] 126)).alloc (.cells #[.int .i64 v, .int .i64 h, .slice A rows.length cap] 30)), W.W.cell? ⟨w.heap.size + 1, 1, none⟩ = some (.int .i64 h) := fun W => W.cell (by simp)
 have s2 : ∀ W : Ext ((w.alloc (.cells #[.int .i64 a, .int .i64 b] 126)).alloc (.cells #[.int .i64 v, .int .i64 h, .slice A rows.length cap] 30)), W.W.cell? ⟨w.heap.size + 1, 2, none⟩ = some (.slice A rows.length cap) := fun W => W.cell (by simp)
 cases h1 : inB a 0 ((rows.length : Int) - 1)
 ·skip
  go_enter Tryz.func185, Tryz.ntmps185
  go_upto_region 1 with (fail)
  refine wp_region_ext_lit (by kernel_rfl) (by kernel_rfl) ?_
  repeat (go_big_quiet_step ((go_at_call_of 164 a; exact Calls.ext_of (Calls.bool_eq' (hasRow_any _ _ _ _ _ _ _ hm) h1))))
  refine wpQuiet_nil ?_
  rintro _ ⟨W, rfl⟩
  go_wp2
  go_ret
  exact ⟨ret_bool (by simp), below_ext HB.out W.ok⟩
 cases h2 : inB b 0 (h - 1)
 ·skip
  go_enter Tryz.func185, Tryz.ntmps185
  go_upto_region 1 with (fail)
  refine wp_region_ext_lit (by kernel_rfl) (by kernel_rfl) ?_
  repeat (go_big_quiet_step (first | (go_at_call_of 164 a; exact Calls.ext_of (Calls.bool_eq' (hasRow_any _ _ _ _ _ _ _ hm) h1)) | (go_at_call 188; exact Calls.ext_of (Calls.bool_eq' (hasHidden_any _ _ _ _ _ hh hh') h2))))
  refine wpQuiet_nil ?_
  rintro _ ⟨W, rfl⟩
  go_wp2
  go_ret
  exact ⟨ret_bool (by simp), below_ext HB.out W.ok⟩
 obtain ⟨b1, b2⟩ : 0 ≤ b ∧ b ≤ h - 1 := by simpa [inB] using h2
 obtain ⟨a1, a2⟩ : 0 ≤ a ∧ a ≤ (rows.length : Int) - 1 := by simpa [inB] using h1
 have hlt : a.toNat < rows.length := by omega
 obtain ⟨r, hr⟩ := get_of_lt hlt
 obtain ⟨bb, o, rfl, hc⟩ := hR.here hlt
 obtain ⟨A', cap', hck, hin⟩ := hc _ r hr
 have k1 : ∀ W : Ext ((w.alloc (.cells #[.int .i64 a, .int .i64 b] 126)).alloc (.cells #[.int .i64 v, .int .i64 h, .slice (some ⟨bb, o, none⟩) rows.length cap] 30)), W.W.cell? ⟨bb, o + a.toNat, none⟩ = some (.slice A' r.length cap') := fun W => ext_cell (below_ext HB.out W.ok) hck
 have HI := Lib.hid (fun W : Ext ((w.alloc (.cells #[.int .i64 a, .int .i64 b] 126)).alloc (.cells #[.int .i64 v, .int .i64 h, .slice (some ⟨bb, o, none⟩) rows.length cap] 30)) => hin.ext (below_ext HB.out W.ok))
 have Hg := Lib.hid (show rows.getD a.toNat [] = r by simp [List.getD, hr])
 have HR := Lib.hid (fun W : Ext ((w.alloc (.cells #[.int .i64 a, .int .i64 b] 126)).alloc (.cells #[.int .i64 v, .int .i64 h, .slice (some ⟨bb, o, none⟩) rows.length cap] 30)) => hR.ext (below_ext HB.out W.ok))
 have HL := Lib.hid hl
 have hrl := hl r (List.mem_of_getElem? hr)
 have hlt2 : (v + b).toNat < r.length := by omega
 obtain ⟨x, hx⟩ := get_of_lt hlt2
 obtain ⟨b2', o2', rfl, hc2⟩ := hin.here hlt2
 have k2 : ∀ W : Ext ((w.alloc (.cells #[.int .i64 a, .int .i64 b] 126)).alloc (.cells #[.int .i64 v, .int .i64 h, .slice (some ⟨bb, o, none⟩) rows.length cap] 30)), W.W.cell? ⟨b2', o2' + (v + b).toNat, none⟩ = some (.int .i64 x) := fun W => ext_cell (below_ext HB.out W.ok) (hc2 _ _ hx)
 have Hg2 := Lib.hid (show r.getD (v + b).toNat 0 = x by simp [List.getD, hx])
 have hi1 : 0 ≤ v + b := by omega
 have hi2 : v + b < (r.length : Int) := by omega
 clear hr hc hck hin hR hl hx hc2
 have Hrl := Lib.hid hrl
 clear hrl
 rw [Hg.out, Hg2.out]
 cases h3 : (x != 0)
 ·skip
  go_enter Tryz.func185, Tryz.ntmps185
  go_upto_region 1 with (fail)
  refine wp_region_ext_lit (by kernel_rfl) (by kernel_rfl) ?_
  repeat (go_big_quiet_step (first | (go_at_call_of 164 a; exact Calls.ext_of (Calls.bool_eq' (hasRow_any _ _ _ _ _ _ _ hm) h1)) | (go_at_call 188; exact Calls.ext_of (Calls.bool_eq' (hasHidden_any _ _ _ _ _ hh hh') h2))))
  refine wpQuiet_nil ?_
  rintro _ ⟨W, rfl⟩
  go_wp2
  go_ret
  exact ⟨ret_bool (by simp), below_ext HB.out W.ok⟩
 go_enter Tryz.func185, Tryz.ntmps185
 go_upto_region 1 with (fail)
 refine wp_region_ext_lit (by kernel_rfl) (by kernel_rfl) ?_
 repeat (go_big_quiet_step (first | (go_at_call_of 164 a; exact Calls.ext_of (Calls.bool_eq' (hasRow_any _ _ _ _ _ _ _ hm) h1)) | (go_at_call 188; exact Calls.ext_of (Calls.bool_eq' (hasHidden_any _ _ _ _ _ hh hh') h2)) | (go_at_call 189; exact Calls.ext_of (isFree_any _ _ _ _ _ _ _ _ (HR.out _) hm hv hv' hh' b1 (by omega) HL.out))))
 refine wpQuiet_nil ?_
 rintro _ ⟨W, rfl⟩
 go_wp2
 go_ret
 exact ⟨ret_bool (by simp), below_ext HB.out W.ok⟩
set_option maxHeartbeats 2000000 in
theorem bringCan_any (a b : Int) (RA : Option Addr) (rcap : Nat) (row : List Int) (p v h : Int) (A : Option Addr) (cap : Nat) (rows : List (List Int)) (w : World) (hm : rows.length ≤ maxLen) (hI : IntsAt w RA row) (hmr : row.length ≤ maxLen) (hv : 0 ≤ v) (hv' : v ≤ 24) (hh : 0 ≤ h) (hh' : h ≤ 100) :
  Calls Tryz.prog 192 #[.agg #[.int .i64 a, .int .i64 b, .slice RA row.length rcap], .int .i64 p, .agg #[.int .i64 v, .int .i64 h, .slice A rows.length cap]] w fun e w' =>
   e = .returned (.bool (inB a 0 (rows.length : Int) && (inB b 0 h && (vecB p row (v + h + 1) && (row.getD (v + b).toNat 0 != 0))))) ∧ Below w.heap.size w w' := by
 have hB : Below w.heap.size w ((w.alloc (.cells #[.int .i64 a, .int .i64 b, .slice RA row.length rcap] 128)).alloc (.cells #[.int .i64 v, .int .i64 h, .slice A rows.length cap] 30)) := ((Below.refl w.heap.size w).alloc (by simp) _).alloc (by simp) _
 have HB := Lib.hid hB
 clear hB
 have r0 : ∀ W : Ext ((w.alloc (.cells #[.int .i64 a, .int .i64 b, .slice RA row.length rcap] 128)).alloc (.cells #[.int .i64 v, .int .i64 h, .slice A rows.length cap] 30)), W.W.cell? ⟨w.heap.size, 0, none⟩ = some (.int .i64 a) := fun W => W.cell (by simp)
 have r1 : ∀ W : Ext ((w.alloc (.cells #[.int .i64 a, .int .i64 b, .slice RA row.length rcap] 128)).alloc (.cells #[.int .i64 v, .int .i64 h, .slice A rows.length cap] 30)), W.W.cell? ⟨w.heap.size, 1, none⟩ = some (.int .i64 b) := fun W => W.cell (by simp)
 have r2 : ∀ W : Ext ((w.alloc (.cells #[.int .i64 a, .int .i64 b, .slice RA row.length rcap] 128)).alloc (.cells #[.int .i64 v, .int .i64 h, .slice A rows.length cap] 30)), W.W.cell? ⟨w.heap.size, 2, none⟩ = some (.slice RA row.length rcap) := fun W => W.cell (by simp)
 have s0 : ∀ W : Ext ((w.alloc (.cells #[.int .i64 a, .int .i64 b, .slice RA row.length rcap] 128)).alloc (.cells #[.int .i64 v, .int .i64 h, .slice A rows.length cap] 30)), W.W.cell? ⟨w.heap.size + 1, 0, none⟩ = some (.int .i64 v) := fun W => W.cell (by simp)
 have s1 : ∀ W : Ext ((w.alloc (.cells #[.int .i64 a, .int .i64 b, .slice RA row.length rcap] 128)).alloc (.cells #[.int .i64 v, .int .i64 h, .slice A rows.length cap] 30)), W.W.cell? ⟨w.heap.size + 1, 1, none⟩ = some (.int .i64 h) := fun W => W.cell (by simp)
 have s2 : ∀ W : Ext ((w.alloc (.cells #[.int .i64 a, .int .i64 b, .slice RA row.length rcap] 128)).alloc (.cells #[.int .i64 v, .int .i64 h, .slice A rows.length cap] 30)), W.W.cell? ⟨w.heap.size + 1, 2, none⟩ = some (.slice A rows.length cap) := fun W => W.cell (by simp)
 have HI := Lib.hid (fun W : Ext ((w.alloc (.cells #[.int .i64 a, .int .i64 b, .slice RA row.length rcap] 128)).alloc (.cells #[.int .i64 v, .int .i64 h, .slice A rows.length cap] 30)) => hI.ext (below_ext HB.out W.ok))
 cases h1 : inB a 0 (rows.length : Int)
 ·skip
  go_enter Tryz.func192, Tryz.ntmps192
  go_upto_region 1 with (fail)
  refine wp_region_ext_lit (by kernel_rfl) (by kernel_rfl) ?_
  repeat (go_big_quiet_step ((go_at_call_of 90 a; exact Calls.ext_of_same (Calls.bool_eq (within_any _ _ _ _) h1))))
  refine wpQuiet_nil ?_
  rintro _ ⟨W, rfl⟩
  go_wp2
  go_ret
  exact ⟨ret_bool (by simp), below_ext HB.out W.ok⟩
 cases h2 : inB b 0 h
 ·skip
  go_enter Tryz.func192, Tryz.ntmps192
  go_upto_region 1 with (fail)
  refine wp_region_ext_lit (by kernel_rfl) (by kernel_rfl) ?_
  repeat (go_big_quiet_step (first | (go_at_call 92; exact Calls.ext_of (size_any v h _ _ hv (by omega) hh (by omega))) | (go_at_call_of 90 a; exact Calls.ext_of_same (Calls.bool_eq (within_any _ _ _ _) h1)) | (go_at_call_of 90 b; exact Calls.ext_of_same (Calls.bool_eq (within_any _ _ _ _) h2))))
  refine wpQuiet_nil ?_
  rintro _ ⟨W, rfl⟩
  go_wp2
  go_ret
  exact ⟨ret_bool (by simp), below_ext HB.out W.ok⟩
 obtain ⟨b1, b2⟩ : 0 ≤ b ∧ b ≤ h := by simpa [inB] using h2
 cases h3 : vecB p row (v + h + 1)
 ·skip
  go_enter Tryz.func192, Tryz.ntmps192
  go_upto_region 1 with (fail)
  refine wp_region_ext_lit (by kernel_rfl) (by kernel_rfl) ?_
  repeat (go_big_quiet_step (first | (go_at_call 92; exact Calls.ext_of (size_any v h _ _ hv (by omega) hh (by omega))) | (go_at_call_of 90 a; exact Calls.ext_of_same (Calls.bool_eq (within_any _ _ _ _) h1)) | (go_at_call_of 90 b; exact Calls.ext_of_same (Calls.bool_eq (within_any _ _ _ _) h2)) | (go_at_call 110; exact Calls.ext_of_same (Calls.bool_eq (isVector_any _ _ _ _ _ _ (HI.out _) hmr) h3))))
  refine wpQuiet_nil ?_
  rintro _ ⟨W, rfl⟩
  go_wp2
  go_ret
  exact ⟨ret_bool (by simp), below_ext HB.out W.ok⟩
 have hrl : (row.length : Int) = v + h + 1 := by unfold vecB at h3; rw [Bool.and_eq_true, decide_eq_true_eq] at h3; exact h3.1
 have hlt2 : (v + b).toNat < row.length := by omega
 obtain ⟨x, hx⟩ := get_of_lt hlt2
 obtain ⟨b3, o3, rfl, hc2⟩ := hI.here hlt2
 have k2 : ∀ W : Ext ((w.alloc (.cells #[.int .i64 a, .int .i64 b, .slice (some ⟨b3, o3, none⟩) row.length rcap] 128)).alloc (.cells #[.int .i64 v, .int .i64 h, .slice A rows.length cap] 30)), W.W.cell? ⟨b3, o3 + (v + b).toNat, none⟩ = some (.int .i64 x) := fun W => ext_cell (below_ext HB.out W.ok) (hc2 _ _ hx)
 have Hg2 := Lib.hid (show row.getD (v + b).toNat 0 = x by simp [List.getD, hx])
 have hi1 : 0 ≤ v + b := by omega
 have hi2 : v + b < (row.length : Int) := by omega
 clear hI hx hc2
 have Hrl := Lib.hid hrl
 clear hrl
 rw [Hg2.out]
 go_enter Tryz.func192, Tryz.ntmps192
 go_upto_region 1 with (fail)
 refine wp_region_ext_lit (by kernel_rfl) (by kernel_rfl) ?_
 repeat (go_big_quiet_step (first | (go_at_call 92; exact Calls.ext_of (size_any v h _ _ hv (by omega) hh (by omega))) | (go_at_call_of 90 a; exact Calls.ext_of_same (Calls.bool_eq (within_any _ _ _ _) h1)) | (go_at_call_of 90 b; exact Calls.ext_of_same (Calls.bool_eq (within_any _ _ _ _) h2)) | (go_at_call 110; exact Calls.ext_of_same (Calls.bool_eq (isVector_any _ _ _ _ _ _ (HI.out _) hmr) h3))))
 refine wpQuiet_nil ?_
 rintro _ ⟨W, rfl⟩
 go_wp2
 go_ret
 exact ⟨ret_bool (by simp), below_ext HB.out W.ok⟩
end Go.Proofs.YtjdbfokbgmbphaaGreatDoor
