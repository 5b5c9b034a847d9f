/- The readers of a system: size, isSystem, and the reference's syGood. Conditions: lengths of at most maxLen; the table of small primes is laid. -/
import Derived.Test.YtjdbfokbgmbphaaGreatDoorRead2
namespace Go.Proofs.YtjdbfokbgmbphaaGreatDoor
set_option linter.unusedVariables false
set_option linter.unusedSimpArgs false
open Go.RowKit

theorem size_any (v h : Int) (rv : Value) (w : World) (hv : 0 ≤ v) (hv' : v ≤ 1000) (hh : 0 ≤ h) (hh' : h ≤ 1000) :
    Calls Tryz.prog 92 #[.agg #[.int .i64 v, .int .i64 h, rv]] w fun e w' => e = .returned (.int .i64 (v + h)) ∧ Below w.heap.size w w' := by
  go_enter Tryz.func92, Tryz.ntmps92
  go_wp2
  go_ret
  exact ⟨rfl, (Below.refl _ _).alloc (Nat.le_refl _) _⟩

set_option maxHeartbeats 1000000 in
theorem isSystem_any (p v h : Int) (A : Option Addr) (cap : Nat) (rows : List (List Int)) (w : World) (hP : Primes w) (hR : RowsAt w A rows) (hm : rows.length ≤ maxLen) (hms : ∀ r ∈ rows, r.length ≤ maxLen) :
    Calls Tryz.prog 52 #[.int .i64 p, .agg #[.int .i64 v, .int .i64 h, .slice A rows.length cap]] w fun e w' => e = .returned (.bool (sysB p v h rows)) ∧ Below w.heap.size w w' := by
  have x0 : ∀ W : Ext (w.alloc (.cells #[.int .i64 v, .int .i64 h, .slice A rows.length cap] 30)), W.W.cell? ⟨w.heap.size, 0, none⟩ = some (.int .i64 v) := fun W => W.cell (by simp)
  have x1 : ∀ W : Ext (w.alloc (.cells #[.int .i64 v, .int .i64 h, .slice A rows.length cap] 30)), W.W.cell? ⟨w.heap.size, 1, none⟩ = some (.int .i64 h) := fun W => W.cell (by simp)
  have x2 : ∀ W : Ext (w.alloc (.cells #[.int .i64 v, .int .i64 h, .slice A rows.length cap] 30)), W.W.cell? ⟨w.heap.size, 2, none⟩ = some (.slice A rows.length cap) := fun W => W.cell (by simp)
  have hP' : ∀ W : Ext (w.alloc (.cells #[.int .i64 v, .int .i64 h, .slice A rows.length cap] 30)), Primes W.W := fun W => hP.ext W.old
  have hR' : ∀ W : Ext (w.alloc (.cells #[.int .i64 v, .int .i64 h, .slice A rows.length cap] 30)), RowsAt W.W A rows := fun W => hR.ext W.old
  have HP := Lib.hid hP'
  have HR := Lib.hid hR'
  clear hP hR hP' hR'
  cases hf : fieldB p
  · go_enter Tryz.func52, Tryz.ntmps52
    go_wp2
    refine wp_region_ext_lit (by kernel_rfl) (by kernel_rfl) ?_
    repeat (go_big_quiet_step ((go_at_call 89; exact Calls.ext_of_same (v := .bool false) (by rw [← hf]; exact isField_any _ _ (HP.out _)))))
    refine wpQuiet_nil ?_
    rintro _ ⟨W, rfl⟩
    go_wp2
    go_ret
    exact ⟨ret_bool (by rw [sysB, hf]; rfl), W.old⟩
  cases hv : inB v 0 24
  · go_enter Tryz.func52, Tryz.ntmps52
    go_wp2
    refine wp_region_ext_lit (by kernel_rfl) (by kernel_rfl) ?_
    repeat (go_big_quiet_step (first | (go_at_call 89; exact Calls.ext_of_same (v := .bool true) (by rw [← hf]; exact isField_any _ _ (HP.out _))) | (go_at_call_of 90 v; exact Calls.ext_of_same (v := .bool false) (by rw [← hv]; exact within_any _ _ _ _))))
    refine wpQuiet_nil ?_
    rintro _ ⟨W, rfl⟩
    go_wp2
    go_ret
    exact ⟨ret_bool (by rw [sysB, hf, hv]; rfl), W.old⟩
  cases hh : inB h 0 100
  · go_enter Tryz.func52, Tryz.ntmps52
    go_wp2
    refine wp_region_ext_lit (by kernel_rfl) (by kernel_rfl) ?_
    repeat (go_big_quiet_step (first | (go_at_call 89; exact Calls.ext_of_same (v := .bool true) (by rw [← hf]; exact isField_any _ _ (HP.out _))) | (go_at_call_of 90 v; exact Calls.ext_of_same (v := .bool true) (by rw [← hv]; exact within_any _ _ _ _)) | (go_at_call_of 90 h; exact Calls.ext_of_same (v := .bool false) (by rw [← hh]; exact within_any _ _ _ _))))
    refine wpQuiet_nil ?_
    rintro _ ⟨W, rfl⟩
    go_wp2
    go_ret
    exact ⟨ret_bool (by rw [sysB, hf, hv, hh]; rfl), W.old⟩
  obtain ⟨v1, v2⟩ : 0 ≤ v ∧ v ≤ 24 := by simpa [inB] using hv
  obtain ⟨h1, h2⟩ : 0 ≤ h ∧ h ≤ 100 := by simpa [inB] using hh
  by_cases hl : rows.length ≤ 160
  · have hl' : decide ((rows.length : Int) ≤ 160) = true := by simp; omega
    go_enter Tryz.func52, Tryz.ntmps52
    go_wp2
    refine wp_region_ext_lit (by kernel_rfl) (by kernel_rfl) ?_
    repeat (go_big_quiet_step (first | (go_at_call 89; exact Calls.ext_of_same (v := .bool true) (by rw [← hf]; exact isField_any _ _ (HP.out _))) | (go_at_call_of 90 v; exact Calls.ext_of_same (v := .bool true) (by rw [← hv]; exact within_any _ _ _ _)) | (go_at_call_of 90 h; exact Calls.ext_of_same (v := .bool true) (by rw [← hh]; exact within_any _ _ _ _)) | (go_at_call 92; exact Calls.ext_of (size_any v h _ _ v1 (by omega) h1 (by omega))) | (go_at_call 91; exact Calls.ext_of_same (areVectors_any _ _ _ _ _ _ (HR.out _) hm hms))))
    refine wpQuiet_nil ?_
    rintro _ ⟨W, rfl⟩
    go_wp2
    go_ret
    exact ⟨ret_bool (by simp [sysB, hf, hv, hh, hl]), W.old⟩
  · have hl' : decide ((rows.length : Int) ≤ 160) = false := by simp; omega
    go_enter Tryz.func52, Tryz.ntmps52
    go_wp2
    refine wp_region_ext_lit (by kernel_rfl) (by kernel_rfl) ?_
    repeat (go_big_quiet_step (first | (go_at_call 89; exact Calls.ext_of_same (v := .bool true) (by rw [← hf]; exact isField_any _ _ (HP.out _))) | (go_at_call_of 90 v; exact Calls.ext_of_same (v := .bool true) (by rw [← hv]; exact within_any _ _ _ _)) | (go_at_call_of 90 h; exact Calls.ext_of_same (v := .bool true) (by rw [← hh]; exact within_any _ _ _ _))))
    refine wpQuiet_nil ?_
    rintro _ ⟨W, rfl⟩
    go_wp2
    go_ret
    exact ⟨ret_bool (by simp [sysB, hl]), W.old⟩

set_option maxHeartbeats 1000000 in
theorem syGood_any (p v h : Int) (A : Option Addr) (cap : Nat) (rows : List (List Int)) (w : World) (hR : RowsAt w A rows) (hm : rows.length ≤ maxLen) (hms : ∀ r ∈ rows, r.length ≤ maxLen) :
    Calls Tryz.prog 47 #[.int .i64 p, .agg #[.int .i64 v, .int .i64 h, .slice A rows.length cap]] w fun e w' => e = .returned (.bool (sysB p v h rows)) ∧ Below w.heap.size w w' := by
  have x0 := hR.ext ((Below.refl w.heap.size w).alloc (Nat.le_refl _) (.cells #[.int .i64 v, .int .i64 h, .slice A rows.length cap] 30))
  clear hR
  have hB := (Below.refl w.heap.size w).alloc (Nat.le_refl _) (.cells #[.int .i64 v, .int .i64 h, .slice A rows.length cap] 30)
  cases hf : fieldB p
  · go_enter Tryz.func47, Tryz.ntmps47
    go_wp2_with ((go_at_call 78; refine (Calls.bool_eq (fdGood_any _ _) hf).mono ?_; rintro e w' ⟨rfl, rfl⟩))
    go_ret
    exact ⟨ret_bool (by rw [sysB, hf]; rfl), hB⟩
  cases hv : inB v 0 24
  · go_enter Tryz.func47, Tryz.ntmps47
    go_wp2_with (first | (go_at_call 78; refine (Calls.bool_eq (fdGood_any _ _) hf).mono ?_; rintro e w' ⟨rfl, rfl⟩) | (go_at_call_of 79 v; refine (Calls.bool_eq (l1In_any _ _ _ _) hv).mono ?_; rintro e w' ⟨rfl, rfl⟩))
    go_ret
    exact ⟨ret_bool (by rw [sysB, hf, hv]; rfl), hB⟩
  cases hh : inB h 0 100
  · go_enter Tryz.func47, Tryz.ntmps47
    go_wp2_with (first | (go_at_call 78; refine (Calls.bool_eq (fdGood_any _ _) hf).mono ?_; rintro e w' ⟨rfl, rfl⟩) | (go_at_call_of 79 v; refine (Calls.bool_eq (l1In_any _ _ _ _) hv).mono ?_; rintro e w' ⟨rfl, rfl⟩) | (go_at_call_of 79 h; refine (Calls.bool_eq (l1In_any _ _ _ _) hh).mono ?_; rintro e w' ⟨rfl, rfl⟩))
    go_ret
    exact ⟨ret_bool (by rw [sysB, hf, hv, hh]; rfl), hB⟩
  obtain ⟨p1, p2⟩ : 2 ≤ p ∧ p ≤ 97 := by have hf' := hf; unfold fieldB at hf'; rw [Bool.and_eq_true] at hf'; simpa [inB] using hf'.1
  obtain ⟨v1, v2⟩ : 0 ≤ v ∧ v ≤ 24 := by simpa [inB] using hv
  obtain ⟨h1, h2⟩ : 0 ≤ h ∧ h ≤ 100 := by simpa [inB] using hh
  by_cases hl : rows.length ≤ 160
  · have hl' : decide ((rows.length : Int) ≤ 160) = true := by simp; omega
    go_enter Tryz.func47, Tryz.ntmps47
    go_wp2_with (first | (go_at_call 78; refine (Calls.bool_eq (fdGood_any _ _) hf).mono ?_; rintro e w' ⟨rfl, rfl⟩) | (go_at_call_of 79 v; refine (Calls.bool_eq (l1In_any _ _ _ _) hv).mono ?_; rintro e w' ⟨rfl, rfl⟩) | (go_at_call_of 79 h; refine (Calls.bool_eq (l1In_any _ _ _ _) hh).mono ?_; rintro e w' ⟨rfl, rfl⟩) | (go_at_call 80; refine (spRows_any _ _ _ _ _ _ x0 hm hms p1 p2).mono ?_; rintro e w' ⟨rfl, rfl⟩))
    go_ret
    exact ⟨ret_bool (by simp [sysB, hf, hv, hh, hl]), hB⟩
  · have hl' : decide ((rows.length : Int) ≤ 160) = false := by simp; omega
    go_enter Tryz.func47, Tryz.ntmps47
    go_wp2_with (first | (go_at_call 78; refine (Calls.bool_eq (fdGood_any _ _) hf).mono ?_; rintro e w' ⟨rfl, rfl⟩) | (go_at_call_of 79 v; refine (Calls.bool_eq (l1In_any _ _ _ _) hv).mono ?_; rintro e w' ⟨rfl, rfl⟩) | (go_at_call_of 79 h; refine (Calls.bool_eq (l1In_any _ _ _ _) hh).mono ?_; rintro e w' ⟨rfl, rfl⟩))
    go_ret
    exact ⟨ret_bool (by simp [sysB, hl]), hB⟩
end Go.Proofs.YtjdbfokbgmbphaaGreatDoor
