/- The readers of a system: size, isSystem, and the reference's syGood. Conditions: lengths of at most maxLen; the table of small primes is laid. | Readers of rows and columns: hasRow, hasHidden, isFree, lead, isZero; the reference's stAlone, stColumn. Conditions: lengths of at most maxLen; rows as long as the system says. | Slices of integers that a call makes: append one by one (stColumn), copies (clone, l1Own, toIntS), zeros. Conditions: lengths of at most 2^40. | Copies of slices of integers: append of a whole slice (clone, l1Own), make and stores (toIntS, zeros). Conditions: lengths of at most 2^40. -/
import Derived.Test.YtjdbfokbgmbphaaGreatDoorPk1
namespace Go.Proofs.YtjdbfokbgmbphaaGreatDoor
set_option linter.unusedVariables false
set_option linter.unusedSimpArgs false
open Go.RowKit
theorem size_any (v h : Int) (rv : Value) (w : World) (hv : 0 ≤ v) (hv' : v ≤ 1000) (hh : 0 ≤ h) (hh' : h ≤ 1000) :
  Calls Tryz.prog 92 #[.agg #[.int .i64 v, .int .i64 h, rv]] w fun e w' => e = .returned (.int .i64 (v + h)) ∧ Below w.heap.size w w' := by
 go_enter Tryz.func92, Tryz.ntmps92
 go_wp2
 go_ret
 exact ⟨rfl, (Below.refl _ _).alloc (Nat.le_refl _) _⟩
set_option maxHeartbeats 1000000 in
theorem isSystem_any (p v h : Int) (A : Option Addr) (cap : Nat) (rows : List (List Int)) (w : World) (hP : Primes w) (hR : RowsAt w A rows) (hm : rows.length ≤ maxLen) (hms : ∀ r ∈ rows, r.length ≤ maxLen) :
  Calls Tryz.prog 52 #[.int .i64 p, .agg #[.int .i64 v, .int .i64 h, .slice A rows.length cap]] w fun e w' => e = .returned (.bool (sysB p v h rows)) ∧ Below w.heap.size w w' := by
 have x0 : ∀ W : Ext (w.alloc (.cells #[.int .i64 v, .int .i64 h, .slice A rows.length cap] 30)), W.W.cell? ⟨w.heap.size, 0, none⟩ = some (.int .i64 v) := fun W => W.cell (by simp)
 have x1 : ∀ W : Ext (w.alloc (.cells #[.int .i64 v, .int .i64 h, .slice A rows.length cap] 30)), W.W.cell? ⟨w.heap.size, 1, none⟩ = some (.int .i64 h) := fun W => W.cell (by simp)
 have x2 : ∀ W : Ext (w.alloc (.cells #[.int .i64 v, .int .i64 h, .slice A rows.length cap] 30)), W.W.cell? ⟨w.heap.size, 2, none⟩ = some (.slice A rows.length cap) := fun W => W.cell (by simp)
 have hP' : ∀ W : Ext (w.alloc (.cells #[.int .i64 v, .int .i64 h, .slice A rows.length cap] 30)), Primes W.W := fun W => hP.ext W.old
 have hR' : ∀ W : Ext (w.alloc (.cells #[.int .i64 v, .int .i64 h, .slice A rows.length cap] 30)), RowsAt W.W A rows := fun W => hR.ext W.old
 have HP := Lib.hid hP'
 have HR := Lib.hid hR'
 clear hP hR hP' hR'
 cases hf : fieldB p
 ·go_enter Tryz.func52, Tryz.ntmps52
  go_wp2
  refine wp_region_ext_lit (by kernel_rfl) (by kernel_rfl) ?_
  repeat (go_big_quiet_step ((go_at_call 89; exact Calls.ext_of_same (v := .bool false) (by rw [← hf]; exact isField_any _ _ (HP.out _)))))
  refine wpQuiet_nil ?_
  rintro _ ⟨W, rfl⟩
  go_wp2
  go_ret
  exact ⟨ret_bool (by rw [sysB, hf]; rfl), W.old⟩
 cases hv : inB v 0 24
 ·go_enter Tryz.func52, Tryz.ntmps52
  go_wp2
  refine wp_region_ext_lit (by kernel_rfl) (by kernel_rfl) ?_
  repeat (go_big_quiet_step (first | (go_at_call 89; exact Calls.ext_of_same (v := .bool true) (by rw [← hf]; exact isField_any _ _ (HP.out _))) | (go_at_call_of 90 v; exact Calls.ext_of_same (v := .bool false) (by rw [← hv]; exact within_any _ _ _ _))))
  refine wpQuiet_nil ?_
  rintro _ ⟨W, rfl⟩
  go_wp2
  go_ret
  exact ⟨ret_bool (by rw [sysB, hf, hv]; rfl), W.old⟩
 cases hh : inB h 0 100
 ·go_enter Tryz.func52, Tryz.ntmps52
  go_wp2
  refine wp_region_ext_lit (by kernel_rfl) (by kernel_rfl) ?_
  repeat (go_big_quiet_step (first | (go_at_call 89; exact Calls.ext_of_same (v := .bool true) (by rw [← hf]; exact isField_any _ _ (HP.out _))) | (go_at_call_of 90 v; exact Calls.ext_of_same (v := .bool true) (by rw [← hv]; exact within_any _ _ _ _)) | (go_at_call_of 90 h; exact Calls.ext_of_same (v := .bool false) (by rw [← hh]; exact within_any _ _ _ _))))
  refine wpQuiet_nil ?_
  rintro _ ⟨W, rfl⟩
  go_wp2
  go_ret
  exact ⟨ret_bool (by rw [sysB, hf, hv, hh]; rfl), W.old⟩
 obtain ⟨v1, v2⟩ : 0 ≤ v ∧ v ≤ 24 := by simpa [inB] using hv
 obtain ⟨h1, h2⟩ : 0 ≤ h ∧ h ≤ 100 := by simpa [inB] using hh
 by_cases hl : rows.length ≤ 160
 ·have hl' : decide ((rows.length : Int) ≤ 160) = true := by simp; omega
  go_enter Tryz.func52, Tryz.ntmps52
  go_wp2
  refine wp_region_ext_lit (by kernel_rfl) (by kernel_rfl) ?_
  repeat (go_big_quiet_step (first | (go_at_call 89; exact Calls.ext_of_same (v := .bool true) (by rw [← hf]; exact isField_any _ _ (HP.out _))) | (go_at_call_of 90 v; exact Calls.ext_of_same (v := .bool true) (by rw [← hv]; exact within_any _ _ _ _)) | (go_at_call_of 90 h; exact Calls.ext_of_same (v := .bool true) (by rw [← hh]; exact within_any _ _ _ _)) | (go_at_call 92; exact Calls.ext_of (size_any v h _ _ v1 (by omega) h1 (by omega))) | (go_at_call 91; exact Calls.ext_of_same (areVectors_any _ _ _ _ _ _ (HR.out _) hm hms))))
  refine wpQuiet_nil ?_
  rintro _ ⟨W, rfl⟩
  go_wp2
  go_ret
  exact ⟨ret_bool (by simp [sysB, hf, hv, hh, hl]), W.old⟩
 ·have hl' : decide ((rows.length : Int) ≤ 160) = false := by simp; omega
  go_enter Tryz.func52, Tryz.ntmps52
  go_wp2
  refine wp_region_ext_lit (by kernel_rfl) (by kernel_rfl) ?_
  repeat (go_big_quiet_step (first | (go_at_call 89; exact Calls.ext_of_same (v := .bool true) (by rw [← hf]; exact isField_any _ _ (HP.out _))) | (go_at_call_of 90 v; exact Calls.ext_of_same (v := .bool true) (by rw [← hv]; exact within_any _ _ _ _)) | (go_at_call_of 90 h; exact Calls.ext_of_same (v := .bool true) (by rw [← hh]; exact within_any _ _ _ _))))
  refine wpQuiet_nil ?_
  rintro _ ⟨W, rfl⟩
  go_wp2
  go_ret
  exact ⟨ret_bool (by simp [sysB, hl]), W.old⟩
set_option maxHeartbeats 1000000 in
theorem syGood_any (p v h : Int) (A : Option Addr) (cap : Nat) (rows : List (List Int)) (w : World) (hR : RowsAt w A rows) (hm : rows.length ≤ maxLen) (hms : ∀ r ∈ rows, r.length ≤ maxLen) :
  Calls Tryz.prog 47 #[.int .i64 p, .agg #[.int .i64 v, .int .i64 h, .slice A rows.length cap]] w fun e w' => e = .returned (.bool (sysB p v h rows)) ∧ Below w.heap.size w w' := by
 have x0 := hR.ext ((Below.refl w.heap.size w).alloc (Nat.le_refl _) (.cells #[.int .i64 v, .int .i64 h, .slice A rows.length cap] 30))
 clear hR
 have hB := (Below.refl w.heap.size w).alloc (Nat.le_refl _) (.cells #[.int .i64 v, .int .i64 h, .slice A rows.length cap] 30)
 cases hf : fieldB p
 ·go_enter Tryz.func47, Tryz.ntmps47
  go_wp2_with ((go_at_call 78; refine (Calls.bool_eq (fdGood_any _ _) hf).mono ?_; rintro e w' ⟨rfl, rfl⟩))
  go_ret
  exact ⟨ret_bool (by rw [sysB, hf]; rfl), hB⟩
 cases hv : inB v 0 24
 ·go_enter Tryz.func47, Tryz.ntmps47
  go_wp2_with (first | (go_at_call 78; refine (Calls.bool_eq (fdGood_any _ _) hf).mono ?_; rintro e w' ⟨rfl, rfl⟩) | (go_at_call_of 79 v; refine (Calls.bool_eq (l1In_any _ _ _ _) hv).mono ?_; rintro e w' ⟨rfl, rfl⟩))
  go_ret
  exact ⟨ret_bool (by rw [sysB, hf, hv]; rfl), hB⟩
 cases hh : inB h 0 100
 ·go_enter Tryz.func47, Tryz.ntmps47
  go_wp2_with (first | (go_at_call 78; refine (Calls.bool_eq (fdGood_any _ _) hf).mono ?_; rintro e w' ⟨rfl, rfl⟩) | (go_at_call_of 79 v; refine (Calls.bool_eq (l1In_any _ _ _ _) hv).mono ?_; rintro e w' ⟨rfl, rfl⟩) | (go_at_call_of 79 h; refine (Calls.bool_eq (l1In_any _ _ _ _) hh).mono ?_; rintro e w' ⟨rfl, rfl⟩))
  go_ret
  exact ⟨ret_bool (by rw [sysB, hf, hv, hh]; rfl), hB⟩
 obtain ⟨p1, p2⟩ : 2 ≤ p ∧ p ≤ 97 := by have hf' := hf; unfold fieldB at hf'; rw [Bool.and_eq_true] at hf'; simpa [inB] using hf'.1
 obtain ⟨v1, v2⟩ : 0 ≤ v ∧ v ≤ 24 := by simpa [inB] using hv
 obtain ⟨h1, h2⟩ : 0 ≤ h ∧ h ≤ 100 := by simpa [inB] using hh
 by_cases hl : rows.length ≤ 160
 ·have hl' : decide ((rows.length : Int) ≤ 160) = true := by simp; omega
  go_enter Tryz.func47, Tryz.ntmps47
  go_wp2_with (first | (go_at_call 78; refine (Calls.bool_eq (fdGood_any _ _) hf).mono ?_; rintro e w' ⟨rfl, rfl⟩) | (go_at_call_of 79 v; refine (Calls.bool_eq (l1In_any _ _ _ _) hv).mono ?_; rintro e w' ⟨rfl, rfl⟩) | (go_at_call_of 79 h; refine (Calls.bool_eq (l1In_any _ _ _ _) hh).mono ?_; rintro e w' ⟨rfl, rfl⟩) | (go_at_call 80; refine (spRows_any _ _ _ _ _ _ x0 hm hms p1 p2).mono ?_; rintro e w' ⟨rfl, rfl⟩))
  go_ret
  exact ⟨ret_bool (by simp [sysB, hf, hv, hh, hl]), hB⟩
 ·have hl' : decide ((rows.length : Int) ≤ 160) = false := by simp; omega
  go_enter Tryz.func47, Tryz.ntmps47
  go_wp2_with (first | (go_at_call 78; refine (Calls.bool_eq (fdGood_any _ _) hf).mono ?_; rintro e w' ⟨rfl, rfl⟩) | (go_at_call_of 79 v; refine (Calls.bool_eq (l1In_any _ _ _ _) hv).mono ?_; rintro e w' ⟨rfl, rfl⟩) | (go_at_call_of 79 h; refine (Calls.bool_eq (l1In_any _ _ _ _) hh).mono ?_; rintro e w' ⟨rfl, rfl⟩))
  go_ret
  exact ⟨ret_bool (by simp [sysB, hl]), hB⟩
theorem zipIdx_get {α : Type} {xs : List α} {k : Nat} {x : α} (h : xs[k]? = some x) : xs.zipIdx[k]? = some (x, k) := by
 rw [List.getElem?_zipIdx, h]; simp
theorem hasRow_any (v h a : Int) (A : Option Addr) (n cap : Nat) (w : World) (hm : n ≤ maxLen) :
  Calls Tryz.prog 164 #[.agg #[.int .i64 v, .int .i64 h, .slice A n cap], .int .i64 a] w fun e w' => e = .returned (.bool (inB a 0 ((n : Int) - 1))) ∧ Below w.heap.size w w' := by
 unfold maxLen at hm
 have hB := (Below.refl w.heap.size w).alloc (Nat.le_refl _) (.cells #[.int .i64 v, .int .i64 h, .slice A n cap] 30)
 go_enter Tryz.func164, Tryz.ntmps164
 go_wp2_with (go_at_call 90; refine (within_any _ _ _ _).mono ?_; rintro e w' ⟨rfl, rfl⟩)
 go_ret
 exact ⟨rfl, hB⟩
theorem hasHidden_any (v h b : Int) (rv : Value) (w : World) (hh : 0 ≤ h) (hh' : h ≤ 100) :
  Calls Tryz.prog 188 #[.agg #[.int .i64 v, .int .i64 h, rv], .int .i64 b] w fun e w' => e = .returned (.bool (inB b 0 (h - 1))) ∧ Below w.heap.size w w' := by
 have hB := (Below.refl w.heap.size w).alloc (Nat.le_refl _) (.cells #[.int .i64 v, .int .i64 h, rv] 30)
 go_enter Tryz.func188, Tryz.ntmps188
 go_wp2_with (go_at_call 90; refine (within_any _ _ _ _).mono ?_; rintro e w' ⟨rfl, rfl⟩)
 go_ret
 exact ⟨rfl, hB⟩
def freeB (rows : List (List Int)) (c : Nat) (but : Int) : Bool := rows.zipIdx.all fun x => decide ((x.2 : Int) = but) || decide (x.1.getD c 0 = 0)
set_option maxHeartbeats 1000000 in
theorem isFree_any (v h b but : Int) (A : Option Addr) (cap : Nat) (rows : List (List Int)) (w : World) (hR : RowsAt w A rows) (hm : rows.length ≤ maxLen)
  (hv : 0 ≤ v) (hv' : v ≤ 24) (hh' : h ≤ 100) (hb : 0 ≤ b) (hb' : b < h) (hl : ∀ r ∈ rows, (r.length : Int) = v + h) :
  Calls Tryz.prog 189 #[.agg #[.int .i64 v, .int .i64 h, .slice A rows.length cap], .int .i64 b, .int .i64 but] w fun e w' => e = .returned (.bool (freeB rows (v + b).toNat but)) ∧ Below w.heap.size w w' := by
 unfold maxLen at hm
 have hB := (Below.refl w.heap.size w).alloc (Nat.le_refl _) (.cells #[.int .i64 v, .int .i64 h, .slice A rows.length cap] 30)
 replace hR := hR.ext hB
 go_enter Tryz.func189, Tryz.ntmps189
 go_wp2
 go_loop [12] (fun i => ∃ k : Nat, k ≤ rows.length ∧ i = .int .i64 k ∧ (rows.zipIdx.take k).all (fun x => decide ((x.2 : Int) = but) || decide (x.1.getD (v + b).toNat 0 = 0)) = true) (fun i => rows.length - (intOf i).toNat)
 case atStart => exact ⟨0, Nat.zero_le _, rfl, by simp⟩
 case round =>
  obtain ⟨k, hk, rfl, hall⟩ := hrel
  have Hall := Lib.hid hall; clear hall
  by_cases hlt : k < rows.length
  ·obtain ⟨r, hr⟩ := get_of_lt hlt
   obtain ⟨bb, o, rfl, hc⟩ := hR.here hlt
   obtain ⟨A', cap', hck, hin⟩ := hc k r hr
   have hrl := hl r (List.mem_of_getElem? hr)
   have hlt2 : (v + b).toNat < r.length := by omega
   obtain ⟨x, hx⟩ := get_of_lt hlt2
   obtain ⟨b2, o2, rfl, hc2⟩ := hin.here hlt2
   have hcx := hc2 _ _ hx
   have Hr := Lib.hid (zipIdx_get hr)
   have Hx := Lib.hid hx; clear hr hc hl hR hin hc2 hx
   have hi1 : 0 ≤ v + b := by omega
   have hi2 : v + b < (r.length : Int) := by omega
   have Hrl := Lib.hid hrl; clear hrl
   by_cases hn : (k : Int) = but
   ·have hnb : ((k : Int) != but) = false := by simp [hn]
    have HN := Lib.hid hn; clear hn
    go_wp2
    go_round
    case rel => exact ⟨k+1, by omega, by go_num, by rw [all_take_succ _ _ _ _ Hr.out, Hall.out]; simp [HN.out]⟩
    case measure => simp [intOf]; omega
   ·have hnb : ((k : Int) != but) = true := by simp [hn]
    by_cases h0 : x = 0
    ·subst h0
     go_wp2
     go_round
     case rel => exact ⟨k+1, by omega, by go_num, by rw [all_take_succ _ _ _ _ Hr.out, Hall.out]; simp [Hx.out]⟩
     case measure => simp [intOf]; omega
    ·have h0b : (x != 0) = true := by simp [h0]
     have H0 := Lib.hid h0; clear h0
     go_wp2
     go_ret
     exact ⟨ret_bool (by rw [freeB, all_false _ _ _ _ Hr.out (by simp [hn, Hx.out, H0.out])]), hB⟩
  ·go_wp2
   go_ret
   exact ⟨ret_bool (by rw [freeB, all_of_take _ _ _ Hall.out (by simp; omega)]), hB⟩
/-- The index of the first element other than 0. -/
def leadN (xs : List Int) : Nat := (xs.takeWhile (fun x => decide (x = 0))).length
theorem leadN_stop {xs : List Int} {k : Nat} {x : Int} (h : (xs.take k).all (fun x => decide (x = 0)) = true) (hx : xs[k]? = some x) (h0 : x ≠ 0) : leadN xs = k := by
 induction xs generalizing k with
 | nil => simp at hx
 | cons y ys ih =>
  cases k with
  | zero => simp at hx; subst hx; simp [leadN, h0]
  | succ k =>
   simp only [List.take_succ_cons, List.all_cons, Bool.and_eq_true, decide_eq_true_eq] at h
   have := ih h.2 (by simpa using hx)
   simp [leadN, h.1] at this ⊢
   exact this
theorem leadN_end {xs : List Int} (h : xs.all (fun x => decide (x = 0)) = true) : leadN xs = xs.length := by
 induction xs with
 | nil => rfl
 | cons y ys ih =>
  simp only [List.all_cons, Bool.and_eq_true, decide_eq_true_eq] at h
  have := ih h.2
  simp [leadN, h.1] at this ⊢
  exact this
theorem leadN_le (xs : List Int) : leadN xs ≤ xs.length := (List.takeWhile_prefix _).length_le
theorem leadN_all {xs : List Int} (e : leadN xs = xs.length) : xs.all (fun x => decide (x = 0)) = true := by
 induction xs with
 | nil => rfl
 | cons y ys ih =>
  by_cases hy : y = 0
  ·have : leadN ys = ys.length := by simpa [leadN, hy] using e
   simp only [List.all_cons, hy, ih this]; rfl
  ·simp [leadN, hy] at e
theorem leadN_eq (xs : List Int) : ((leadN xs : Int) == (xs.length : Int)) = xs.all (fun x => decide (x = 0)) := by
 cases h : xs.all (fun x => decide (x = 0))
 ·rw [beq_eq_false_iff_ne]
  intro e
  rw [leadN_all (by omega)] at h
  cases h
 ·rw [beq_iff_eq, leadN_end h]
set_option maxHeartbeats 400000 in
theorem lead_any (A : Option Addr) (cap : Nat) (xs : List Int) (w : World) (h : IntsAt w A xs) (hm : xs.length ≤ maxLen) :
  Calls Tryz.prog 176 #[.slice A xs.length cap] w fun e w' => e = .returned (.int .i64 (leadN xs)) ∧ w = w' := by
 unfold maxLen at hm
 go_enter Tryz.func176, Tryz.ntmps176
 go_wp2
 go_loop [7] (fun i => ∃ k : Nat, k ≤ xs.length ∧ i = .int .i64 k ∧ (xs.take k).all (fun x => decide (x = 0)) = true) (fun i => xs.length - (intOf i).toNat)
 case atStart => exact ⟨0, Nat.zero_le _, rfl, by simp⟩
 case round =>
  obtain ⟨k, hk, rfl, hall⟩ := hrel
  have Hall := Lib.hid hall; clear hall
  by_cases hlt : k < xs.length
  ·obtain ⟨x, hx⟩ := get_of_lt hlt
   obtain ⟨b, o, rfl, hc⟩ := h.here hlt
   have hck := hc k x hx
   have Hx := Lib.hid hx; clear hx hc h
   by_cases h0 : x = 0
   ·subst h0
    go_wp2
    go_round
    case rel => exact ⟨k+1, by omega, by go_num, by rw [all_take_succ _ _ _ _ Hx.out, Hall.out]; rfl⟩
    case measure => simp [intOf]; omega
   ·have h0b : (x != 0) = true := by simp [h0]
    have H0 := Lib.hid h0; clear h0
    go_wp2
    go_ret
    exact ⟨ret_int (by rw [leadN_stop Hall.out Hx.out H0.out]), rfl⟩
  ·go_wp2
   go_ret
   exact ⟨ret_int (by rw [leadN_end (all_of_take _ _ _ Hall.out (by omega))]), rfl⟩
def zeroB (xs : List Int) : Bool := xs.all fun x => decide (x = 0)
theorem isZero_any (A : Option Addr) (cap : Nat) (xs : List Int) (w : World) (h : IntsAt w A xs) (hm : xs.length ≤ maxLen) :
  Calls Tryz.prog 174 #[.slice A xs.length cap] w fun e w' => e = .returned (.bool (zeroB xs)) ∧ w = w' := by
 have E := Lib.hid (leadN_eq xs)
 have hle := leadN_le xs
 go_enter Tryz.func174, Tryz.ntmps174
 go_wp2_with (go_at_call 176; refine (lead_any _ _ _ _ h hm).mono ?_; rintro e w' ⟨rfl, rfl⟩)
 go_ret
 exact ⟨ret_bool (by rw [zeroB, ← E.out]), rfl⟩
def aloneB (xs : List Int) (a : Int) : Bool := xs.zipIdx.all fun x => decide ((x.2 : Int) = a) == decide (x.1 ≠ 0)
set_option maxHeartbeats 400000 in
theorem stAlone_any (a : Int) (A : Option Addr) (cap : Nat) (xs : List Int) (w : World) (h : IntsAt w A xs) (hm : xs.length ≤ maxLen) :
  Calls Tryz.prog 83 #[.slice A xs.length cap, .int .i64 a] w fun e w' => e = .returned (.bool (aloneB xs a)) ∧ w = w' := by
 unfold maxLen at hm
 go_enter Tryz.func83, Tryz.ntmps83
 go_wp2
 go_loop [9] (fun i => ∃ k : Nat, k ≤ xs.length ∧ i = .int .i64 k ∧ (xs.zipIdx.take k).all (fun x => decide ((x.2 : Int) = a) == decide (x.1 ≠ 0)) = true) (fun i => xs.length - (intOf i).toNat)
 case atStart => exact ⟨0, Nat.zero_le _, rfl, by simp⟩
 case round =>
  obtain ⟨k, hk, rfl, hall⟩ := hrel
  have Hall := Lib.hid hall; clear hall
  by_cases hlt : k < xs.length
  ·obtain ⟨x, hx⟩ := get_of_lt hlt
   obtain ⟨b, o, rfl, hc⟩ := h.here hlt
   have hck := hc k x hx
   have Hx := Lib.hid (zipIdx_get hx); clear hx hc h
   by_cases hn : (k : Int) = a <;> by_cases h0 : x = 0
   ·have hnb : ((k : Int) == a) = true := by simp [hn]
    have h0b : (x != 0) = false := by simp [h0]
    have HN := Lib.hid hn; have H0 := Lib.hid h0; clear hn h0
    go_wp2
    go_ret
    exact ⟨ret_bool (by rw [aloneB, all_false _ _ _ _ Hx.out (by simp [HN.out, H0.out])]), rfl⟩
   ·have hnb : ((k : Int) == a) = true := by simp [hn]
    have h0b : (x != 0) = true := by simp [h0]
    have HN := Lib.hid hn; have H0 := Lib.hid h0; clear hn h0
    go_wp2
    go_round
    case rel => exact ⟨k+1, by omega, by go_num, by rw [all_take_succ _ _ _ _ Hx.out, Hall.out]; simp [HN.out, H0.out]⟩
    case measure => simp [intOf]; omega
   ·have hnb : ((k : Int) == a) = false := by simp [hn]
    have h0b : (x != 0) = false := by simp [h0]
    have HN := Lib.hid hn; have H0 := Lib.hid h0; clear hn h0
    go_wp2
    go_round
    case rel => exact ⟨k+1, by omega, by go_num, by rw [all_take_succ _ _ _ _ Hx.out, Hall.out]; simp [HN.out, H0.out]⟩
    case measure => simp [intOf]; omega
   ·have hnb : ((k : Int) == a) = false := by simp [hn]
    have h0b : (x != 0) = true := by simp [h0]
    have HN := Lib.hid hn; have H0 := Lib.hid h0; clear hn h0
    go_wp2
    go_ret
    exact ⟨ret_bool (by rw [aloneB, all_false _ _ _ _ Hx.out (by simp [HN.out, H0.out])]), rfl⟩
  ·go_wp2
   go_ret
   exact ⟨ret_bool (by rw [aloneB, all_of_take _ _ _ Hall.out (by simp; omega)]), rfl⟩
theorem infoInt : (Tryz.prog.info? 3).map (fun i => (i.zero, i.size, i.bytes)) = some (some (.int .i64 0), 1, 8) := by kernel_rfl
/-- The slice v is the call's own from block B on and holds the integers xs. -/
def OwnInts (w : World) (B : Nat) (v : Value) (xs : List Int) : Prop := w.ownsRow B 3 1 v xs.length (xs.map (Value.int .i64))
theorem OwnInts.view {w : World} {B : Nat} {v : Value} {xs : List Int} (h : OwnInts w B v xs) : ∃ A cap, v = .slice A xs.length cap ∧ IntsAt w A xs ∧ xs.length ≤ cap ∧ cap ≤ maxLen := by
 have hc := fun g => World.ownsRow.cells h (g := g)
 obtain ⟨h1, h2⟩ := h
 rcases h2 with ⟨rfl, hn⟩ | ⟨g, cap, cur, rfl, hb, hg, hn, hm, hr⟩
 ·exact ⟨none, 0, by rw [hn], Or.inl (List.eq_nil_of_length_eq_zero hn), by omega, by decide⟩
 ·refine ⟨_, cap, rfl, Or.inr ⟨g, 0, rfl, fun k x hk => ?_⟩, hn, hm⟩
  have := hc g rfl k (.int .i64 x) (by rw [List.getElem?_map, hk]; rfl)
  have e : (⟨g, 0, none⟩ : Addr).add k = ⟨g, 0 + k, none⟩ := by unfold Addr.add; split <;> simp_all
  rwa [e] at this
theorem OwnInts.nil (w : World) (B : Nat) : OwnInts w B (.slice none 0 0) [] := World.ownsRow_nil _ _ _ _
/-- What is owned is kept where nothing below the heap's end has turned. -/
theorem OwnInts.ext {w w' : World} {B : Nat} {v : Value} {xs : List Int} (h : OwnInts w B v xs) (hb : Below w.heap.size w w') : OwnInts w' B v xs := by
 refine World.ownsRow.kept h (row := none) ⟨hb.os, hb.tape, hb.output, hb.size, fun k hk _ => hb.block k hk⟩ ?_
 cases v.ownBlock <;> simp
/-- 'append(s, y)' of one number that lies in a block just made. -/
theorem wp_append1 {ops : Array Oper} {rest : List Oper} {o : Oper} {a : Act} {Q : Exit → Act → World → Prop} (hgd : o.guard = none) (s x : Operand)
  (ho : o.op = .call { callee := .builtin .append, args := #[s, x], argTypes := #[25, 25] }) (B : Nat) (W : World) (v : Value) (xs : List Int) (y : Int)
  (hs : a.eval s = v) (hx : a.eval x = .slice (some ⟨W.heap.size, 0, none⟩) 1 1) (hown : OwnInts W B v xs) (hlen : xs.length + 1 ≤ 1099511627776) (hB : B ≤ W.heap.size)
  (h : ∀ v' w', OwnInts w' B v' (xs ++ [y]) → W.grownBy w' v.ownBlock → Below B W w' → wpList Tryz.prog ops Q rest (a.put o.dst v') w') :
  wpList Tryz.prog ops Q (o :: rest) a (W.alloc (.cells #[.int .i64 y] 3)) := by
 obtain ⟨i0, hi, hz0, hz1, hz2⟩ := info_parts infoInt
 have ho1 := World.ownsRow.alloc hown (.cells #[.int .i64 y] 3)
 refine wpList_append_own _ hgd s x 25 ho B 3 i0 (.int .i64 0) 1 8 Tryz.underlying25 hi hz0 hz1 hz2 rfl (by decide) v _ _ hs ho1 ⟨W.heap.size, 0, none⟩ 1 1 [.int .i64 y] hx rfl ?_ ?_ ?_ ?_ ?_ ?_
 ·intro j u hj
  match j, hj with
  | 0, hj => simp at hj; subst hj; simp [Addr.add]
  | j + 1, hj => simp at hj
 ·intro u hu; simp at hu; subst hu; rfl
 ·unfold maxLen; omega
 ·omega
 ·simp; omega
 ·intro v' w' hown' hgrow _
  have hg : W.grownBy w' v.ownBlock := ⟨hgrow.os, hgrow.tape, hgrow.output, by have := hgrow.size; simp at this; omega, fun k hk hne => (hgrow.block k (by simp; omega) hne).trans (heap_alloc_old W _ hk)⟩
  refine h v' w' (by simpa [OwnInts] using hown') hg ?_
  exact (Below.refl _ _).grown hg hB fun k hk => (World.ownsRow.lt hown k hk).1
def colOf (rows : List (List Int)) (c : Nat) : List Int := rows.map fun r => r.getD c 0
theorem col_take_succ {rows : List (List Int)} {c k : Nat} {r : List Int} {x : Int} (hr : rows[k]? = some r) (hx : r[c]? = some x) : (colOf rows c).take (k + 1) = (colOf rows c).take k ++ [x] := by
 rw [List.take_add_one]
 simp [colOf, hr, hx]
theorem col_len (rows : List (List Int)) (c k : Nat) (hk : k ≤ rows.length) : ((colOf rows c).take k).length = k := by simp [colOf]; omega
set_option maxHeartbeats 1000000 in
theorem stColumn_any (v h b : Int) (A : Option Addr) (cap : Nat) (rows : List (List Int)) (w : World) (hR : RowsAt w A rows) (hm : rows.length ≤ 1000)
  (hv : 0 ≤ v) (hv' : v ≤ 24) (hh' : h ≤ 100) (hb : 0 ≤ b) (hb' : b < h) (hl : ∀ r ∈ rows, (r.length : Int) = v + h) :
  Calls Tryz.prog 84 #[.agg #[.int .i64 v, .int .i64 h, .slice A rows.length cap], .int .i64 b] w fun e w' =>
   ∃ u, e = .returned u ∧ OwnInts w' (w.heap.size + 1) u (colOf rows (v + b).toNat) ∧ Below w.heap.size w w' := by
 obtain ⟨i0, hi, hz0, hz1, hz2⟩ := info_parts infoInt
 have hB := (Below.refl w.heap.size w).alloc (Nat.le_refl _) (.cells #[.int .i64 v, .int .i64 h, .slice A rows.length cap] 30)
 go_enter Tryz.func84, Tryz.ntmps84
 go_wp2
 go_loopw [5, 11] (fun u i wr => ∃ k : Nat, k ≤ rows.length ∧ i = .int .i64 k ∧ OwnInts wr (w.heap.size + 1) u ((colOf rows (v + b).toNat).take k) ∧ Below (w.heap.size + 1) (w.alloc (.cells #[.int .i64 v, .int .i64 h, .slice A rows.length cap] 30)) wr)
  (fun _ i _ => rows.length - (intOf i).toNat)
 case atStart => exact ⟨0, Nat.zero_le _, rfl, by simpa using OwnInts.nil _ _, Below.refl _ _⟩
 case round =>
  obtain ⟨k, hk, rfl, hown, hbel⟩ := hrel
  have Hown := Lib.hid hown; clear hown
  have hx0 : wr.cell? ⟨w.heap.size, 0, none⟩ = some (.int .i64 v) := (hbel.cell (p := ⟨w.heap.size, 0, none⟩) (by simp)).trans (by simp)
  by_cases hlt : k < rows.length
  ·obtain ⟨r, hr⟩ := get_of_lt hlt
   have hbw : Below w.heap.size w wr := hB.trans (hbel.mono (by omega))
   obtain ⟨bb, o, rfl, hc⟩ := (hR.ext hbw).here hlt
   obtain ⟨A', cap', hck, hin⟩ := hc k r hr
   have hrl := hl r (List.mem_of_getElem? hr)
   have hlt2 : (v + b).toNat < r.length := by omega
   obtain ⟨x, hx⟩ := get_of_lt hlt2
   obtain ⟨b2, o2, rfl, hc2⟩ := hin.here hlt2
   have hcx := hc2 _ _ hx
   have HS := Lib.hid (col_take_succ hr hx)
   clear hr hc hl hR hin hc2 hx
   have hi1 : 0 ≤ v + b := by omega
   have hi2 : v + b < (r.length : Int) := by omega
   have Hrl := Lib.hid hrl; clear hrl
   have HL := Lib.hid (col_len rows (v + b).toNat k hk)
   have hsz := hbel.size
   simp only [World.size_alloc] at hsz
   go_wp2_with ((at_builtin; refine wp_append1 rfl _ _ rfl _ wr _ _ _ rfl rfl Hown.out (by rw [HL.out]; omega) (by omega) ?_; intro u' w1 hown1 _ hbel1))
   go_roundw
   case rel => exact ⟨k+1, by omega, by go_num, by rw [HS.out]; exact hown1, hbel.trans hbel1⟩
   case measure => simp [intOf]; omega
  ·go_wp2
   go_ret
   exact ⟨_, rfl, by have h := Hown.out; rwa [List.take_of_length_le (by simp [colOf]; omega)] at h, hB.trans (hbel.mono (by omega))⟩
theorem run_append_none {P : Program} {w : World} (base : Nat) (t ty e : TypeId) (i : TypeInfo) (size : Nat) (ht : P.underlying t = some (.slice e)) (hi : P.info? e = some i)
  (v : Value) (n c : Nat) (xs : List Value) (hown : w.ownsRow base e size v n xs) :
  (Builtin.append_ #[t, t] ty #[v, .slice none 0 c]).run P w = .ok v w := by
 rcases hown.2 with ⟨rfl, rfl⟩ | ⟨g, cap, cur, rfl, _, _, hnc, _⟩
 ·simp [Builtin.append_, run_underlying ht, sizeOf, typeInfo, hi, Builtin.lenOf, Builtin.firstCells]
 ·simp [Builtin.append_, run_underlying ht, sizeOf, typeInfo, hi, Builtin.lenOf, Builtin.firstCells, hnc, storeCells]
theorem addr_add (b o j : Nat) : (⟨b, o, none⟩ : Addr).add j = ⟨b, o + j, none⟩ := by unfold Addr.add; split <;> simp_all
/-- 'append(s, l...)' of numbers, s the call's own. -/
theorem wp_appendAll {ops : Array Oper} {rest : List Oper} {o : Oper} {a : Act} {Q : Exit → Act → World → Prop} (hgd : o.guard = none) (s x : Operand)
  (ho : o.op = .call { callee := .builtin .append, args := #[s, x], argTypes := #[25, 25] }) (B : Nat) (W : World) (v : Value) (xs ys : List Int) (A : Option Addr) (c : Nat)
  (hs : a.eval s = v) (hx : a.eval x = .slice A ys.length c) (hown : OwnInts W B v xs) (hat : IntsAt W A ys) (hlen : xs.length + ys.length ≤ 1099511627776) (hB : B ≤ W.heap.size)
  (h : ∀ v' w', OwnInts w' B v' (xs ++ ys) → W.grownBy w' v.ownBlock → Below B W w' → wpList Tryz.prog ops Q rest (a.put o.dst v') w') :
  wpList Tryz.prog ops Q (o :: rest) a W := by
 obtain ⟨i0, hi, hz0, hz1, hz2⟩ := info_parts infoInt
 cases A with
 | none =>
  have hy : ys = [] := by
   rcases hat with h | ⟨b, o, h, _⟩
   ·exact h
   ·cases h
  subst hy
  refine wpList_plain hgd fun K hK => ?_
  have hrun := run_append_none (P := Tryz.prog) (w := W) B 25 o.type 3 i0 1 Tryz.underlying25 hi v _ c _ hown
  unfold Oper.wp
  simp only [List.length_nil] at hx
  simp [execOp, ho, resolve, invoke, builtin, hs, hx, hrun, Result.andThen]
  exact hK _ _ (h v W (by simpa using hown) ⟨rfl, rfl, rfl, Nat.le_refl _, fun _ _ _ => rfl⟩ (Below.refl _ _))
 | some ad =>
  refine wpList_append_own _ hgd s x 25 ho B 3 i0 (.int .i64 0) 1 8 Tryz.underlying25 hi hz0 hz1 hz2 rfl (by decide) v _ _ hs hown ad ys.length c (ys.map (Value.int .i64)) hx (by simp) ?_ ?_ ?_ ?_ ?_ ?_
  ·intro j u hj
   rw [List.getElem?_map] at hj
   obtain ⟨y, hy, rfl⟩ := Option.map_eq_some_iff.1 hj
   rcases hat with h | ⟨b, o, h, hc⟩
   ·simp [h] at hy
   ·cases h; rw [addr_add]; exact hc j y hy
  ·intro u hu
   obtain ⟨y, _, rfl⟩ := List.mem_map.1 hu
   rfl
  ·unfold maxLen; omega
  ·omega
  ·omega
  ·intro v' w' hown' hgrow _
   exact h v' w' (by simpa [OwnInts] using hown') hgrow ((Below.refl _ _).grown hgrow hB fun k hk => (World.ownsRow.lt hown k hk).1)
/-- A row of numbers in a block just made. -/
theorem OwnInts.lit (W : World) (B : Nat) (hB : B ≤ W.heap.size) : OwnInts (W.alloc (.cells #[] 3)) B (.slice (some ⟨W.heap.size, 0, none⟩) 0 0) [] :=
 World.ownsRow_lit W #[] 0 hB (by decide) rfl
theorem clone_any (A : Option Addr) (cap : Nat) (xs : List Int) (w : World) (h : IntsAt w A xs) (hm : xs.length ≤ 1099511627776) :
  Calls Tryz.prog 120 #[.slice A xs.length cap] w fun e w' => ∃ u, e = .returned u ∧ OwnInts w' w.heap.size u xs ∧ Below w.heap.size w w' := by
 have hB := (Below.refl w.heap.size w).alloc (Nat.le_refl _) (.cells #[] 3)
 have hA := h.ext hB
 go_enter Tryz.func120, Tryz.ntmps120
 go_wp2_with ((at_builtin; refine wp_appendAll rfl _ _ rfl w.heap.size _ _ [] xs A cap rfl rfl (OwnInts.lit _ _ (Nat.le_refl _)) hA (by simpa using hm) (by simp) ?_; intro u' w1 hown1 _ hbel1))
 go_ret
 exact ⟨_, rfl, hown1, hB.trans hbel1⟩
theorem l1Own_any (A : Option Addr) (cap : Nat) (xs : List Int) (w : World) (h : IntsAt w A xs) (hm : xs.length ≤ 1099511627776) :
  Calls Tryz.prog 74 #[.slice A xs.length cap] w fun e w' => ∃ u, e = .returned u ∧ OwnInts w' w.heap.size u xs ∧ Below w.heap.size w w' := by
 have hB := (Below.refl w.heap.size w).alloc (Nat.le_refl _) (.cells #[] 3)
 have hA := h.ext hB
 go_enter Tryz.func74, Tryz.ntmps74
 go_wp2_with ((at_builtin; refine wp_appendAll rfl _ _ rfl w.heap.size _ _ [] xs A cap rfl rfl (OwnInts.lit _ _ (Nat.le_refl _)) hA (by simpa using hm) (by simp) ?_; intro u' w1 hown1 _ hbel1))
 go_ret
 exact ⟨_, rfl, hown1, hB.trans hbel1⟩
theorem made_ints (n : Nat) : (madeCells (Value.int .i64 0).cells (n * 1)).toList = (List.replicate n (0 : Int)).map (Value.int .i64) := by
 apply List.ext_getElem?
 intro k
 simp only [madeCells, Value.cells, Nat.mul_one, Array.toList_map, Array.toList_range, List.getElem?_map, List.getElem?_replicate]
 by_cases hk : k < n
 ·simp [hk, Nat.mod_one]
 ·simp [hk]
theorem grown_none_below {w w' : World} (h : w.grownBy w' none) : Below w.heap.size w w' := ⟨h.os, h.tape, h.output, h.size, fun k hk => h.block k hk (by simp)⟩
theorem zeros_any (n : Nat) (w : World) (hm : n ≤ 1099511627776) :
  Calls Tryz.prog 140 #[.int .i64 n] w fun e w' => ∃ u, e = .returned u ∧ OwnInts w' w.heap.size u (List.replicate n 0) ∧ Below w.heap.size w w' := by
 obtain ⟨i0, hi, hz0, hz1, hz2⟩ := info_parts infoInt
 go_enter Tryz.func140, Tryz.ntmps140
 go_wp2_with ((at_make; refine wpList_make_full _ rfl _ _ 25 rfl w.heap.size 3 i0 (.int .i64 0) 1 Tryz.underlying25 hi hz0 hz1 .i64 .i64 n n n rfl rfl rfl rfl (by rw [hz2]; omega) (by unfold maxLen; omega) (Nat.le_refl _) ?_; intro w1 hown hgrow))
 go_ret
 refine ⟨_, rfl, ?_, grown_none_below hgrow⟩
 rw [made_ints] at hown
 simpa [OwnInts] using hown
/-- The first k elements, zeros (z) behind them. -/
def fillTo {α : Type} (xs : List α) (z : α) (k : Nat) : List α := xs.take k ++ List.replicate (xs.length - k) z
theorem fillTo_zero {α : Type} (xs : List α) (z : α) : fillTo xs z 0 = List.replicate xs.length z := by simp [fillTo]
theorem fillTo_all {α : Type} (xs : List α) (z : α) (k : Nat) (h : xs.length ≤ k) : fillTo xs z k = xs := by simp [fillTo, List.take_of_length_le h]; omega
theorem fillTo_get {α : Type} (xs : List α) (z : α) (k : Nat) (h : k < xs.length) : (fillTo xs z k)[k]? = some z := by
 rw [fillTo, List.getElem?_append_right (by simp; omega), List.getElem?_replicate, if_pos (by simp; omega)]
theorem fillTo_set {α : Type} (xs : List α) (z x : α) (k : Nat) (h : xs[k]? = some x) : (fillTo xs z k).set k x = fillTo xs z (k + 1) := by
 have hk : k < xs.length := (List.getElem?_eq_some_iff.1 h).1
 unfold fillTo
 rw [List.set_append_right _ _ (by simp; omega), List.take_add_one, h]
 have e1 : xs.length - k = (xs.length - (k + 1)) + 1 := by omega
 have e2 : k - (xs.take k).length = 0 := by simp; omega
 rw [e1, e2, List.replicate_succ, List.set_cons_zero]
 simp
set_option maxHeartbeats 1000000 in
theorem toIntS_any (A : Option Addr) (cap : Nat) (xs : List Int) (w : World) (h : IntsAt w A xs) (hm : xs.length ≤ 1099511627776) :
  Calls Tryz.prog 51 #[.slice A xs.length cap] w fun e w' => ∃ u, e = .returned u ∧ OwnInts w' w.heap.size u xs ∧ Below w.heap.size w w' := by
 obtain ⟨i0, hi, hz0, hz1, hz2⟩ := info_parts infoInt
 go_enter Tryz.func51, Tryz.ntmps51
 go_wp2_with ((at_make; refine wpList_make_full _ rfl _ _ 25 rfl w.heap.size 3 i0 (.int .i64 0) 1 Tryz.underlying25 hi hz0 hz1 .i64 .i64 xs.length xs.length xs.length rfl rfl rfl rfl (by rw [hz2]; omega) (by unfold maxLen; omega) (Nat.le_refl _) ?_; intro w1 hown hgrow))
 rw [made_ints, ← fillTo_zero] at hown
 have hbel0 := grown_none_below hgrow
 have HO := Lib.hid hown
 clear hown hgrow
 go_loopw [4] (fun i wr => ∃ k : Nat, k ≤ xs.length ∧ i = .int .i64 k ∧ wr.ownsRow w.heap.size 3 1 (.slice (some ⟨w.heap.size, 0, none⟩) xs.length xs.length) xs.length ((fillTo xs 0 k).map (Value.int .i64)) ∧ Below w.heap.size w wr)
  (fun i _ => xs.length - (intOf i).toNat)
 case atStart => exact ⟨0, Nat.zero_le _, rfl, HO.out, hbel0⟩
 case round =>
  obtain ⟨k, hk, rfl, hown, hbel⟩ := hrel
  clear HO hbel0
  by_cases hlt : k < xs.length
  ·obtain ⟨x, hx⟩ := get_of_lt hlt
   obtain ⟨b, o, rfl, hc⟩ := (h.ext hbel).here hlt
   have hcx := hc _ _ hx
   have hcell : wr.cell? ⟨w.heap.size, k, none⟩ = some (.int .i64 0) := by
    rw [hown.cellAt k (by omega), List.getElem?_map, fillTo_get _ _ _ hlt]; rfl
   have hfr := hown.frozenAt k
   have hst := (hown.stored k (.int .i64 x)).1
   rw [← List.map_set, fillTo_set _ _ _ _ hx] at hst
   have HS := Lib.hid hst
   have hb1 := hbel.setCell (p := ⟨w.heap.size, k, none⟩) (Nat.le_refl _) (.int .i64 x)
   have HB := Lib.hid hb1
   clear hst hb1 hx hc hown h
   go_wp2
   go_roundw
   case rel => exact ⟨k+1, by omega, by go_num, HS.out, HB.out⟩
   case measure => simp [intOf]; omega
  ·go_wp2
   go_ret
   rw [fillTo_all _ _ _ (by omega)] at hown
   exact ⟨_, rfl, hown, hbel⟩
end Go.Proofs.YtjdbfokbgmbphaaGreatDoor
