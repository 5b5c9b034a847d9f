/- Readers of rows and columns: hasRow, hasHidden, isFree, lead, isZero; the reference's stAlone, stColumn. Conditions: lengths of at most maxLen; rows as long as the system says. -/
import Derived.Test.YtjdbfokbgmbphaaGreatDoorRead3
namespace Go.Proofs.YtjdbfokbgmbphaaGreatDoor
set_option linter.unusedVariables false
set_option linter.unusedSimpArgs false
open Go.RowKit

theorem zipIdx_get {α : Type} {xs : List α} {k : Nat} {x : α} (h : xs[k]? = some x) : xs.zipIdx[k]? = some (x, k) := by
  rw [List.getElem?_zipIdx, h]; simp

theorem hasRow_any (v h a : Int) (A : Option Addr) (n cap : Nat) (w : World) (hm : n ≤ maxLen) :
    Calls Tryz.prog 164 #[.agg #[.int .i64 v, .int .i64 h, .slice A n cap], .int .i64 a] w fun e w' => e = .returned (.bool (inB a 0 ((n : Int) - 1))) ∧ Below w.heap.size w w' := by
  unfold maxLen at hm
  have hB := (Below.refl w.heap.size w).alloc (Nat.le_refl _) (.cells #[.int .i64 v, .int .i64 h, .slice A n cap] 30)
  go_enter Tryz.func164, Tryz.ntmps164
  go_wp2_with (go_at_call 90; refine (within_any _ _ _ _).mono ?_; rintro e w' ⟨rfl, rfl⟩)
  go_ret
  exact ⟨rfl, hB⟩
theorem hasHidden_any (v h b : Int) (rv : Value) (w : World) (hh : 0 ≤ h) (hh' : h ≤ 100) :
    Calls Tryz.prog 188 #[.agg #[.int .i64 v, .int .i64 h, rv], .int .i64 b] w fun e w' => e = .returned (.bool (inB b 0 (h - 1))) ∧ Below w.heap.size w w' := by
  have hB := (Below.refl w.heap.size w).alloc (Nat.le_refl _) (.cells #[.int .i64 v, .int .i64 h, rv] 30)
  go_enter Tryz.func188, Tryz.ntmps188
  go_wp2_with (go_at_call 90; refine (within_any _ _ _ _).mono ?_; rintro e w' ⟨rfl, rfl⟩)
  go_ret
  exact ⟨rfl, hB⟩

def freeB (rows : List (List Int)) (c : Nat) (but : Int) : Bool := rows.zipIdx.all fun x => decide ((x.2 : Int) = but) || decide (x.1.getD c 0 = 0)

set_option maxHeartbeats 1000000 in
theorem isFree_any (v h b but : Int) (A : Option Addr) (cap : Nat) (rows : List (List Int)) (w : World) (hR : RowsAt w A rows) (hm : rows.length ≤ maxLen)
    (hv : 0 ≤ v) (hv' : v ≤ 24) (hh' : h ≤ 100) (hb : 0 ≤ b) (hb' : b < h) (hl : ∀ r ∈ rows, (r.length : Int) = v + h) :
    Calls Tryz.prog 189 #[.agg #[.int .i64 v, .int .i64 h, .slice A rows.length cap], .int .i64 b, .int .i64 but] w fun e w' => e = .returned (.bool (freeB rows (v + b).toNat but)) ∧ Below w.heap.size w w' := by
  unfold maxLen at hm
  have hB := (Below.refl w.heap.size w).alloc (Nat.le_refl _) (.cells #[.int .i64 v, .int .i64 h, .slice A rows.length cap] 30)
  replace hR := hR.ext hB
  go_enter Tryz.func189, Tryz.ntmps189
  go_wp2
  go_loop [12] (fun i => ∃ k : Nat, k ≤ rows.length ∧ i = .int .i64 k ∧ (rows.zipIdx.take k).all (fun x => decide ((x.2 : Int) = but) || decide (x.1.getD (v + b).toNat 0 = 0)) = true) (fun i => rows.length - (intOf i).toNat)
  case atStart => exact ⟨0, Nat.zero_le _, rfl, by simp⟩
  case round =>
    obtain ⟨k, hk, rfl, hall⟩ := hrel
    have Hall := Lib.hid hall; clear hall
    by_cases hlt : k < rows.length
    · obtain ⟨r, hr⟩ := get_of_lt hlt
      obtain ⟨bb, o, rfl, hc⟩ := hR.here hlt
      obtain ⟨A', cap', hck, hin⟩ := hc k r hr
      have hrl := hl r (List.mem_of_getElem? hr)
      have hlt2 : (v + b).toNat < r.length := by omega
      obtain ⟨x, hx⟩ := get_of_lt hlt2
      obtain ⟨b2, o2, rfl, hc2⟩ := hin.here hlt2
      have hcx := hc2 _ _ hx
      have Hr := Lib.hid (zipIdx_get hr)
      have Hx := Lib.hid hx; clear hr hc hl hR hin hc2 hx
      have hi1 : 0 ≤ v + b := by omega
      have hi2 : v + b < (r.length : Int) := by omega
      have Hrl := Lib.hid hrl; clear hrl
      by_cases hn : (k : Int) = but
      · have hnb : ((k : Int) != but) = false := by simp [hn]
        have HN := Lib.hid hn; clear hn
        go_wp2
        go_round
        case rel => exact ⟨k+1, by omega, by go_num, by rw [all_take_succ _ _ _ _ Hr.out, Hall.out]; simp [HN.out]⟩
        case measure => simp [intOf]; omega
      · have hnb : ((k : Int) != but) = true := by simp [hn]
        by_cases h0 : x = 0
        · subst h0
          go_wp2
          go_round
          case rel => exact ⟨k+1, by omega, by go_num, by rw [all_take_succ _ _ _ _ Hr.out, Hall.out]; simp [Hx.out]⟩
          case measure => simp [intOf]; omega
        · have h0b : (x != 0) = true := by simp [h0]
          have H0 := Lib.hid h0; clear h0
          go_wp2
          go_ret
          exact ⟨ret_bool (by rw [freeB, all_false _ _ _ _ Hr.out (by simp [hn, Hx.out, H0.out])]), hB⟩
    · go_wp2
      go_ret
      exact ⟨ret_bool (by rw [freeB, all_of_take _ _ _ Hall.out (by simp; omega)]), hB⟩

/-- The index of the first element other than 0. -/
def leadN (xs : List Int) : Nat := (xs.takeWhile (fun x => decide (x = 0))).length
theorem leadN_stop {xs : List Int} {k : Nat} {x : Int} (h : (xs.take k).all (fun x => decide (x = 0)) = true) (hx : xs[k]? = some x) (h0 : x ≠ 0) : leadN xs = k := by
  induction xs generalizing k with
  | nil => simp at hx
  | cons y ys ih =>
    cases k with
    | zero => simp at hx; subst hx; simp [leadN, h0]
    | succ k =>
      simp only [List.take_succ_cons, List.all_cons, Bool.and_eq_true, decide_eq_true_eq] at h
      have := ih h.2 (by simpa using hx)
      simp [leadN, h.1] at this ⊢
      exact this
theorem leadN_end {xs : List Int} (h : xs.all (fun x => decide (x = 0)) = true) : leadN xs = xs.length := by
  induction xs with
  | nil => rfl
  | cons y ys ih =>
    simp only [List.all_cons, Bool.and_eq_true, decide_eq_true_eq] at h
    have := ih h.2
    simp [leadN, h.1] at this ⊢
    exact this
theorem leadN_le (xs : List Int) : leadN xs ≤ xs.length := (List.takeWhile_prefix _).length_le
theorem leadN_all {xs : List Int} (e : leadN xs = xs.length) : xs.all (fun x => decide (x = 0)) = true := by
  induction xs with
  | nil => rfl
  | cons y ys ih =>
    by_cases hy : y = 0
    · have : leadN ys = ys.length := by simpa [leadN, hy] using e
      simp only [List.all_cons, hy, ih this]; rfl
    · simp [leadN, hy] at e
theorem leadN_eq (xs : List Int) : ((leadN xs : Int) == (xs.length : Int)) = xs.all (fun x => decide (x = 0)) := by
  cases h : xs.all (fun x => decide (x = 0))
  · rw [beq_eq_false_iff_ne]
    intro e
    rw [leadN_all (by omega)] at h
    cases h
  · rw [beq_iff_eq, leadN_end h]

set_option maxHeartbeats 400000 in
theorem lead_any (A : Option Addr) (cap : Nat) (xs : List Int) (w : World) (h : IntsAt w A xs) (hm : xs.length ≤ maxLen) :
    Calls Tryz.prog 176 #[.slice A xs.length cap] w fun e w' => e = .returned (.int .i64 (leadN xs)) ∧ w = w' := by
  unfold maxLen at hm
  go_enter Tryz.func176, Tryz.ntmps176
  go_wp2
  go_loop [7] (fun i => ∃ k : Nat, k ≤ xs.length ∧ i = .int .i64 k ∧ (xs.take k).all (fun x => decide (x = 0)) = true) (fun i => xs.length - (intOf i).toNat)
  case atStart => exact ⟨0, Nat.zero_le _, rfl, by simp⟩
  case round =>
    obtain ⟨k, hk, rfl, hall⟩ := hrel
    have Hall := Lib.hid hall; clear hall
    by_cases hlt : k < xs.length
    · obtain ⟨x, hx⟩ := get_of_lt hlt
      obtain ⟨b, o, rfl, hc⟩ := h.here hlt
      have hck := hc k x hx
      have Hx := Lib.hid hx; clear hx hc h
      by_cases h0 : x = 0
      · subst h0
        go_wp2
        go_round
        case rel => exact ⟨k+1, by omega, by go_num, by rw [all_take_succ _ _ _ _ Hx.out, Hall.out]; rfl⟩
        case measure => simp [intOf]; omega
      · have h0b : (x != 0) = true := by simp [h0]
        have H0 := Lib.hid h0; clear h0
        go_wp2
        go_ret
        exact ⟨ret_int (by rw [leadN_stop Hall.out Hx.out H0.out]), rfl⟩
    · go_wp2
      go_ret
      exact ⟨ret_int (by rw [leadN_end (all_of_take _ _ _ Hall.out (by omega))]), rfl⟩

def zeroB (xs : List Int) : Bool := xs.all fun x => decide (x = 0)
theorem isZero_any (A : Option Addr) (cap : Nat) (xs : List Int) (w : World) (h : IntsAt w A xs) (hm : xs.length ≤ maxLen) :
    Calls Tryz.prog 174 #[.slice A xs.length cap] w fun e w' => e = .returned (.bool (zeroB xs)) ∧ w = w' := by
  have E := Lib.hid (leadN_eq xs)
  have hle := leadN_le xs
  go_enter Tryz.func174, Tryz.ntmps174
  go_wp2_with (go_at_call 176; refine (lead_any _ _ _ _ h hm).mono ?_; rintro e w' ⟨rfl, rfl⟩)
  go_ret
  exact ⟨ret_bool (by rw [zeroB, ← E.out]), rfl⟩

def aloneB (xs : List Int) (a : Int) : Bool := xs.zipIdx.all fun x => decide ((x.2 : Int) = a) == decide (x.1 ≠ 0)
set_option maxHeartbeats 400000 in
theorem stAlone_any (a : Int) (A : Option Addr) (cap : Nat) (xs : List Int) (w : World) (h : IntsAt w A xs) (hm : xs.length ≤ maxLen) :
    Calls Tryz.prog 83 #[.slice A xs.length cap, .int .i64 a] w fun e w' => e = .returned (.bool (aloneB xs a)) ∧ w = w' := by
  unfold maxLen at hm
  go_enter Tryz.func83, Tryz.ntmps83
  go_wp2
  go_loop [9] (fun i => ∃ k : Nat, k ≤ xs.length ∧ i = .int .i64 k ∧ (xs.zipIdx.take k).all (fun x => decide ((x.2 : Int) = a) == decide (x.1 ≠ 0)) = true) (fun i => xs.length - (intOf i).toNat)
  case atStart => exact ⟨0, Nat.zero_le _, rfl, by simp⟩
  case round =>
    obtain ⟨k, hk, rfl, hall⟩ := hrel
    have Hall := Lib.hid hall; clear hall
    by_cases hlt : k < xs.length
    · obtain ⟨x, hx⟩ := get_of_lt hlt
      obtain ⟨b, o, rfl, hc⟩ := h.here hlt
      have hck := hc k x hx
      have Hx := Lib.hid (zipIdx_get hx); clear hx hc h
      by_cases hn : (k : Int) = a <;> by_cases h0 : x = 0
      · have hnb : ((k : Int) == a) = true := by simp [hn]
        have h0b : (x != 0) = false := by simp [h0]
        have HN := Lib.hid hn; have H0 := Lib.hid h0; clear hn h0
        go_wp2
        go_ret
        exact ⟨ret_bool (by rw [aloneB, all_false _ _ _ _ Hx.out (by simp [HN.out, H0.out])]), rfl⟩
      · have hnb : ((k : Int) == a) = true := by simp [hn]
        have h0b : (x != 0) = true := by simp [h0]
        have HN := Lib.hid hn; have H0 := Lib.hid h0; clear hn h0
        go_wp2
        go_round
        case rel => exact ⟨k+1, by omega, by go_num, by rw [all_take_succ _ _ _ _ Hx.out, Hall.out]; simp [HN.out, H0.out]⟩
        case measure => simp [intOf]; omega
      · have hnb : ((k : Int) == a) = false := by simp [hn]
        have h0b : (x != 0) = false := by simp [h0]
        have HN := Lib.hid hn; have H0 := Lib.hid h0; clear hn h0
        go_wp2
        go_round
        case rel => exact ⟨k+1, by omega, by go_num, by rw [all_take_succ _ _ _ _ Hx.out, Hall.out]; simp [HN.out, H0.out]⟩
        case measure => simp [intOf]; omega
      · have hnb : ((k : Int) == a) = false := by simp [hn]
        have h0b : (x != 0) = true := by simp [h0]
        have HN := Lib.hid hn; have H0 := Lib.hid h0; clear hn h0
        go_wp2
        go_ret
        exact ⟨ret_bool (by rw [aloneB, all_false _ _ _ _ Hx.out (by simp [HN.out, H0.out])]), rfl⟩
    · go_wp2
      go_ret
      exact ⟨ret_bool (by rw [aloneB, all_of_take _ _ _ Hall.out (by simp; omega)]), rfl⟩
end Go.Proofs.YtjdbfokbgmbphaaGreatDoor
