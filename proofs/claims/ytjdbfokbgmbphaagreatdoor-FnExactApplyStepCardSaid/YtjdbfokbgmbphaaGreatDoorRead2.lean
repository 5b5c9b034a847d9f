/- The readers of a field and of a system, on both sides. Conditions: lengths of at most maxLen; the table of small primes is laid. -/
import Derived.Test.YtjdbfokbgmbphaaGreatDoorRead1
namespace Go.Proofs.YtjdbfokbgmbphaaGreatDoor
set_option linter.unusedVariables false
set_option linter.unusedSimpArgs false
open Go.RowKit

def badB (p q : Int) : Bool := decide (p % q = 0) && decide (p ≠ q)
theorem fieldB_bad {p : Int} (k : Nat) (hk : k < 4) (h : badB p ([(2 : Int), 3, 5, 7].getD k 0) = true) : fieldB p = false := by
  unfold fieldB badB at *
  rw [Bool.and_eq_false_iff]
  right
  rw [List.all_eq_false]
  match k, hk with
  | 0, _ => exact ⟨2, by simp, by simpa using h⟩
  | 1, _ => exact ⟨3, by simp, by simpa using h⟩
  | 2, _ => exact ⟨5, by simp, by simpa using h⟩
  | 3, _ => exact ⟨7, by simp, by simpa using h⟩
theorem fieldB_good {p : Int} (h1 : 2 ≤ p) (h2 : p ≤ 97) (h : ∀ j, j < 4 → badB p ([(2 : Int), 3, 5, 7].getD j 0) = false) : fieldB p = true := by
  have a0 := h 0 (by omega); have a1 := h 1 (by omega); have a2 := h 2 (by omega); have a3 := h 3 (by omega)
  simp only [badB, List.getD_cons_zero, List.getD_cons_succ] at a0 a1 a2 a3
  simp only [fieldB, inB, List.all_cons, List.all_nil, a0, a1, a2, a3]
  simp [h1, h2]

set_option maxHeartbeats 1000000 in
theorem isField_any (p : Int) (w : World) (h : Primes w) :
    Calls Tryz.prog 89 #[.int .i64 p] w fun e w' => e = .returned (.bool (fieldB p)) ∧ w = w' := by
  obtain ⟨c0, c1, c2, c3⟩ := h
  by_cases h1 : p < 2
  · go_enter Tryz.func89, Tryz.ntmps89
    go_wp2
    go_ret
    exact ⟨ret_bool (by simp [fieldB, inB]; omega), rfl⟩
  by_cases h2 : 97 < p
  · go_enter Tryz.func89, Tryz.ntmps89
    go_wp2
    go_ret
    exact ⟨ret_bool (by simp [fieldB, inB]; omega), rfl⟩
  go_enter Tryz.func89, Tryz.ntmps89
  go_wp2
  have i0 : ∀ w, (Instr.index 112 (.agg #[.int .i64 2, .int .i64 3, .int .i64 5, .int .i64 7]) (.int .i64 0)).run Tryz.prog w = .ok (.int .i64 2) w := fun _ => by kernel_rfl
  have i1 : ∀ w, (Instr.index 112 (.agg #[.int .i64 2, .int .i64 3, .int .i64 5, .int .i64 7]) (.int .i64 1)).run Tryz.prog w = .ok (.int .i64 3) w := fun _ => by kernel_rfl
  have i2 : ∀ w, (Instr.index 112 (.agg #[.int .i64 2, .int .i64 3, .int .i64 5, .int .i64 7]) (.int .i64 2)).run Tryz.prog w = .ok (.int .i64 5) w := fun _ => by kernel_rfl
  have i3 : ∀ w, (Instr.index 112 (.agg #[.int .i64 2, .int .i64 3, .int .i64 5, .int .i64 7]) (.int .i64 3)).run Tryz.prog w = .ok (.int .i64 7) w := fun _ => by kernel_rfl
  go_loop [12] (fun i => ∃ k : Nat, k ≤ 4 ∧ i = .int .i64 k ∧ ∀ j, j < k → badB p ([(2 : Int), 3, 5, 7].getD j 0) = false) (fun i => 4 - (intOf i).toNat)
  case atStart => exact ⟨0, by omega, rfl, fun j hj => by omega⟩
  case round =>
    obtain ⟨k, hk, rfl, hall⟩ := hrel
    have Hall := Lib.hid hall; clear hall
    have h3 : 0 ≤ p := by omega
    rcases (show k = 4 ∨ k = 0 ∨ k = 1 ∨ k = 2 ∨ k = 3 from by omega) with rfl | rfl | rfl | rfl | rfl
    · go_wp2
      go_ret
      exact ⟨ret_bool (by rw [fieldB_good (by omega) (by omega) Hall.out]), rfl⟩
    · by_cases m : p % 2 = 0
      · have hb : (p % 2 == 0) = true := by simp [m]
        by_cases e : p = 2
        · have Hb : badB p 2 = false := by simp [badB, e]
          have HB := Lib.hid Hb; clear Hb
          have he : (p != 2) = false := by simp [e]
          clear m e
          go_wp2
          go_round
          case rel => exact ⟨1, by omega, by go_num, fun j hj => by
            by_cases hj' : j < 0
            · exact Hall.out j hj'
            · obtain rfl : j = 0 := by omega
              exact HB.out⟩
          case measure => simp [intOf]
        · have he : (p != 2) = true := by simp [e]
          have Hb : badB p 2 = true := by simp [badB, e, m]
          have HB := Lib.hid Hb; clear Hb m e
          go_wp2
          go_ret
          exact ⟨ret_bool (by rw [fieldB_bad 0 (by omega) HB.out]), rfl⟩
      · have hb : (p % 2 == 0) = false := by simp [m]
        have Hb : badB p 2 = false := by simp [badB, m]
        have HB := Lib.hid Hb; clear Hb m
        go_wp2
        go_round
        case rel => exact ⟨1, by omega, by go_num, fun j hj => by
          by_cases hj' : j < 0
          · exact Hall.out j hj'
          · obtain rfl : j = 0 := by omega
            exact HB.out⟩
        case measure => simp [intOf]
    · by_cases m : p % 3 = 0
      · have hb : (p % 3 == 0) = true := by simp [m]
        by_cases e : p = 3
        · have Hb : badB p 3 = false := by simp [badB, e]
          have HB := Lib.hid Hb; clear Hb
          have he : (p != 3) = false := by simp [e]
          clear m e
          go_wp2
          go_round
          case rel => exact ⟨2, by omega, by go_num, fun j hj => by
            by_cases hj' : j < 1
            · exact Hall.out j hj'
            · obtain rfl : j = 1 := by omega
              exact HB.out⟩
          case measure => simp [intOf]
        · have he : (p != 3) = true := by simp [e]
          have Hb : badB p 3 = true := by simp [badB, e, m]
          have HB := Lib.hid Hb; clear Hb m e
          go_wp2
          go_ret
          exact ⟨ret_bool (by rw [fieldB_bad 1 (by omega) HB.out]), rfl⟩
      · have hb : (p % 3 == 0) = false := by simp [m]
        have Hb : badB p 3 = false := by simp [badB, m]
        have HB := Lib.hid Hb; clear Hb m
        go_wp2
        go_round
        case rel => exact ⟨2, by omega, by go_num, fun j hj => by
          by_cases hj' : j < 1
          · exact Hall.out j hj'
          · obtain rfl : j = 1 := by omega
            exact HB.out⟩
        case measure => simp [intOf]
    · by_cases m : p % 5 = 0
      · have hb : (p % 5 == 0) = true := by simp [m]
        by_cases e : p = 5
        · have Hb : badB p 5 = false := by simp [badB, e]
          have HB := Lib.hid Hb; clear Hb
          have he : (p != 5) = false := by simp [e]
          clear m e
          go_wp2
          go_round
          case rel => exact ⟨3, by omega, by go_num, fun j hj => by
            by_cases hj' : j < 2
            · exact Hall.out j hj'
            · obtain rfl : j = 2 := by omega
              exact HB.out⟩
          case measure => simp [intOf]
        · have he : (p != 5) = true := by simp [e]
          have Hb : badB p 5 = true := by simp [badB, e, m]
          have HB := Lib.hid Hb; clear Hb m e
          go_wp2
          go_ret
          exact ⟨ret_bool (by rw [fieldB_bad 2 (by omega) HB.out]), rfl⟩
      · have hb : (p % 5 == 0) = false := by simp [m]
        have Hb : badB p 5 = false := by simp [badB, m]
        have HB := Lib.hid Hb; clear Hb m
        go_wp2
        go_round
        case rel => exact ⟨3, by omega, by go_num, fun j hj => by
          by_cases hj' : j < 2
          · exact Hall.out j hj'
          · obtain rfl : j = 2 := by omega
            exact HB.out⟩
        case measure => simp [intOf]
    · by_cases m : p % 7 = 0
      · have hb : (p % 7 == 0) = true := by simp [m]
        by_cases e : p = 7
        · have Hb : badB p 7 = false := by simp [badB, e]
          have HB := Lib.hid Hb; clear Hb
          have he : (p != 7) = false := by simp [e]
          clear m e
          go_wp2
          go_round
          case rel => exact ⟨4, by omega, by go_num, fun j hj => by
            by_cases hj' : j < 3
            · exact Hall.out j hj'
            · obtain rfl : j = 3 := by omega
              exact HB.out⟩
          case measure => simp [intOf]
        · have he : (p != 7) = true := by simp [e]
          have Hb : badB p 7 = true := by simp [badB, e, m]
          have HB := Lib.hid Hb; clear Hb m e
          go_wp2
          go_ret
          exact ⟨ret_bool (by rw [fieldB_bad 3 (by omega) HB.out]), rfl⟩
      · have hb : (p % 7 == 0) = false := by simp [m]
        have Hb : badB p 7 = false := by simp [badB, m]
        have HB := Lib.hid Hb; clear Hb m
        go_wp2
        go_round
        case rel => exact ⟨4, by omega, by go_num, fun j hj => by
          by_cases hj' : j < 3
          · exact Hall.out j hj'
          · obtain rfl : j = 3 := by omega
            exact HB.out⟩
        case measure => simp [intOf]

theorem field_div_all : ((List.range 98).all fun p => (List.range 10).all fun k => decide (p < 2) || decide (k < 2) || decide (p < k * k) || decide (p % k ≠ 0) || !fieldB (p : Nat)) = true := by decide +kernel
theorem field_prime_all : ((List.range 98).all fun p => (List.range 11).all fun k => decide (p < 2) || decide (k < 2) || decide (k * k ≤ p) || ((List.range k).any fun j => decide (2 ≤ j) && decide (p % j = 0)) || fieldB (p : Nat)) = true := by decide +kernel
theorem field_div_nat (p : Nat) (h1 : p < 98) (k : Nat) (h2 : k < 10) (h3 : 2 ≤ p) (h4 : 2 ≤ k) (h5 : k * k ≤ p) (h6 : p % k = 0) : fieldB (p : Nat) = false := by
  have := List.all_eq_true.1 (List.all_eq_true.1 field_div_all p (List.mem_range.2 h1)) k (List.mem_range.2 h2)
  simp only [Bool.or_eq_true, decide_eq_true_eq, Bool.not_eq_true'] at this
  rcases this with (((h | h) | h) | h) | h
  · omega
  · omega
  · omega
  · exact absurd h6 h
  · exact h
theorem field_prime_nat (p : Nat) (h1 : p < 98) (k : Nat) (h2 : k < 11) (h3 : 2 ≤ p) (h4 : 2 ≤ k) (h5 : p < k * k) (h6 : ∀ j, j < k → 2 ≤ j → p % j ≠ 0) : fieldB (p : Nat) = true := by
  have := List.all_eq_true.1 (List.all_eq_true.1 field_prime_all p (List.mem_range.2 h1)) k (List.mem_range.2 h2)
  simp only [Bool.or_eq_true, decide_eq_true_eq, List.any_eq_true, Bool.and_eq_true, List.mem_range] at this
  rcases this with (((h | h) | h) | ⟨j, hj, h2, h⟩) | h
  · omega
  · omega
  · omega
  · exact absurd h (h6 j hj h2)
  · exact h
theorem field_div {p k : Int} (h1 : 2 ≤ p) (h2 : p ≤ 97) (h3 : 2 ≤ k) (h4 : k ≤ 9) (h5 : k * k ≤ p) (h6 : p % k = 0) : fieldB p = false := by
  obtain ⟨p, rfl⟩ := Int.eq_ofNat_of_zero_le (show 0 ≤ p by omega)
  obtain ⟨k, rfl⟩ := Int.eq_ofNat_of_zero_le (show 0 ≤ k by omega)
  exact field_div_nat p (by omega) k (by omega) (by omega) (by omega) (by exact_mod_cast h5) (by exact_mod_cast h6)
theorem field_prime {p k : Int} (h1 : 2 ≤ p) (h2 : p ≤ 97) (h3 : 2 ≤ k) (h4 : k ≤ 10) (h5 : p < k * k) (h6 : ∀ j, 2 ≤ j → j < k → p % j ≠ 0) : fieldB p = true := by
  obtain ⟨p, rfl⟩ := Int.eq_ofNat_of_zero_le (show 0 ≤ p by omega)
  obtain ⟨k, rfl⟩ := Int.eq_ofNat_of_zero_le (show 0 ≤ k by omega)
  exact field_prime_nat p (by omega) k (by omega) (by omega) (by omega) (by exact_mod_cast h5) fun j hj hj2 => by
    have := h6 j (by omega) (by omega)
    exact_mod_cast this
theorem sq_le {k : Int} (h1 : 2 ≤ k) (h2 : k ≤ 10) : 0 ≤ k * k ∧ k * k ≤ 100 ∧ (k = 10 → k * k = 100) := by
  obtain ⟨k, rfl⟩ := Int.eq_ofNat_of_zero_le (show 0 ≤ k by omega)
  have h : k < 11 := by omega
  have : ∀ k, k < 11 → k * k ≤ 100 := by decide
  have := this k h
  refine ⟨by omega, by exact_mod_cast this, fun e => ?_⟩
  obtain rfl : k = 10 := by omega
  rfl
set_option maxHeartbeats 1000000 in
theorem fdGood_any (p : Int) (w : World) :
    Calls Tryz.prog 78 #[.int .i64 p] w fun e w' => e = .returned (.bool (fieldB p)) ∧ w = w' := by
  cases hi : inB p 2 97
  · go_enter Tryz.func78, Tryz.ntmps78
    go_wp2_with (go_at_call 79; refine (l1In_any _ _ _ _).mono ?_; rintro e w' ⟨rfl, rfl⟩; rw [hi])
    go_ret
    exact ⟨ret_bool (by rw [fieldB, hi]; rfl), rfl⟩
  have hp : 2 ≤ p ∧ p ≤ 97 := by simpa [inB] using hi
  obtain ⟨hp1, hp2⟩ := hp
  go_enter Tryz.func78, Tryz.ntmps78
  go_wp2_with (go_at_call 79; refine (l1In_any _ _ _ _).mono ?_; rintro e w' ⟨rfl, rfl⟩; rw [hi])
  go_loop [3] (fun i => ∃ k : Int, 2 ≤ k ∧ k ≤ 10 ∧ i = .int .i64 k ∧ ∀ j, 2 ≤ j → j < k → p % j ≠ 0) (fun i => 10 - (intOf i).toNat)
  case atStart => exact ⟨2, by omega, by omega, rfl, fun j _ _ => by omega⟩
  case round =>
    obtain ⟨k, hk1, hk2, rfl, hall⟩ := hrel
    have Hall := Lib.hid hall; clear hall
    obtain ⟨q1, q2, q3⟩ := sq_le hk1 hk2
    by_cases hs : k * k ≤ p
    · have hk3 : k ≤ 9 := by
        rcases (show k ≤ 9 ∨ k = 10 by omega) with h | h
        · exact h
        · have := q3 h; omega
      clear q3
      by_cases m : p % k = 0
      · have hb : (p % k == 0) = true := by simp [m]
        have M := Lib.hid m; clear m
        go_wp2
        go_ret
        exact ⟨ret_bool (by rw [field_div hp1 hp2 hk1 hk3 hs M.out]), rfl⟩
      · have hb : (p % k == 0) = false := by simp [m]
        have M := Lib.hid m; clear m
        go_wp2
        go_round
        case rel => exact ⟨k + 1, by omega, by omega, by go_num, fun j a b => by
          by_cases hj : j < k
          · exact Hall.out j a hj
          · obtain rfl : j = k := by omega
            exact M.out⟩
        case measure => simp [intOf]; omega
    · clear q3
      go_wp2
      go_ret
      exact ⟨ret_bool (by rw [field_prime hp1 hp2 hk1 hk2 (by omega) Hall.out]), rfl⟩
end Go.Proofs.YtjdbfokbgmbphaaGreatDoor
