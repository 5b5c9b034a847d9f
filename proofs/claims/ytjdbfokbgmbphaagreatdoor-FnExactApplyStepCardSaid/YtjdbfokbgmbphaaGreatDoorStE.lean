/- The reference's stEmpty: the fields that a kind does not name are zero. Condition: the line's length is at most 2^20. -/
import Derived.Test.YtjdbfokbgmbphaaGreatDoorPlain
namespace Go.Proofs.YtjdbfokbgmbphaaGreatDoor
set_option linter.unusedVariables false
set_option linter.unusedSimpArgs false
open Go.RowKit

theorem cast0 (n : Nat) : ((n : Int) == 0) = (n == 0) := by rw [Bool.eq_iff_iff]; simp
set_option maxHeartbeats 4000000 in
theorem stEmpty_any (k a b c : Int) (A : Option Addr) (n cap : Nat) (w : World) (hn : n ≤ 1048576) :
    Calls Tryz.prog 81 #[.agg #[.int .i64 k, .int .i64 a, .int .i64 b, .int .i64 c, .slice A n cap]] w fun e w' => e = .returned (.bool (emB k a b c n)) ∧ Below w.heap.size w w' := by
  by_cases h1 : k = 1
  · subst h1
    go_enter Tryz.func81, Tryz.ntmps81
    go_wp2
    all_goals
      go_ret
      exact ⟨ret_bool (by simp [emB, cast0, *]), (Below.refl _ _).alloc (Nat.le_refl _) _⟩
  by_cases h2 : k = 2
  · subst h2
    go_enter Tryz.func81, Tryz.ntmps81
    go_wp2
    all_goals
      go_ret
      exact ⟨ret_bool (by simp [emB, cast0, *]), (Below.refl _ _).alloc (Nat.le_refl _) _⟩
  by_cases h3 : k = 3
  · subst h3
    go_enter Tryz.func81, Tryz.ntmps81
    go_wp2
    all_goals
      go_ret
      exact ⟨ret_bool (by simp [emB, cast0, *]), (Below.refl _ _).alloc (Nat.le_refl _) _⟩
  by_cases h4 : k = 4
  · subst h4
    go_enter Tryz.func81, Tryz.ntmps81
    go_wp2
    all_goals
      go_ret
      exact ⟨ret_bool (by simp [emB, cast0, *]), (Below.refl _ _).alloc (Nat.le_refl _) _⟩
  by_cases h5 : k = 5
  · subst h5
    go_enter Tryz.func81, Tryz.ntmps81
    go_wp2
    all_goals
      go_ret
      exact ⟨ret_bool (by simp [emB, cast0, *]), (Below.refl _ _).alloc (Nat.le_refl _) _⟩
  by_cases h6 : k = 6
  · subst h6
    go_enter Tryz.func81, Tryz.ntmps81
    go_wp2
    all_goals
      go_ret
      exact ⟨ret_bool (by simp [emB, cast0, *]), (Below.refl _ _).alloc (Nat.le_refl _) _⟩
  by_cases h7 : k = 7
  · subst h7
    go_enter Tryz.func81, Tryz.ntmps81
    go_wp2
    all_goals
      go_ret
      exact ⟨ret_bool (by simp [emB, cast0, *]), (Below.refl _ _).alloc (Nat.le_refl _) _⟩
  by_cases h8 : k = 8
  · subst h8
    go_enter Tryz.func81, Tryz.ntmps81
    go_wp2
    all_goals
      go_ret
      exact ⟨ret_bool (by simp [emB, cast0, *]), (Below.refl _ _).alloc (Nat.le_refl _) _⟩
  by_cases h9 : k = 9
  · subst h9
    go_enter Tryz.func81, Tryz.ntmps81
    go_wp2
    all_goals
      go_ret
      exact ⟨ret_bool (by simp [emB, cast0, *]), (Below.refl _ _).alloc (Nat.le_refl _) _⟩
  have e2 : (k == 2) = false := by simpa using h2
  have e3 : (k == 3) = false := by simpa using h3
  have e7 : (k == 7) = false := by simpa using h7
  have n8 : (k != 8) = true := by simpa using h8
  have n9 : (k != 9) = true := by simpa using h9
  have n2 : (k != 2) = true := by simpa using h2
  have n4 : (k != 4) = true := by simpa using h4
  have n5 : (k != 5) = true := by simpa using h5
  have HH := Lib.hid (And.intro h2 (And.intro h3 (And.intro h7 (And.intro h8 (And.intro h9 (And.intro h4 h5))))))
  clear h1 h2 h3 h4 h5 h6 h7 h8 h9
  go_enter Tryz.func81, Tryz.ntmps81
  go_wp2
  all_goals
    go_ret
    obtain ⟨h2, h3, h7, h8, h9, h4, h5⟩ := HH.out
    exact ⟨ret_bool (by simp [emB, cast0, *]), (Below.refl _ _).alloc (Nat.le_refl _) _⟩
end Go.Proofs.YtjdbfokbgmbphaaGreatDoor
