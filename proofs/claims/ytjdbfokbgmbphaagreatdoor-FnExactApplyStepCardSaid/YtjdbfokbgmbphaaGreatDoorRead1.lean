/- The readers of numbers, vectors and systems: within, isElement, isVector, areVectors, isField and their like in the reference. Conditions: lengths of at most maxLen. -/
import Derived.Test.YtjdbfokbgmbphaaGreatDoorBase
namespace Go.Proofs.YtjdbfokbgmbphaaGreatDoor
set_option linter.unusedVariables false
set_option linter.unusedSimpArgs false
open Go.RowKit

theorem within_any (n lo hi : Int) (w : World) :
    Calls Tryz.prog 90 #[.int .i64 n, .int .i64 lo, .int .i64 hi] w fun e w' => e = .returned (.bool (inB n lo hi)) ∧ w = w' := by
  unfold inB
  by_cases h1 : lo ≤ n <;> by_cases h2 : n ≤ hi
  all_goals
    go_enter Tryz.func90, Tryz.ntmps90
    go_wp2
    go_ret
    exact ⟨by simp [h1, h2], rfl⟩
theorem l1In_any (n lo hi : Int) (w : World) :
    Calls Tryz.prog 79 #[.int .i64 n, .int .i64 lo, .int .i64 hi] w fun e w' => e = .returned (.bool (inB n lo hi)) ∧ w = w' := by
  unfold inB
  by_cases h1 : lo ≤ n <;> by_cases h2 : n ≤ hi
  all_goals
    go_enter Tryz.func79, Tryz.ntmps79
    go_wp2
    go_ret
    exact ⟨by simp [h1, h2], rfl⟩
theorem isElement_any (p a : Int) (w : World) :
    Calls Tryz.prog 125 #[.int .i64 p, .int .i64 a] w fun e w' => e = .returned (.bool (elemB p a)) ∧ w = w' := by
  unfold elemB
  by_cases h1 : 0 ≤ a <;> by_cases h2 : a < p
  all_goals
    go_enter Tryz.func125, Tryz.ntmps125
    go_wp2
    go_ret
    exact ⟨by simp [h1, h2], rfl⟩

set_option maxHeartbeats 400000 in
theorem isVector_any (p n : Int) (A : Option Addr) (cap : Nat) (xs : List Int) (w : World) (h : IntsAt w A xs) (hm : xs.length ≤ maxLen) :
    Calls Tryz.prog 110 #[.int .i64 p, .slice A xs.length cap, .int .i64 n] w fun e w' => e = .returned (.bool (vecB p xs n)) ∧ w = w' := by
  unfold maxLen at hm
  by_cases hn : (xs.length : Int) = n
  · have hb : ((xs.length : Int) != n) = false := by simp [hn]
    have Hn := Lib.hid hn; clear hn
    go_enter Tryz.func110, Tryz.ntmps110
    go_wp2
    go_loop [15] (fun i => ∃ k : Nat, k ≤ xs.length ∧ i = .int .i64 k ∧ (xs.take k).all (elemB p) = true) (fun i => xs.length - (intOf i).toNat)
    case atStart => exact ⟨0, Nat.zero_le _, rfl, by simp⟩
    case round =>
      obtain ⟨k, hk, rfl, hall⟩ := hrel
      have Hall := Lib.hid hall; clear hall
      by_cases hlt : k < xs.length
      · obtain ⟨x, hx⟩ := get_of_lt hlt
        obtain ⟨b, o, rfl, hc⟩ := h.here hlt
        have hck := hc k x hx
        have Hx := Lib.hid hx; clear hx hc h
        cases hf : elemB p x
        · go_wp2_with (go_at_call 125; refine (isElement_any _ _ _).mono ?_; rintro e w' ⟨rfl, rfl⟩; rw [hf])
          go_ret
          exact ⟨by rw [vecB, all_false _ _ _ _ Hx.out hf]; simp, rfl⟩
        · go_wp2_with (go_at_call 125; refine (isElement_any _ _ _).mono ?_; rintro e w' ⟨rfl, rfl⟩; rw [hf])
          go_round
          case rel => exact ⟨k+1, by omega, by go_num, by rw [all_take_succ _ _ _ _ Hx.out, Hall.out, hf]; rfl⟩
          case measure => simp [intOf]; omega
      · go_wp2
        go_ret
        exact ⟨by rw [vecB, ← Hn.out, all_of_take _ _ _ Hall.out (by omega)]; simp, rfl⟩
  · have hb : ((xs.length : Int) != n) = true := by simp [hn]
    go_enter Tryz.func110, Tryz.ntmps110
    go_wp2
    go_ret
    exact ⟨by simp [vecB, hn], rfl⟩

set_option maxHeartbeats 400000 in
theorem areVectors_any (p n : Int) (A : Option Addr) (cap : Nat) (rows : List (List Int)) (w : World) (h : RowsAt w A rows) (hm : rows.length ≤ maxLen) (hms : ∀ r ∈ rows, r.length ≤ maxLen) :
    Calls Tryz.prog 91 #[.int .i64 p, .slice A rows.length cap, .int .i64 n] w fun e w' => e = .returned (.bool (rowsB p rows n)) ∧ w = w' := by
  unfold maxLen at hm
  go_enter Tryz.func91, Tryz.ntmps91
  go_wp2
  go_loop [11] (fun i => ∃ k : Nat, k ≤ rows.length ∧ i = .int .i64 k ∧ (rows.take k).all (fun r => vecB p r n) = true) (fun i => rows.length - (intOf i).toNat)
  case atStart => exact ⟨0, Nat.zero_le _, rfl, by simp⟩
  case round =>
    obtain ⟨k, hk, rfl, hall⟩ := hrel
    have Hall := Lib.hid hall; clear hall
    by_cases hlt : k < rows.length
    · obtain ⟨r, hr⟩ := get_of_lt hlt
      obtain ⟨b, o, rfl, hc⟩ := h.here hlt
      obtain ⟨A', cap', hck, hin⟩ := hc k r hr
      have hrm := hms r (List.mem_of_getElem? hr)
      have Hr := Lib.hid hr; clear hr hc h hms
      cases hf : vecB p r n
      · go_wp2_with (go_at_call 110; refine (isVector_any _ _ _ _ _ _ hin hrm).mono ?_; rintro e w' ⟨rfl, rfl⟩; rw [hf])
        go_ret
        exact ⟨ret_bool (by rw [rowsB, all_false _ _ _ _ Hr.out hf]), rfl⟩
      · go_wp2_with (go_at_call 110; refine (isVector_any _ _ _ _ _ _ hin hrm).mono ?_; rintro e w' ⟨rfl, rfl⟩; rw [hf])
        go_round
        case rel => exact ⟨k+1, by omega, by go_num, by rw [all_take_succ _ _ _ _ Hr.out, Hall.out, hf]; rfl⟩
        case measure => simp [intOf]; omega
    · go_wp2
      go_ret
      exact ⟨ret_bool (by rw [rowsB, all_of_take _ _ _ Hall.out (by omega)]), rfl⟩

set_option maxHeartbeats 400000 in
theorem l1All_any (lo hi : Int) (A : Option Addr) (cap : Nat) (xs : List Int) (w : World) (h : IntsAt w A xs) (hm : xs.length ≤ maxLen) :
    Calls Tryz.prog 82 #[.slice A xs.length cap, .int .i64 lo, .int .i64 hi] w fun e w' => e = .returned (.bool (xs.all fun x => inB x lo hi)) ∧ w = w' := by
  unfold maxLen at hm
  go_enter Tryz.func82, Tryz.ntmps82
  go_wp2
  go_loop [11] (fun i => ∃ k : Nat, k ≤ xs.length ∧ i = .int .i64 k ∧ (xs.take k).all (fun x => inB x lo hi) = true) (fun i => xs.length - (intOf i).toNat)
  case atStart => exact ⟨0, Nat.zero_le _, rfl, by simp⟩
  case round =>
    obtain ⟨k, hk, rfl, hall⟩ := hrel
    have Hall := Lib.hid hall; clear hall
    by_cases hlt : k < xs.length
    · obtain ⟨x, hx⟩ := get_of_lt hlt
      obtain ⟨b, o, rfl, hc⟩ := h.here hlt
      have hck := hc k x hx
      have Hx := Lib.hid hx; clear hx hc h
      cases hf : inB x lo hi
      · go_wp2_with (go_at_call 79; refine (l1In_any _ _ _ _).mono ?_; rintro e w' ⟨rfl, rfl⟩; rw [hf])
        go_ret
        exact ⟨ret_bool (by rw [all_false _ _ _ _ Hx.out hf]), rfl⟩
      · go_wp2_with (go_at_call 79; refine (l1In_any _ _ _ _).mono ?_; rintro e w' ⟨rfl, rfl⟩; rw [hf])
        go_round
        case rel => exact ⟨k+1, by omega, by go_num, by rw [all_take_succ _ _ _ _ Hx.out, Hall.out, hf]; rfl⟩
        case measure => simp [intOf]; omega
    · go_wp2
      go_ret
      exact ⟨ret_bool (by rw [all_of_take _ _ _ Hall.out (by omega)]), rfl⟩

theorem fdIn_any (p : Int) (A : Option Addr) (cap : Nat) (xs : List Int) (w : World) (h : IntsAt w A xs) (hm : xs.length ≤ maxLen) (hp : 2 ≤ p) (hp' : p ≤ 97) :
    Calls Tryz.prog 85 #[.int .i64 p, .slice A xs.length cap] w fun e w' => e = .returned (.bool (xs.all (elemB p))) ∧ w = w' := by
  have e : ∀ x, inB x 0 (p - 1) = elemB p x := fun x => by
    unfold inB elemB
    congr 1
    exact decide_eq_decide.2 (by omega)
  have E := Lib.hid e; clear e
  go_enter Tryz.func85, Tryz.ntmps85
  go_wp2_with (go_at_call 82; refine (l1All_any _ _ _ _ _ _ h hm).mono ?_; rintro e w' ⟨rfl, rfl⟩)
  go_ret
  exact ⟨ret_bool (by congr 1; funext x; exact E.out x), rfl⟩

set_option maxHeartbeats 400000 in
theorem spRows_any (p n : Int) (A : Option Addr) (cap : Nat) (rows : List (List Int)) (w : World) (h : RowsAt w A rows) (hm : rows.length ≤ maxLen) (hms : ∀ r ∈ rows, r.length ≤ maxLen) (hp : 2 ≤ p) (hp' : p ≤ 97) :
    Calls Tryz.prog 80 #[.int .i64 p, .int .i64 n, .slice A rows.length cap] w fun e w' => e = .returned (.bool (rowsB p rows n)) ∧ w = w' := by
  unfold maxLen at hm
  go_enter Tryz.func80, Tryz.ntmps80
  go_wp2
  go_loop [11] (fun i => ∃ k : Nat, k ≤ rows.length ∧ i = .int .i64 k ∧ (rows.take k).all (fun r => vecB p r n) = true) (fun i => rows.length - (intOf i).toNat)
  case atStart => exact ⟨0, Nat.zero_le _, rfl, by simp⟩
  case round =>
    obtain ⟨k, hk, rfl, hall⟩ := hrel
    have Hall := Lib.hid hall; clear hall
    by_cases hlt : k < rows.length
    · obtain ⟨r, hr⟩ := get_of_lt hlt
      obtain ⟨b, o, rfl, hc⟩ := h.here hlt
      obtain ⟨A', cap', hck, hin⟩ := hc k r hr
      have hrm := hms r (List.mem_of_getElem? hr)
      have Hr := Lib.hid hr; clear hr hc h hms
      by_cases hn : (r.length : Int) = n
      · have hb : ((r.length : Int) != n) = false := by simp [hn]
        have Hn := Lib.hid hn; clear hn
        cases hf : r.all (elemB p)
        · go_wp2_with (go_at_call 85; refine (fdIn_any _ _ _ _ _ hin hrm hp hp').mono ?_; rintro e w' ⟨rfl, rfl⟩; rw [hf])
          go_ret
          exact ⟨ret_bool (by rw [rowsB, all_false _ _ _ _ Hr.out (by rw [vecB, hf]; simp)]), rfl⟩
        · go_wp2_with (go_at_call 85; refine (fdIn_any _ _ _ _ _ hin hrm hp hp').mono ?_; rintro e w' ⟨rfl, rfl⟩; rw [hf])
          go_round
          case rel => exact ⟨k+1, by omega, by go_num, by rw [all_take_succ _ _ _ _ Hr.out, Hall.out, vecB, hf, Hn.out]; simp⟩
          case measure => simp [intOf]; omega
      · have hb : ((r.length : Int) != n) = true := by simp [hn]
        go_wp2
        go_ret
        exact ⟨ret_bool (by rw [rowsB, all_false _ _ _ _ Hr.out (by rw [vecB]; simp [hn])]), rfl⟩
    · go_wp2
      go_ret
      exact ⟨ret_bool (by rw [rowsB, all_of_take _ _ _ Hall.out (by omega)]), rfl⟩
end Go.Proofs.YtjdbfokbgmbphaaGreatDoor
