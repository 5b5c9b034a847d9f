/- Two systems (two steps) that read alike are told to be equal. Conditions: lengths of at most maxLen. -/
import Derived.Test.YtjdbfokbgmbphaaGreatDoorLaw1
namespace Go.Proofs.YtjdbfokbgmbphaaGreatDoor
set_option linter.unusedVariables false
set_option linter.unusedSimpArgs false
open Go.RowKit

set_option maxHeartbeats 1000000 in
theorem eqSystem_same (v h : Int) (A A2 : Option Addr) (cap cap2 : Nat) (rows : List (List Int)) (w : World) (h1 : RowsAt w A rows) (h2 : RowsAt w A2 rows) (hm : rows.length ≤ maxLen) (hms : ∀ r ∈ rows, r.length ≤ maxLen) :
    Calls Tryz.prog 18 #[.agg #[.int .i64 v, .int .i64 h, .slice A rows.length cap], .agg #[.int .i64 v, .int .i64 h, .slice A2 rows.length cap2]] w fun e w' => e = .returned (.bool true) ∧ Below w.heap.size w w' := by
  have hB := ((Below.refl w.heap.size w).alloc (by simp) (.cells #[.int .i64 v, .int .i64 h, .slice A rows.length cap] 30)).alloc (by simp) (.cells #[.int .i64 v, .int .i64 h, .slice A2 rows.length cap2] 30)
  have HB := Lib.hid hB
  have g1 := h1.ext hB
  have g2 := h2.ext hB
  clear hB h1 h2
  have F := Lib.hid (decide_eq_true (rfl : rows = rows))
  go_enter Tryz.func18, Tryz.ntmps18
  go_wp2_with ((go_at_call 54; refine (Calls.bool_eq' (eqIntSS_any _ _ _ _ _ _ _ g1 g2 hm hm hms hms) F.out).mono ?_; rintro e w' ⟨rfl, hb⟩; have Hb := Lib.hid hb; clear hb))
  go_ret
  exact ⟨rfl, HB.out.trans (Hb.out.mono (by simp <;> omega))⟩

set_option maxHeartbeats 1000000 in
theorem eqStep_same (k a b c : Int) (A A2 : Option Addr) (cap cap2 : Nat) (xs : List Int) (w : World) (h1 : IntsAt w A xs) (h2 : IntsAt w A2 xs) (hm : xs.length ≤ maxLen) :
    Calls Tryz.prog 19 #[.agg #[.int .i64 k, .int .i64 a, .int .i64 b, .int .i64 c, .slice A xs.length cap], .agg #[.int .i64 k, .int .i64 a, .int .i64 b, .int .i64 c, .slice A2 xs.length cap2]] w fun e w' => e = .returned (.bool true) ∧ Below w.heap.size w w' := by
  have hB := ((Below.refl w.heap.size w).alloc (by simp) (.cells #[.int .i64 k, .int .i64 a, .int .i64 b, .int .i64 c, .slice A xs.length cap] 34)).alloc (by simp) (.cells #[.int .i64 k, .int .i64 a, .int .i64 b, .int .i64 c, .slice A2 xs.length cap2] 34)
  have HB := Lib.hid hB
  have g1 := h1.ext hB
  have g2 := h2.ext hB
  clear hB h1 h2
  have F := Lib.hid (decide_eq_true (rfl : xs = xs))
  go_enter Tryz.func19, Tryz.ntmps19
  go_wp2_with ((go_at_call 55; refine (Calls.bool_eq' (eqIntS_any _ _ _ _ _ _ _ g1 g2 hm hm) F.out).mono ?_; rintro e w' ⟨rfl, hb⟩; have Hb := Lib.hid hb; clear hb))
  go_ret
  exact ⟨rfl, HB.out.trans (Hb.out.mono (by simp <;> omega))⟩
end Go.Proofs.YtjdbfokbgmbphaaGreatDoor
