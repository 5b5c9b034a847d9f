/- Two systems (two steps) that read alike are told to be equal. Conditions: lengths of at most maxLen. -/
import Derived.Test.YtjdbfokbgmbphaaDoorLaw1
namespace Go.Proofs.YtjdbfokbgmbphaaDoor
set_option linter.unusedVariables false
set_option linter.unusedSimpArgs false
open Go.RowKit

set_option maxHeartbeats 1000000 in
theorem eqSystem_same (v h : Int) (A A2 : Option Addr) (cap cap2 : Nat) (rows : List (List Int)) (w : World) (h1 : RowsAt w A rows) (h2 : RowsAt w A2 rows) (hm : rows.length ≤ maxLen) (hms : ∀ r ∈ rows, r.length ≤ maxLen) :
    Calls Tryd.prog 10 #[.agg #[.int .i64 v, .int .i64 h, .slice A rows.length cap], .agg #[.int .i64 v, .int .i64 h, .slice A2 rows.length cap2]] w fun e w' => e = .returned (.bool true) ∧ Below w.heap.size w w' := by
  have hB := ((Below.refl w.heap.size w).alloc (by simp) (.cells #[.int .i64 v, .int .i64 h, .slice A rows.length cap] 32)).alloc (by simp) (.cells #[.int .i64 v, .int .i64 h, .slice A2 rows.length cap2] 32)
  have HB := Lib.hid hB
  have g1 := h1.ext hB
  have g2 := h2.ext hB
  clear hB h1 h2
  have F := Lib.hid (decide_eq_true (rfl : rows = rows))
  go_enter Tryd.func10, Tryd.ntmps10
  go_wp2_with ((go_at_call 20; refine (Calls.bool_eq' (eqIntSS_any _ _ _ _ _ _ _ g1 g2 hm hm hms hms) F.out).mono ?_; rintro e w' ⟨rfl, hb⟩; have Hb := Lib.hid hb; clear hb))
  go_ret
  exact ⟨rfl, HB.out.trans (Hb.out.mono (by simp <;> omega))⟩

set_option maxHeartbeats 1000000 in
theorem eqStep_same (k a b c : Int) (A A2 : Option Addr) (cap cap2 : Nat) (xs : List Int) (w : World) (h1 : IntsAt w A xs) (h2 : IntsAt w A2 xs) (hm : xs.length ≤ maxLen) :
    Calls Tryd.prog 11 #[.agg #[.int .i64 k, .int .i64 a, .int .i64 b, .int .i64 c, .slice A xs.length cap], .agg #[.int .i64 k, .int .i64 a, .int .i64 b, .int .i64 c, .slice A2 xs.length cap2]] w fun e w' => e = .returned (.bool true) ∧ Below w.heap.size w w' := by
  have hB := ((Below.refl w.heap.size w).alloc (by simp) (.cells #[.int .i64 k, .int .i64 a, .int .i64 b, .int .i64 c, .slice A xs.length cap] 34)).alloc (by simp) (.cells #[.int .i64 k, .int .i64 a, .int .i64 b, .int .i64 c, .slice A2 xs.length cap2] 34)
  have HB := Lib.hid hB
  have g1 := h1.ext hB
  have g2 := h2.ext hB
  clear hB h1 h2
  have F := Lib.hid (decide_eq_true (rfl : xs = xs))
  go_enter Tryd.func11, Tryd.ntmps11
  go_wp2_with ((go_at_call 21; refine (Calls.bool_eq' (eqIntS_any _ _ _ _ _ _ _ g1 g2 hm hm) F.out).mono ?_; rintro e w' ⟨rfl, hb⟩; have Hb := Lib.hid hb; clear hb))
  go_ret
  exact ⟨rfl, HB.out.trans (Hb.out.mono (by simp <;> omega))⟩
end Go.Proofs.YtjdbfokbgmbphaaDoor
