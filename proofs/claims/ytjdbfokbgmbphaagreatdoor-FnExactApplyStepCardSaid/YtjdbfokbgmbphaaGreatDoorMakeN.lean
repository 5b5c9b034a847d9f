/- makeStep where stepOf says false: nothing is made. -/
import Derived.Test.YtjdbfokbgmbphaaGreatDoorMake
namespace Go.Proofs.YtjdbfokbgmbphaaGreatDoor
set_option linter.unusedVariables false
set_option linter.unusedSimpArgs false
open Go.RowKit

set_option maxHeartbeats 2000000 in
theorem make_not (p v h k a b c : Int) (A : Option Addr) (cap : Nat) (rows : List (List Int)) (w : World) (XA : Option Addr) (n xcap : Nat)
    (SO : ∀ W, Calls Tryz.prog 93 #[.agg #[.int .i64 k, .int .i64 a, .int .i64 b, .int .i64 c, .slice XA n xcap]] W fun e w' => e = .returned (.tuple #[.nilIface, .bool false]) ∧ Below W.heap.size W w') :
    Calls Tryz.prog 53 #[.int .i64 p, .agg #[.int .i64 v, .int .i64 h, .slice A rows.length cap], .agg #[.int .i64 k, .int .i64 a, .int .i64 b, .int .i64 c, .slice XA n xcap]] w fun e w' =>
      e = .returned (.tuple #[.agg #[.int .i64 0, .int .i64 0, .slice none 0 0], .bool false]) ∧ Below w.heap.size w w' := by
  have HSO := Lib.hid SO
  clear SO
  go_enter Tryz.func53, Tryz.ntmps53
  go_upto_region 2 with (go_at_call 93; refine (HSO.out _).mono ?_; rintro e w1 ⟨rfl, hb1⟩)
  have hB3 := (below_alloc3 w (.cells #[.int .i64 v, .int .i64 h, .slice A rows.length cap] 30) (.cells #[.int .i64 k, .int .i64 a, .int .i64 b, .int .i64 c, .slice XA n xcap] 34) (.cells #[.int .i64 0, .int .i64 0, .slice none 0 0] 30))
  obtain ⟨q0, q1, q2⟩ := heap_at3 w (.cells #[.int .i64 v, .int .i64 h, .slice A rows.length cap] 30) (.cells #[.int .i64 k, .int .i64 a, .int .i64 b, .int .i64 c, .slice XA n xcap] 34) (.cells #[.int .i64 0, .int .i64 0, .slice none 0 0] 30)
  have m2 := boxb hb1 q2
  have hb := hB3.trans (hb1.mono (B' := w.heap.size) (by simp <;> omega))
  have hsz := hb1.size
  simp only [World.size_alloc] at hsz
  obtain ⟨g0, g1, g2, g3, g4, g5⟩ := cells3 m2
  have HB := Lib.hid hb
  clear q0 q1 q2 m2 hb hb1 hB3
  go_wp2
  refine bodyPost_ret (v := .tuple #[.agg #[.int .i64 0, .int .i64 0, .slice none 0 0], .bool false]) (by simp [results, Tryz.results53, go_sem, *]) rfl ⟨rfl, ?_⟩
  exact ((HB.out.setCell (by simp <;> omega) _).setCell (by simp <;> omega) _).setCell (by simp <;> omega) _
end Go.Proofs.YtjdbfokbgmbphaaGreatDoor
