/- impl.CanStep and the reference's CanStep: whether the system is valid, and whether the step's condition holds. Conditions: lengths; the table of primes is laid. -/
import Derived.Test.YtjdbfokbgmbphaaDoorMk
import Derived.Test.YtjdbfokbgmbphaaDoorStC
namespace Go.Proofs.YtjdbfokbgmbphaaDoor
set_option linter.unusedVariables false
set_option linter.unusedSimpArgs false
open Go.RowKit

/-- What CanStep answers. -/
def CanPost (p v h k a b c : Int) (rows : List (List Int)) (row : List Int) (w : World) (e : Ending) (w' : World) : Prop :=
  e = .returned (.tuple #[.bool (sysB p v h rows && stB p v h rows k a b c row), .bool (sysB p v h rows)]) ∧ Below w.heap.size w w'

set_option maxHeartbeats 2000000 in
theorem implCan_any (p v h k a b c : Int) (A : Option Addr) (cap : Nat) (rows : List (List Int)) (w : World) (XA : Option Addr) (row : List Int) (xcap : Nat) (hP : Primes w) (hR : RowsAt w A rows) (hX : IntsAt w XA row)
    (hm : rows.length ≤ maxLen) (hms : ∀ r ∈ rows, r.length ≤ maxLen) (hrow : row.length ≤ 1048576) :
    Calls Tryd.prog 9 #[.int .i64 p, .agg #[.int .i64 v, .int .i64 h, .slice A rows.length cap], .agg #[.int .i64 k, .int .i64 a, .int .i64 b, .int .i64 c, .slice XA row.length xcap]] w (CanPost p v h k a b c rows row w) := by
  have HM := Lib.hid hm; have HMS := Lib.hid hms; have HROW := Lib.hid hrow
  clear hm hms hrow
  have hB : Below w.heap.size w ((w.alloc (.cells #[.int .i64 v, .int .i64 h, .slice A rows.length cap] 32)).alloc (.cells #[.int .i64 k, .int .i64 a, .int .i64 b, .int .i64 c, .slice XA row.length xcap] 34)) := ((Below.refl w.heap.size w).alloc (by simp) _).alloc (by simp) _
  have HB := Lib.hid hB
  have HSYS := Lib.hid (isSystem_any p v h A cap rows _ (hP.ext hB) (hR.ext hB) HM.out HMS.out)
  have HP := Lib.hid hP; have HR := Lib.hid hR; have HX := Lib.hid hX
  clear hB hP hR hX
  go_enter Tryd.func9, Tryd.ntmps9
  cases hs : sysB p v h rows with
  | false =>
    have HS := Lib.hid hs
    rw [hs] at HSYS
    clear hs
    go_wp2_with (go_at_call 18; refine HSYS.out.mono ?_; rintro e w1 ⟨rfl, hb1⟩; have HB1 := Lib.hid hb1; clear hb1)
    refine bodyPost_ret (v := .tuple #[.bool false, .bool false]) (by simp [results, Tryd.results9, go_sem]) rfl ⟨by rw [HS.out]; rfl, ?_⟩
    exact HB.out.trans (HB1.out.mono (by simp <;> omega))
  | true =>
    have HS := Lib.hid hs
    rw [hs] at HSYS
    clear hs
    go_wp2_with (first | (go_at_call 18; refine HSYS.out.mono ?_; rintro e w1 ⟨rfl, hb1⟩; have hbw := HB.out.trans (hb1.mono (B' := w.heap.size) (by simp <;> omega)); have HB1 := Lib.hid hbw; obtain ⟨c0, c1, c2, _⟩ := box3 hb1 (b := w.heap.size) ((heap_past _ _ (by simp)).trans (heap_at _ _ rfl)); obtain ⟨⟨d0, d1, d2, d3, d4⟩, _⟩ := box5 hb1 (b := w.heap.size + 1) (heap_at _ _ (by simp)); clear hb1 hbw) | (go_at_call 19; refine (mk_any p v h k a b c A cap rows _ XA row xcap (HP.out.ext HB1.out) (HR.out.ext HB1.out) (HX.out.ext HB1.out) HROW.out (sysB_iff.1 HS.out)).mono ?_; rintro e w2 ⟨v2, h2, A2, n2, c2', rfl, _, _, hb2⟩; have HB2 := Lib.hid (below_ext HB1.out hb2); clear hb2))
    refine bodyPost_ret (v := .tuple #[.bool (stB p v h rows k a b c row), .bool true]) (by simp [results, Tryd.results9, go_sem]) rfl ⟨by rw [HS.out]; rfl, HB2.out.alloc (HB2.out.size) _⟩

set_option maxHeartbeats 2000000 in
theorem specCan_any (p v h k a b c : Int) (A : Option Addr) (cap : Nat) (rows : List (List Int)) (w : World) (XA : Option Addr) (row : List Int) (xcap : Nat) (hR : RowsAt w A rows) (hX : IntsAt w XA row)
    (hm : rows.length ≤ maxLen) (hms : ∀ r ∈ rows, r.length ≤ maxLen) (hrow : row.length ≤ 1048576) :
    Calls Tryd.prog 6 #[.int .i64 p, .agg #[.int .i64 v, .int .i64 h, .slice A rows.length cap], .agg #[.int .i64 k, .int .i64 a, .int .i64 b, .int .i64 c, .slice XA row.length xcap]] w (CanPost p v h k a b c rows row w) := by
  have HM := Lib.hid hm; have HMS := Lib.hid hms; have HROW := Lib.hid hrow
  clear hm hms hrow
  have hB : Below w.heap.size w ((w.alloc (.cells #[.int .i64 v, .int .i64 h, .slice A rows.length cap] 32)).alloc (.cells #[.int .i64 k, .int .i64 a, .int .i64 b, .int .i64 c, .slice XA row.length xcap] 34)) := ((Below.refl w.heap.size w).alloc (by simp) _).alloc (by simp) _
  have HB := Lib.hid hB
  have HSYS := Lib.hid (syGood_any p v h A cap rows _ (hR.ext hB) HM.out HMS.out)
  have HR := Lib.hid hR; have HX := Lib.hid hX
  clear hB hR hX
  go_enter Tryd.func6, Tryd.ntmps6
  cases hs : sysB p v h rows with
  | false =>
    have HS := Lib.hid hs
    rw [hs] at HSYS
    clear hs
    go_wp2_with (go_at_call 14; refine HSYS.out.mono ?_; rintro e w1 ⟨rfl, hb1⟩; have HB1 := Lib.hid hb1; clear hb1)
    refine bodyPost_ret (v := .tuple #[.bool false, .bool false]) (by simp [results, Tryd.results6, go_sem]) rfl ⟨by rw [HS.out]; rfl, ?_⟩
    exact HB.out.trans (HB1.out.mono (by simp <;> omega))
  | true =>
    have HS := Lib.hid hs
    rw [hs] at HSYS
    clear hs
    go_wp2_with (first | (go_at_call 14; refine HSYS.out.mono ?_; rintro e w1 ⟨rfl, hb1⟩; have hbw := HB.out.trans (hb1.mono (B' := w.heap.size) (by simp <;> omega)); have HB1 := Lib.hid hbw; obtain ⟨c0, c1, c2, _⟩ := box3 hb1 (b := w.heap.size) ((heap_past _ _ (by simp)).trans (heap_at _ _ rfl)); obtain ⟨⟨d0, d1, d2, d3, d4⟩, _⟩ := box5 hb1 (b := w.heap.size + 1) (heap_at _ _ (by simp)); clear hb1 hbw) | (go_at_call 15; refine (stCan_any p v h k a b c A cap rows _ XA row xcap (HR.out.ext HB1.out) (HX.out.ext HB1.out) HROW.out (sysB_iff.1 HS.out)).mono ?_; rintro e w2 ⟨rfl, hb2⟩; have HB2 := Lib.hid (below_ext HB1.out hb2); clear hb2))
    refine bodyPost_ret (v := .tuple #[.bool (stB p v h rows k a b c row), .bool true]) (by simp [results, Tryd.results6, go_sem]) rfl ⟨by rw [HS.out]; rfl, HB2.out⟩
end Go.Proofs.YtjdbfokbgmbphaaDoor
