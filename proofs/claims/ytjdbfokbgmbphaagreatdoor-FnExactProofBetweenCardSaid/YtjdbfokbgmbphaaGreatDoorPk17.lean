/- The reference's stCan in a valid system, kind by kind. Condition: the system is valid, the step's line is at most 2^20 long. -/
import Derived.Test.YtjdbfokbgmbphaaGreatDoorPk16
namespace Go.Proofs.YtjdbfokbgmbphaaGreatDoor
set_option linter.unusedVariables false
set_option linter.unusedSimpArgs false
open Go.RowKit
theorem quiet_left {P : Program} {f : FuncId} {args : Array Value} {w : World} {n : Nat} {v : Value}
  (h : Calls P f args (w.drewN n) fun e w' => e = .returned v ∧ w.drewN n = w') : Calls P f args (w.drewN n) fun e w'' => e = .returned v ∧ ∃ m, w'' = w.drewN m :=
 h.mono fun _ _ ⟨he, hm⟩ => ⟨he, n, hm.symm⟩
theorem quiet_add_left {P : Program} {f : FuncId} {args : Array Value} {w : World} {a n : Nat} {v : Value}
  (h : Calls P f args (w.drewN (a + n)) fun e w' => e = .returned v ∧ w.drewN (a + n) = w') :
  Calls P f args (w.drewN (a + n)) fun e w'' => e = .returned v ∧ ∃ m, w'' = w.drewN (a + m) :=
 h.mono fun _ _ ⟨he, hm⟩ => ⟨he, n, hm.symm⟩
/-- A system and a step, boxed, then draws and a call that makes memory: what was boxed is still there. -/
theorem cells_at {w w1 : World} {x0 x1 x2 y0 y1 y2 y3 y4 : Value} {t1 t2 : TypeId} {n : Nat}
  (hb : Below (((w.alloc (.cells #[x0, x1, x2] t1)).alloc (.cells #[y0, y1, y2, y3, y4] t2)).drewN n).heap.size (((w.alloc (.cells #[x0, x1, x2] t1)).alloc (.cells #[y0, y1, y2, y3, y4] t2)).drewN n) w1) :
  Below w.heap.size w w1 ∧ (w1.cell? ⟨w.heap.size, 0, none⟩ = some x0 ∧ w1.cell? ⟨w.heap.size, 1, none⟩ = some x1 ∧ w1.cell? ⟨w.heap.size, 2, none⟩ = some x2) ∧
  (w1.cell? ⟨w.heap.size + 1, 0, none⟩ = some y0 ∧ w1.cell? ⟨w.heap.size + 1, 1, none⟩ = some y1 ∧ w1.cell? ⟨w.heap.size + 1, 2, none⟩ = some y2 ∧ w1.cell? ⟨w.heap.size + 1, 3, none⟩ = some y3 ∧ w1.cell? ⟨w.heap.size + 1, 4, none⟩ = some y4) := by
 have h0 := drewN_below ((w.alloc (.cells #[x0, x1, x2] t1)).alloc (.cells #[y0, y1, y2, y3, y4] t2)) n
 have h1 := h0.trans (hb.mono h0.size)
 have q1 : ((w.alloc (.cells #[x0, x1, x2] t1)).alloc (.cells #[y0, y1, y2, y3, y4] t2)).heap[w.heap.size]? = some (.cells #[x0, x1, x2] t1 (0, 0)) := (heap_past _ _ (by simp)).trans (heap_at _ _ rfl)
 have q2 : ((w.alloc (.cells #[x0, x1, x2] t1)).alloc (.cells #[y0, y1, y2, y3, y4] t2)).heap[w.heap.size + 1]? = some (.cells #[y0, y1, y2, y3, y4] t2 (0, 0)) := heap_at _ _ (by simp)
 obtain ⟨a0, a1, a2, _⟩ := box3 h1 q1
 obtain ⟨⟨b0, b1, b2, b3, b4⟩, _⟩ := box5 h1 q2
 exact ⟨(((Below.refl w.heap.size w).alloc (by simp) _).alloc (by simp) _).trans (h1.mono (by simp <;> omega)), ⟨a0, a1, a2⟩, ⟨b0, b1, b2, b3, b4⟩⟩
theorem cast_lt160 (n : Nat) : decide ((n : Int) < 160) = decide (n < 160) := by rw [Bool.eq_iff_iff]; simp; omega
set_option maxRecDepth 100000 in
set_option maxHeartbeats 8000000 in
theorem stCan_swap (p v h a b c : Int) (A : Option Addr) (cap : Nat) (rows : List (List Int)) (w : World) (XA : Option Addr) (row : List Int) (xcap : Nat) (hR : RowsAt w A rows) (hX : IntsAt w XA row) (hrow : row.length ≤ 1048576) (s : Sys p v h rows) :
  Calls Tryz.prog 48 #[.int .i64 p, .agg #[.int .i64 v, .int .i64 h, .slice A rows.length cap], .agg #[.int .i64 1, .int .i64 a, .int .i64 b, .int .i64 c, .slice XA row.length xcap]] w fun e w' => e = .returned (.bool (stB p v h rows 1 a b c row)) ∧ Below w.heap.size w w' := by
 have hn := s.n; have hp := s.p2; have hp' := s.p97; have hv := s.v0; have hv' := s.v24; have hh := s.h0; have hh' := s.h100
 have S := Lib.hid s; have HR := Lib.hid hR; have HX := Lib.hid hX; have HROW := Lib.hid hrow
 have HML := Lib.hid (show rows.length ≤ maxLen by unfold maxLen; omega)
 have HRL := Lib.hid (show row.length ≤ maxLen by unfold maxLen; omega)
 clear s hR hX hrow
 cases he : emB 1 a b c row.length with
 | false =>
  have HE := Lib.hid he; clear he
  go_enter Tryz.func48, Tryz.ntmps48
  go_wp2
  go_quiet ((go_at_call 79; exact quiet_left (l1In_any _ _ _ _)))
  go_wp2
  go_quiet ((go_at_call 79; first | exact quiet_left (l1In_any _ _ _ _) | exact quiet_add_left (l1In_any _ _ _ _)))
  go_wp2_with (first | (go_at_call 79; refine (l1In_any _ _ _ _).mono ?_; rintro e w' ⟨rfl, rfl⟩) | (go_at_call 81; refine (Calls.bool_eq' (stEmpty_any _ _ _ _ _ _ _ _ HROW.out) HE.out).mono ?_; rintro e w1 ⟨rfl, hb1⟩; obtain ⟨hbw, ⟨c0, c1, c2⟩, ⟨d0, d1, d2, d3, d4⟩⟩ := cells_at hb1; have HB1 := Lib.hid hbw; clear hbw hb1))
  all_goals
   go_ret
   exact ⟨ret_bool (by rw [stB, HE.out]; rfl), HB1.out⟩
 | true =>
  have HE := Lib.hid he; clear he
  go_enter Tryz.func48, Tryz.ntmps48
  go_wp2
  go_quiet ((go_at_call 79; exact quiet_left (l1In_any _ _ _ _)))
  go_wp2
  go_quiet ((go_at_call 79; first | exact quiet_left (l1In_any _ _ _ _) | exact quiet_add_left (l1In_any _ _ _ _)))
  go_wp2_with (first | (go_at_call 79; refine (l1In_any _ _ _ _).mono ?_; rintro e w' ⟨rfl, rfl⟩) | (go_at_call 81; refine (Calls.bool_eq' (stEmpty_any _ _ _ _ _ _ _ _ HROW.out) HE.out).mono ?_; rintro e w1 ⟨rfl, hb1⟩; obtain ⟨hbw, ⟨c0, c1, c2⟩, ⟨d0, d1, d2, d3, d4⟩⟩ := cells_at hb1; have HB1 := Lib.hid hbw; clear hbw hb1))
  all_goals
   go_ret
   exact ⟨ret_bool (by simp [stB, HE.out, cast_lt160, *]), HB1.out⟩
set_option maxRecDepth 100000 in
set_option maxHeartbeats 8000000 in
theorem stCan_scale (p v h a b c : Int) (A : Option Addr) (cap : Nat) (rows : List (List Int)) (w : World) (XA : Option Addr) (row : List Int) (xcap : Nat) (hR : RowsAt w A rows) (hX : IntsAt w XA row) (hrow : row.length ≤ 1048576) (s : Sys p v h rows) :
  Calls Tryz.prog 48 #[.int .i64 p, .agg #[.int .i64 v, .int .i64 h, .slice A rows.length cap], .agg #[.int .i64 2, .int .i64 a, .int .i64 b, .int .i64 c, .slice XA row.length xcap]] w fun e w' => e = .returned (.bool (stB p v h rows 2 a b c row)) ∧ Below w.heap.size w w' := by
 have hn := s.n; have hp := s.p2; have hp' := s.p97; have hv := s.v0; have hv' := s.v24; have hh := s.h0; have hh' := s.h100
 have S := Lib.hid s; have HR := Lib.hid hR; have HX := Lib.hid hX; have HROW := Lib.hid hrow
 have HML := Lib.hid (show rows.length ≤ maxLen by unfold maxLen; omega)
 have HRL := Lib.hid (show row.length ≤ maxLen by unfold maxLen; omega)
 clear s hR hX hrow
 cases he : emB 2 a b c row.length with
 | false =>
  have HE := Lib.hid he; clear he
  go_enter Tryz.func48, Tryz.ntmps48
  go_wp2
  go_quiet ((go_at_call 79; exact quiet_left (l1In_any _ _ _ _)))
  go_wp2
  go_quiet ((go_at_call 79; first | exact quiet_left (l1In_any _ _ _ _) | exact quiet_add_left (l1In_any _ _ _ _)))
  go_wp2_with (first | (go_at_call 79; refine (l1In_any _ _ _ _).mono ?_; rintro e w' ⟨rfl, rfl⟩) | (go_at_call 81; refine (Calls.bool_eq' (stEmpty_any _ _ _ _ _ _ _ _ HROW.out) HE.out).mono ?_; rintro e w1 ⟨rfl, hb1⟩; obtain ⟨hbw, ⟨c0, c1, c2⟩, ⟨d0, d1, d2, d3, d4⟩⟩ := cells_at hb1; have HB1 := Lib.hid hbw; clear hbw hb1))
  all_goals
   go_ret
   exact ⟨ret_bool (by rw [stB, HE.out]; rfl), HB1.out⟩
 | true =>
  have HE := Lib.hid he; clear he
  go_enter Tryz.func48, Tryz.ntmps48
  go_wp2
  go_quiet ((go_at_call 79; exact quiet_left (l1In_any _ _ _ _)))
  go_wp2
  go_quiet ((go_at_call 79; first | exact quiet_left (l1In_any _ _ _ _) | exact quiet_add_left (l1In_any _ _ _ _)))
  go_wp2_with (first | (go_at_call 79; refine (l1In_any _ _ _ _).mono ?_; rintro e w' ⟨rfl, rfl⟩) | (go_at_call 81; refine (Calls.bool_eq' (stEmpty_any _ _ _ _ _ _ _ _ HROW.out) HE.out).mono ?_; rintro e w1 ⟨rfl, hb1⟩; obtain ⟨hbw, ⟨c0, c1, c2⟩, ⟨d0, d1, d2, d3, d4⟩⟩ := cells_at hb1; have HB1 := Lib.hid hbw; clear hbw hb1))
  all_goals
   go_ret
   exact ⟨ret_bool (by simp [stB, HE.out, cast_lt160, *]), HB1.out⟩
set_option maxRecDepth 100000 in
set_option maxHeartbeats 8000000 in
theorem stCan_add (p v h a b c : Int) (A : Option Addr) (cap : Nat) (rows : List (List Int)) (w : World) (XA : Option Addr) (row : List Int) (xcap : Nat) (hR : RowsAt w A rows) (hX : IntsAt w XA row) (hrow : row.length ≤ 1048576) (s : Sys p v h rows) :
  Calls Tryz.prog 48 #[.int .i64 p, .agg #[.int .i64 v, .int .i64 h, .slice A rows.length cap], .agg #[.int .i64 3, .int .i64 a, .int .i64 b, .int .i64 c, .slice XA row.length xcap]] w fun e w' => e = .returned (.bool (stB p v h rows 3 a b c row)) ∧ Below w.heap.size w w' := by
 have hn := s.n; have hp := s.p2; have hp' := s.p97; have hv := s.v0; have hv' := s.v24; have hh := s.h0; have hh' := s.h100
 have S := Lib.hid s; have HR := Lib.hid hR; have HX := Lib.hid hX; have HROW := Lib.hid hrow
 have HML := Lib.hid (show rows.length ≤ maxLen by unfold maxLen; omega)
 have HRL := Lib.hid (show row.length ≤ maxLen by unfold maxLen; omega)
 clear s hR hX hrow
 cases he : emB 3 a b c row.length with
 | false =>
  have HE := Lib.hid he; clear he
  go_enter Tryz.func48, Tryz.ntmps48
  go_wp2
  go_quiet ((go_at_call 79; exact quiet_left (l1In_any _ _ _ _)))
  go_wp2
  go_quiet ((go_at_call 79; first | exact quiet_left (l1In_any _ _ _ _) | exact quiet_add_left (l1In_any _ _ _ _)))
  go_wp2_with (first | (go_at_call 79; refine (l1In_any _ _ _ _).mono ?_; rintro e w' ⟨rfl, rfl⟩) | (go_at_call 81; refine (Calls.bool_eq' (stEmpty_any _ _ _ _ _ _ _ _ HROW.out) HE.out).mono ?_; rintro e w1 ⟨rfl, hb1⟩; obtain ⟨hbw, ⟨c0, c1, c2⟩, ⟨d0, d1, d2, d3, d4⟩⟩ := cells_at hb1; have HB1 := Lib.hid hbw; clear hbw hb1))
  all_goals
   go_ret
   exact ⟨ret_bool (by rw [stB, HE.out]; rfl), HB1.out⟩
 | true =>
  have HE := Lib.hid he; clear he
  go_enter Tryz.func48, Tryz.ntmps48
  go_wp2
  go_quiet ((go_at_call 79; exact quiet_left (l1In_any _ _ _ _)))
  go_wp2
  go_quiet ((go_at_call 79; first | exact quiet_left (l1In_any _ _ _ _) | exact quiet_add_left (l1In_any _ _ _ _)))
  go_wp2_with (first | (go_at_call 79; refine (l1In_any _ _ _ _).mono ?_; rintro e w' ⟨rfl, rfl⟩) | (go_at_call 81; refine (Calls.bool_eq' (stEmpty_any _ _ _ _ _ _ _ _ HROW.out) HE.out).mono ?_; rintro e w1 ⟨rfl, hb1⟩; obtain ⟨hbw, ⟨c0, c1, c2⟩, ⟨d0, d1, d2, d3, d4⟩⟩ := cells_at hb1; have HB1 := Lib.hid hbw; clear hbw hb1))
  all_goals
   go_ret
   exact ⟨ret_bool (by simp [stB, HE.out, cast_lt160, *]), HB1.out⟩
set_option maxRecDepth 100000 in
set_option maxHeartbeats 8000000 in
theorem stCan_drop (p v h a b c : Int) (A : Option Addr) (cap : Nat) (rows : List (List Int)) (w : World) (XA : Option Addr) (row : List Int) (xcap : Nat) (hR : RowsAt w A rows) (hX : IntsAt w XA row) (hrow : row.length ≤ 1048576) (s : Sys p v h rows) :
  Calls Tryz.prog 48 #[.int .i64 p, .agg #[.int .i64 v, .int .i64 h, .slice A rows.length cap], .agg #[.int .i64 4, .int .i64 a, .int .i64 b, .int .i64 c, .slice XA row.length xcap]] w fun e w' => e = .returned (.bool (stB p v h rows 4 a b c row)) ∧ Below w.heap.size w w' := by
 have hn := s.n; have hp := s.p2; have hp' := s.p97; have hv := s.v0; have hv' := s.v24; have hh := s.h0; have hh' := s.h100
 have S := Lib.hid s; have HR := Lib.hid hR; have HX := Lib.hid hX; have HROW := Lib.hid hrow
 have HML := Lib.hid (show rows.length ≤ maxLen by unfold maxLen; omega)
 have HRL := Lib.hid (show row.length ≤ maxLen by unfold maxLen; omega)
 clear s hR hX hrow
 cases he : emB 4 a b c row.length with
 | false =>
  have HE := Lib.hid he; clear he
  go_enter Tryz.func48, Tryz.ntmps48
  go_wp2
  go_quiet ((go_at_call 79; exact quiet_left (l1In_any _ _ _ _)))
  go_wp2
  go_quiet ((go_at_call 79; first | exact quiet_left (l1In_any _ _ _ _) | exact quiet_add_left (l1In_any _ _ _ _)))
  go_wp2_with (first | (go_at_call 79; refine (l1In_any _ _ _ _).mono ?_; rintro e w' ⟨rfl, rfl⟩) | (go_at_call 81; refine (Calls.bool_eq' (stEmpty_any _ _ _ _ _ _ _ _ HROW.out) HE.out).mono ?_; rintro e w1 ⟨rfl, hb1⟩; obtain ⟨hbw, ⟨c0, c1, c2⟩, ⟨d0, d1, d2, d3, d4⟩⟩ := cells_at hb1; have HB1 := Lib.hid hbw; clear hbw hb1))
  all_goals
   go_ret
   exact ⟨ret_bool (by rw [stB, HE.out]; rfl), HB1.out⟩
 | true =>
  have HE := Lib.hid he; clear he
  cases h1 : inB a 0 ((rows.length : Int) - 1)
  ·skip
   go_enter Tryz.func48, Tryz.ntmps48
   go_wp2
   go_quiet ((go_at_call 79; exact quiet_left (l1In_any _ _ _ _)))
   go_wp2
   go_quiet ((go_at_call 79; first | exact quiet_left (l1In_any _ _ _ _) | exact quiet_add_left (l1In_any _ _ _ _)))
   go_wp2_with (first | (go_at_call 79; refine (l1In_any _ _ _ _).mono ?_; rintro e w' ⟨rfl, rfl⟩) | (go_at_call 81; refine (Calls.bool_eq' (stEmpty_any _ _ _ _ _ _ _ _ HROW.out) HE.out).mono ?_; rintro e w1 ⟨rfl, hb1⟩; obtain ⟨hbw, ⟨c0, c1, c2⟩, ⟨d0, d1, d2, d3, d4⟩⟩ := cells_at hb1; have HB1 := Lib.hid hbw; clear hbw hb1))
   all_goals
    go_ret
    exact ⟨ret_bool (by simp [stB, HE.out, cast_lt160, *]), HB1.out⟩
  ·obtain ⟨a1, a2⟩ := inB_iff.1 h1
   obtain ⟨r, hr⟩ := get_of_lt (show a.toNat < rows.length by omega)
   obtain ⟨bb, o, rfl, hc⟩ := HR.out.here (show a.toNat < rows.length by omega)
   obtain ⟨A', cap', hck, hin⟩ := hc _ r hr
   have HG := Lib.hid (show rows.getD a.toNat [] = r by simp [List.getD, hr])
   have HML2 := Lib.hid (show r.length ≤ maxLen by have := S.out.len r (List.mem_of_getElem? hr); unfold maxLen; omega)
   have HCK := Lib.hid hck; have HIN := Lib.hid hin
   clear hc hck hin hr
   go_enter Tryz.func48, Tryz.ntmps48
   go_wp2
   go_quiet ((go_at_call 79; exact quiet_left (l1In_any _ _ _ _)))
   go_wp2
   go_quiet ((go_at_call 79; first | exact quiet_left (l1In_any _ _ _ _) | exact quiet_add_left (l1In_any _ _ _ _)))
   go_wp2_with (first | (go_at_call 79; refine (l1In_any _ _ _ _).mono ?_; rintro e w' ⟨rfl, rfl⟩) | (go_at_call 81; refine (Calls.bool_eq' (stEmpty_any _ _ _ _ _ _ _ _ HROW.out) HE.out).mono ?_; rintro e w1 ⟨rfl, hb1⟩; obtain ⟨hbw, ⟨c0, c1, c2⟩, ⟨d0, d1, d2, d3, d4⟩⟩ := cells_at hb1; have ck := ext_cell hbw HCK.out; have HI := Lib.hid (HIN.out.ext hbw); have HB1 := Lib.hid hbw; clear hbw hb1) | (go_at_call 82; refine (l1All_any _ _ _ _ _ _ HI.out HML2.out).mono ?_; rintro e w' ⟨rfl, rfl⟩))
   all_goals
    go_ret
    exact ⟨ret_bool (by rw [stB, HE.out, HG.out]; simp [*]), HB1.out⟩
set_option maxRecDepth 100000 in
set_option maxHeartbeats 8000000 in
theorem stCan_put (p v h a b c : Int) (A : Option Addr) (cap : Nat) (rows : List (List Int)) (w : World) (XA : Option Addr) (row : List Int) (xcap : Nat) (hR : RowsAt w A rows) (hX : IntsAt w XA row) (hrow : row.length ≤ 1048576) (s : Sys p v h rows) :
  Calls Tryz.prog 48 #[.int .i64 p, .agg #[.int .i64 v, .int .i64 h, .slice A rows.length cap], .agg #[.int .i64 5, .int .i64 a, .int .i64 b, .int .i64 c, .slice XA row.length xcap]] w fun e w' => e = .returned (.bool (stB p v h rows 5 a b c row)) ∧ Below w.heap.size w w' := by
 have hn := s.n; have hp := s.p2; have hp' := s.p97; have hv := s.v0; have hv' := s.v24; have hh := s.h0; have hh' := s.h100
 have S := Lib.hid s; have HR := Lib.hid hR; have HX := Lib.hid hX; have HROW := Lib.hid hrow
 have HML := Lib.hid (show rows.length ≤ maxLen by unfold maxLen; omega)
 have HRL := Lib.hid (show row.length ≤ maxLen by unfold maxLen; omega)
 clear s hR hX hrow
 cases he : emB 5 a b c row.length with
 | false =>
  have HE := Lib.hid he; clear he
  go_enter Tryz.func48, Tryz.ntmps48
  go_wp2
  go_quiet ((go_at_call 79; exact quiet_left (l1In_any _ _ _ _)))
  go_wp2
  go_quiet ((go_at_call 79; first | exact quiet_left (l1In_any _ _ _ _) | exact quiet_add_left (l1In_any _ _ _ _)))
  go_wp2_with (first | (go_at_call 79; refine (l1In_any _ _ _ _).mono ?_; rintro e w' ⟨rfl, rfl⟩) | (go_at_call 81; refine (Calls.bool_eq' (stEmpty_any _ _ _ _ _ _ _ _ HROW.out) HE.out).mono ?_; rintro e w1 ⟨rfl, hb1⟩; obtain ⟨hbw, ⟨c0, c1, c2⟩, ⟨d0, d1, d2, d3, d4⟩⟩ := cells_at hb1; have HB1 := Lib.hid hbw; clear hbw hb1))
  all_goals
   go_ret
   exact ⟨ret_bool (by rw [stB, HE.out]; rfl), HB1.out⟩
 | true =>
  have HE := Lib.hid he; clear he
  go_enter Tryz.func48, Tryz.ntmps48
  go_wp2
  go_quiet ((go_at_call 79; exact quiet_left (l1In_any _ _ _ _)))
  go_wp2
  go_quiet ((go_at_call 79; first | exact quiet_left (l1In_any _ _ _ _) | exact quiet_add_left (l1In_any _ _ _ _)))
  go_wp2_with (first | (go_at_call 79; refine (l1In_any _ _ _ _).mono ?_; rintro e w' ⟨rfl, rfl⟩) | (go_at_call 81; refine (Calls.bool_eq' (stEmpty_any _ _ _ _ _ _ _ _ HROW.out) HE.out).mono ?_; rintro e w1 ⟨rfl, hb1⟩; obtain ⟨hbw, ⟨c0, c1, c2⟩, ⟨d0, d1, d2, d3, d4⟩⟩ := cells_at hb1; have HB1 := Lib.hid hbw; clear hbw hb1))
  all_goals
   go_ret
   exact ⟨ret_bool (by simp [stB, HE.out, cast_lt160, *]), HB1.out⟩
set_option maxRecDepth 100000 in
set_option maxHeartbeats 8000000 in
theorem stCan_solve (p v h a b c : Int) (A : Option Addr) (cap : Nat) (rows : List (List Int)) (w : World) (XA : Option Addr) (row : List Int) (xcap : Nat) (hR : RowsAt w A rows) (hX : IntsAt w XA row) (hrow : row.length ≤ 1048576) (s : Sys p v h rows) :
  Calls Tryz.prog 48 #[.int .i64 p, .agg #[.int .i64 v, .int .i64 h, .slice A rows.length cap], .agg #[.int .i64 6, .int .i64 a, .int .i64 b, .int .i64 c, .slice XA row.length xcap]] w fun e w' => e = .returned (.bool (stB p v h rows 6 a b c row)) ∧ Below w.heap.size w w' := by
 have hn := s.n; have hp := s.p2; have hp' := s.p97; have hv := s.v0; have hv' := s.v24; have hh := s.h0; have hh' := s.h100
 have S := Lib.hid s; have HR := Lib.hid hR; have HX := Lib.hid hX; have HROW := Lib.hid hrow
 have HML := Lib.hid (show rows.length ≤ maxLen by unfold maxLen; omega)
 have HRL := Lib.hid (show row.length ≤ maxLen by unfold maxLen; omega)
 clear s hR hX hrow
 cases he : emB 6 a b c row.length with
 | false =>
  have HE := Lib.hid he; clear he
  go_enter Tryz.func48, Tryz.ntmps48
  go_wp2
  go_quiet ((go_at_call 79; exact quiet_left (l1In_any _ _ _ _)))
  go_wp2
  go_quiet ((go_at_call 79; first | exact quiet_left (l1In_any _ _ _ _) | exact quiet_add_left (l1In_any _ _ _ _)))
  go_wp2_with (first | (go_at_call 79; refine (l1In_any _ _ _ _).mono ?_; rintro e w' ⟨rfl, rfl⟩) | (go_at_call 81; refine (Calls.bool_eq' (stEmpty_any _ _ _ _ _ _ _ _ HROW.out) HE.out).mono ?_; rintro e w1 ⟨rfl, hb1⟩; obtain ⟨hbw, ⟨c0, c1, c2⟩, ⟨d0, d1, d2, d3, d4⟩⟩ := cells_at hb1; have HB1 := Lib.hid hbw; clear hbw hb1))
  all_goals
   go_ret
   exact ⟨ret_bool (by rw [stB, HE.out]; rfl), HB1.out⟩
 | true =>
  have HE := Lib.hid he; clear he
  cases h1 : inB a 0 ((rows.length : Int) - 1)
  ·skip
   go_enter Tryz.func48, Tryz.ntmps48
   go_wp2
   go_quiet ((go_at_call 79; exact quiet_left (l1In_any _ _ _ _)))
   go_wp2
   go_quiet ((go_at_call 79; first | exact quiet_left (l1In_any _ _ _ _) | exact quiet_add_left (l1In_any _ _ _ _)))
   go_wp2_with (first | (go_at_call 79; refine (l1In_any _ _ _ _).mono ?_; rintro e w' ⟨rfl, rfl⟩) | (go_at_call 81; refine (Calls.bool_eq' (stEmpty_any _ _ _ _ _ _ _ _ HROW.out) HE.out).mono ?_; rintro e w1 ⟨rfl, hb1⟩; obtain ⟨hbw, ⟨c0, c1, c2⟩, ⟨d0, d1, d2, d3, d4⟩⟩ := cells_at hb1; have HB1 := Lib.hid hbw; clear hbw hb1))
   all_goals go_quiet (fail)
   all_goals go_wp2
   all_goals
    go_ret
    exact ⟨ret_bool (by simp [stB, HE.out, cast_lt160, *]), below_ext HB1.out (drewN_below _ _)⟩
  ·cases h2 : inB b 0 (h - 1)
   ·skip
    go_enter Tryz.func48, Tryz.ntmps48
    go_wp2
    go_quiet ((go_at_call 79; exact quiet_left (l1In_any _ _ _ _)))
    go_wp2
    go_quiet ((go_at_call 79; first | exact quiet_left (l1In_any _ _ _ _) | exact quiet_add_left (l1In_any _ _ _ _)))
    go_wp2_with (first | (go_at_call 79; refine (l1In_any _ _ _ _).mono ?_; rintro e w' ⟨rfl, rfl⟩) | (go_at_call 81; refine (Calls.bool_eq' (stEmpty_any _ _ _ _ _ _ _ _ HROW.out) HE.out).mono ?_; rintro e w1 ⟨rfl, hb1⟩; obtain ⟨hbw, ⟨c0, c1, c2⟩, ⟨d0, d1, d2, d3, d4⟩⟩ := cells_at hb1; have HB1 := Lib.hid hbw; clear hbw hb1))
    all_goals go_quiet (fail)
    all_goals go_wp2
    all_goals
     go_ret
     exact ⟨ret_bool (by simp [stB, HE.out, cast_lt160, *]), below_ext HB1.out (drewN_below _ _)⟩
   ·obtain ⟨b1, b2⟩ := inB_iff.1 h2
    go_enter Tryz.func48, Tryz.ntmps48
    go_wp2
    go_quiet ((go_at_call 79; exact quiet_left (l1In_any _ _ _ _)))
    go_wp2
    go_quiet ((go_at_call 79; first | exact quiet_left (l1In_any _ _ _ _) | exact quiet_add_left (l1In_any _ _ _ _)))
    go_wp2_with (first | (go_at_call 79; refine (l1In_any _ _ _ _).mono ?_; rintro e w' ⟨rfl, rfl⟩) | (go_at_call 81; refine (Calls.bool_eq' (stEmpty_any _ _ _ _ _ _ _ _ HROW.out) HE.out).mono ?_; rintro e w1 ⟨rfl, hb1⟩; obtain ⟨hbw, ⟨c0, c1, c2⟩, ⟨d0, d1, d2, d3, d4⟩⟩ := cells_at hb1; have HR1 := Lib.hid (HR.out.ext hbw); have HB1 := Lib.hid hbw; clear hbw hb1))
    all_goals
     go_region_held3 (fun w' => w'.cell? ⟨w.heap.size, 0, none⟩ = some (.int .i64 v) ∧ w'.cell? ⟨w.heap.size, 1, none⟩ = some (.int .i64 h) ∧ w'.cell? ⟨w.heap.size, 2, none⟩ = some (.slice A rows.length cap) ∧ w'.cell? ⟨w.heap.size + 1, 1, none⟩ = some (.int .i64 a) ∧ w'.cell? ⟨w.heap.size + 1, 2, none⟩ = some (.int .i64 b)) (first | exact ⟨c0, c1, c2, d1, d2⟩ | exact ⟨ext_cell hb2 c0, ext_cell hb2 c1, ext_cell hb2 c2, ext_cell hb2 d1, ext_cell hb2 d2⟩)
      (first | (go_at_call 84; refine (stColumn_any _ _ _ _ _ _ _ (HR1.out.ext ?_) (by omega) hv hv' hh' b1 (by omega) S.out.len).mono ?_; exact (Below.refl _ _).drew; rintro e w2 ⟨u, rfl, hu, hb2⟩; obtain ⟨A2, c9, rfl, hI, _, _⟩ := hu.view) | (go_at_call 83; refine (stAlone_any _ _ _ _ _ hI (by simp [colOf]; exact HML.out)).mono ?_; rintro e w' ⟨rfl, rfl⟩))
     have HB2 := Lib.hid (below_ext HB1.out ((Below.refl _ _).drew.trans hb2))
     clear hb2 hu hI
     go_wp2
    all_goals
     go_ret
     exact ⟨ret_bool (by simp [stB, HE.out, cast_lt160, *]), HB2.out⟩
set_option maxRecDepth 100000 in
set_option maxHeartbeats 8000000 in
theorem stCan_bring (p v h a b c : Int) (A : Option Addr) (cap : Nat) (rows : List (List Int)) (w : World) (XA : Option Addr) (row : List Int) (xcap : Nat) (hR : RowsAt w A rows) (hX : IntsAt w XA row) (hrow : row.length ≤ 1048576) (s : Sys p v h rows) :
  Calls Tryz.prog 48 #[.int .i64 p, .agg #[.int .i64 v, .int .i64 h, .slice A rows.length cap], .agg #[.int .i64 7, .int .i64 a, .int .i64 b, .int .i64 c, .slice XA row.length xcap]] w fun e w' => e = .returned (.bool (stB p v h rows 7 a b c row)) ∧ Below w.heap.size w w' := by
 have hn := s.n; have hp := s.p2; have hp' := s.p97; have hv := s.v0; have hv' := s.v24; have hh := s.h0; have hh' := s.h100
 have S := Lib.hid s; have HR := Lib.hid hR; have HX := Lib.hid hX; have HROW := Lib.hid hrow
 have HML := Lib.hid (show rows.length ≤ maxLen by unfold maxLen; omega)
 have HRL := Lib.hid (show row.length ≤ maxLen by unfold maxLen; omega)
 clear s hR hX hrow
 cases he : emB 7 a b c row.length with
 | false =>
  have HE := Lib.hid he; clear he
  go_enter Tryz.func48, Tryz.ntmps48
  go_wp2
  go_quiet ((go_at_call 79; exact quiet_left (l1In_any _ _ _ _)))
  go_wp2
  go_quiet ((go_at_call 79; first | exact quiet_left (l1In_any _ _ _ _) | exact quiet_add_left (l1In_any _ _ _ _)))
  go_wp2_with (first | (go_at_call 79; refine (l1In_any _ _ _ _).mono ?_; rintro e w' ⟨rfl, rfl⟩) | (go_at_call 81; refine (Calls.bool_eq' (stEmpty_any _ _ _ _ _ _ _ _ HROW.out) HE.out).mono ?_; rintro e w1 ⟨rfl, hb1⟩; obtain ⟨hbw, ⟨c0, c1, c2⟩, ⟨d0, d1, d2, d3, d4⟩⟩ := cells_at hb1; have HB1 := Lib.hid hbw; clear hbw hb1))
  all_goals
   go_ret
   exact ⟨ret_bool (by rw [stB, HE.out]; rfl), HB1.out⟩
 | true =>
  have HE := Lib.hid he; clear he
  by_cases hl : (row.length : Int) = v + h + 1
  ·cases h2 : inB b 0 h
   ·have hlb : ((row.length : Int) == v + h + 1) = true := by simp [hl]
    have HL := Lib.hid hl; clear hl
    go_enter Tryz.func48, Tryz.ntmps48
    go_wp2
    go_quiet ((go_at_call 79; exact quiet_left (l1In_any _ _ _ _)))
    go_wp2
    go_quiet ((go_at_call 79; first | exact quiet_left (l1In_any _ _ _ _) | exact quiet_add_left (l1In_any _ _ _ _)))
    go_wp2_with (first | (go_at_call 79; refine (l1In_any _ _ _ _).mono ?_; rintro e w' ⟨rfl, rfl⟩) | (go_at_call 81; refine (Calls.bool_eq' (stEmpty_any _ _ _ _ _ _ _ _ HROW.out) HE.out).mono ?_; rintro e w1 ⟨rfl, hb1⟩; obtain ⟨hbw, ⟨c0, c1, c2⟩, ⟨d0, d1, d2, d3, d4⟩⟩ := cells_at hb1; have HX1 := Lib.hid (HX.out.ext hbw); have HB1 := Lib.hid hbw; clear hbw hb1) | (go_at_call 85; refine (fdIn_any _ _ _ _ _ HX1.out HRL.out hp hp').mono ?_; rintro e w' ⟨rfl, rfl⟩))
    all_goals
     go_ret
     exact ⟨ret_bool (by simp [stB, HE.out, cast_lt160, *]), HB1.out⟩
   ·obtain ⟨b1, b2⟩ := inB_iff.1 h2
    have hlt : (v + b).toNat < row.length := by omega
    have hlt2 : v + b < row.length := by omega
    obtain ⟨x, hx⟩ := get_of_lt hlt
    obtain ⟨bb, o, rfl, hc⟩ := HX.out.here hlt
    have HCK := Lib.hid (hc _ _ hx)
    have HG := Lib.hid (show row.getD (v + b).toNat 0 = x by simp [List.getD, hx])
    have hlb : ((row.length : Int) == v + h + 1) = true := by simp [hl]
    have HL := Lib.hid hl; clear hl hx hc
    go_enter Tryz.func48, Tryz.ntmps48
    go_wp2
    go_quiet ((go_at_call 79; exact quiet_left (l1In_any _ _ _ _)))
    go_wp2
    go_quiet ((go_at_call 79; first | exact quiet_left (l1In_any _ _ _ _) | exact quiet_add_left (l1In_any _ _ _ _)))
    go_wp2_with (first | (go_at_call 79; refine (l1In_any _ _ _ _).mono ?_; rintro e w' ⟨rfl, rfl⟩) | (go_at_call 81; refine (Calls.bool_eq' (stEmpty_any _ _ _ _ _ _ _ _ HROW.out) HE.out).mono ?_; rintro e w1 ⟨rfl, hb1⟩; obtain ⟨hbw, ⟨c0, c1, c2⟩, ⟨d0, d1, d2, d3, d4⟩⟩ := cells_at hb1; have HX1 := Lib.hid (HX.out.ext hbw); have ck := ext_cell hbw HCK.out; have HB1 := Lib.hid hbw; clear hbw hb1) | (go_at_call 85; refine (fdIn_any _ _ _ _ _ HX1.out HRL.out hp hp').mono ?_; rintro e w' ⟨rfl, rfl⟩))
    all_goals
     go_ret
     exact ⟨ret_bool (by rw [stB, HE.out, HG.out]; simp [HL.out, cast_lt160, *] <;> (intros; omega)), HB1.out⟩
  ·have hlb : ((row.length : Int) == v + h + 1) = false := by simp [hl]
   have HL := Lib.hid hl; clear hl
   go_enter Tryz.func48, Tryz.ntmps48
   go_wp2
   go_quiet ((go_at_call 79; exact quiet_left (l1In_any _ _ _ _)))
   go_wp2
   go_quiet ((go_at_call 79; first | exact quiet_left (l1In_any _ _ _ _) | exact quiet_add_left (l1In_any _ _ _ _)))
   go_wp2_with (first | (go_at_call 79; refine (l1In_any _ _ _ _).mono ?_; rintro e w' ⟨rfl, rfl⟩) | (go_at_call 81; refine (Calls.bool_eq' (stEmpty_any _ _ _ _ _ _ _ _ HROW.out) HE.out).mono ?_; rintro e w1 ⟨rfl, hb1⟩; obtain ⟨hbw, ⟨c0, c1, c2⟩, ⟨d0, d1, d2, d3, d4⟩⟩ := cells_at hb1; have HX1 := Lib.hid (HX.out.ext hbw); have HB1 := Lib.hid hbw; clear hbw hb1) | (go_at_call 85; refine (fdIn_any _ _ _ _ _ HX1.out HRL.out hp hp').mono ?_; rintro e w' ⟨rfl, rfl⟩))
   all_goals
    go_ret
    exact ⟨ret_bool (by simp [stB, HE.out, HL.out, *]), HB1.out⟩
set_option maxRecDepth 100000 in
set_option maxHeartbeats 8000000 in
theorem stCan_forget (p v h a b c : Int) (A : Option Addr) (cap : Nat) (rows : List (List Int)) (w : World) (XA : Option Addr) (row : List Int) (xcap : Nat) (hR : RowsAt w A rows) (hX : IntsAt w XA row) (hrow : row.length ≤ 1048576) (s : Sys p v h rows) :
  Calls Tryz.prog 48 #[.int .i64 p, .agg #[.int .i64 v, .int .i64 h, .slice A rows.length cap], .agg #[.int .i64 8, .int .i64 a, .int .i64 b, .int .i64 c, .slice XA row.length xcap]] w fun e w' => e = .returned (.bool (stB p v h rows 8 a b c row)) ∧ Below w.heap.size w w' := by
 have hn := s.n; have hp := s.p2; have hp' := s.p97; have hv := s.v0; have hv' := s.v24; have hh := s.h0; have hh' := s.h100
 have S := Lib.hid s; have HR := Lib.hid hR; have HX := Lib.hid hX; have HROW := Lib.hid hrow
 have HML := Lib.hid (show rows.length ≤ maxLen by unfold maxLen; omega)
 have HRL := Lib.hid (show row.length ≤ maxLen by unfold maxLen; omega)
 clear s hR hX hrow
 cases he : emB 8 a b c row.length with
 | false =>
  have HE := Lib.hid he; clear he
  go_enter Tryz.func48, Tryz.ntmps48
  go_wp2
  go_quiet ((go_at_call 79; exact quiet_left (l1In_any _ _ _ _)))
  go_wp2
  go_quiet ((go_at_call 79; first | exact quiet_left (l1In_any _ _ _ _) | exact quiet_add_left (l1In_any _ _ _ _)))
  go_wp2_with (first | (go_at_call 79; refine (l1In_any _ _ _ _).mono ?_; rintro e w' ⟨rfl, rfl⟩) | (go_at_call 81; refine (Calls.bool_eq' (stEmpty_any _ _ _ _ _ _ _ _ HROW.out) HE.out).mono ?_; rintro e w1 ⟨rfl, hb1⟩; obtain ⟨hbw, ⟨c0, c1, c2⟩, ⟨d0, d1, d2, d3, d4⟩⟩ := cells_at hb1; have HB1 := Lib.hid hbw; clear hbw hb1))
  all_goals
   go_ret
   exact ⟨ret_bool (by rw [stB, HE.out]; rfl), HB1.out⟩
 | true =>
  have HE := Lib.hid he; clear he
  cases h1 : inB b 0 (h - 1)
  ·skip
   go_enter Tryz.func48, Tryz.ntmps48
   go_wp2
   go_quiet ((go_at_call 79; exact quiet_left (l1In_any _ _ _ _)))
   go_wp2
   go_quiet ((go_at_call 79; first | exact quiet_left (l1In_any _ _ _ _) | exact quiet_add_left (l1In_any _ _ _ _)))
   go_wp2_with (first | (go_at_call 79; refine (l1In_any _ _ _ _).mono ?_; rintro e w' ⟨rfl, rfl⟩) | (go_at_call 81; refine (Calls.bool_eq' (stEmpty_any _ _ _ _ _ _ _ _ HROW.out) HE.out).mono ?_; rintro e w1 ⟨rfl, hb1⟩; obtain ⟨hbw, ⟨c0, c1, c2⟩, ⟨d0, d1, d2, d3, d4⟩⟩ := cells_at hb1; have HB1 := Lib.hid hbw; clear hbw hb1))
   all_goals
    go_ret
    exact ⟨ret_bool (by simp [stB, HE.out, cast_lt160, *]), HB1.out⟩
  ·obtain ⟨b1, b2⟩ := inB_iff.1 h1
   go_enter Tryz.func48, Tryz.ntmps48
   go_wp2
   go_quiet ((go_at_call 79; exact quiet_left (l1In_any _ _ _ _)))
   go_wp2
   go_quiet ((go_at_call 79; first | exact quiet_left (l1In_any _ _ _ _) | exact quiet_add_left (l1In_any _ _ _ _)))
   go_wp2_with (first | (go_at_call 79; refine (l1In_any _ _ _ _).mono ?_; rintro e w' ⟨rfl, rfl⟩) | (go_at_call 81; refine (Calls.bool_eq' (stEmpty_any _ _ _ _ _ _ _ _ HROW.out) HE.out).mono ?_; rintro e w1 ⟨rfl, hb1⟩; obtain ⟨hbw, ⟨c0, c1, c2⟩, ⟨d0, d1, d2, d3, d4⟩⟩ := cells_at hb1; have HR1 := Lib.hid (HR.out.ext hbw); have HB1 := Lib.hid hbw; clear hbw hb1) | (go_at_call 84; refine (stColumn_any _ _ _ _ _ _ _ HR1.out (by omega) hv hv' hh' b1 (by omega) S.out.len).mono ?_; rintro e w2 ⟨u, rfl, hu, hb2⟩; obtain ⟨A2, c9, rfl, hI, _, _⟩ := hu.view; have HI := Lib.hid hI; have HB2 := Lib.hid (below_ext HB1.out hb2); clear hu hI hb2) | (go_at_call 82; refine (l1All_any _ _ _ _ _ _ HI.out (by simp [colOf]; exact HML.out)).mono ?_; rintro e w' ⟨rfl, rfl⟩))
   all_goals
    go_ret
    exact ⟨ret_bool (by simp [stB, HE.out, *]), HB2.out⟩
set_option maxRecDepth 100000 in
set_option maxHeartbeats 8000000 in
theorem stCan_invent (p v h a b c : Int) (A : Option Addr) (cap : Nat) (rows : List (List Int)) (w : World) (XA : Option Addr) (row : List Int) (xcap : Nat) (hR : RowsAt w A rows) (hX : IntsAt w XA row) (hrow : row.length ≤ 1048576) (s : Sys p v h rows) :
  Calls Tryz.prog 48 #[.int .i64 p, .agg #[.int .i64 v, .int .i64 h, .slice A rows.length cap], .agg #[.int .i64 9, .int .i64 a, .int .i64 b, .int .i64 c, .slice XA row.length xcap]] w fun e w' => e = .returned (.bool (stB p v h rows 9 a b c row)) ∧ Below w.heap.size w w' := by
 have hn := s.n; have hp := s.p2; have hp' := s.p97; have hv := s.v0; have hv' := s.v24; have hh := s.h0; have hh' := s.h100
 have S := Lib.hid s; have HR := Lib.hid hR; have HX := Lib.hid hX; have HROW := Lib.hid hrow
 have HML := Lib.hid (show rows.length ≤ maxLen by unfold maxLen; omega)
 have HRL := Lib.hid (show row.length ≤ maxLen by unfold maxLen; omega)
 clear s hR hX hrow
 cases he : emB 9 a b c row.length with
 | false =>
  have HE := Lib.hid he; clear he
  go_enter Tryz.func48, Tryz.ntmps48
  go_wp2
  go_quiet ((go_at_call 79; exact quiet_left (l1In_any _ _ _ _)))
  go_wp2
  go_quiet ((go_at_call 79; first | exact quiet_left (l1In_any _ _ _ _) | exact quiet_add_left (l1In_any _ _ _ _)))
  go_wp2_with (first | (go_at_call 79; refine (l1In_any _ _ _ _).mono ?_; rintro e w' ⟨rfl, rfl⟩) | (go_at_call 81; refine (Calls.bool_eq' (stEmpty_any _ _ _ _ _ _ _ _ HROW.out) HE.out).mono ?_; rintro e w1 ⟨rfl, hb1⟩; obtain ⟨hbw, ⟨c0, c1, c2⟩, ⟨d0, d1, d2, d3, d4⟩⟩ := cells_at hb1; have HB1 := Lib.hid hbw; clear hbw hb1))
  all_goals
   go_ret
   exact ⟨ret_bool (by rw [stB, HE.out]; rfl), HB1.out⟩
 | true =>
  have HE := Lib.hid he; clear he
  go_enter Tryz.func48, Tryz.ntmps48
  go_wp2
  go_quiet ((go_at_call 79; exact quiet_left (l1In_any _ _ _ _)))
  go_wp2
  go_quiet ((go_at_call 79; first | exact quiet_left (l1In_any _ _ _ _) | exact quiet_add_left (l1In_any _ _ _ _)))
  go_wp2_with (first | (go_at_call 79; refine (l1In_any _ _ _ _).mono ?_; rintro e w' ⟨rfl, rfl⟩) | (go_at_call 81; refine (Calls.bool_eq' (stEmpty_any _ _ _ _ _ _ _ _ HROW.out) HE.out).mono ?_; rintro e w1 ⟨rfl, hb1⟩; obtain ⟨hbw, ⟨c0, c1, c2⟩, ⟨d0, d1, d2, d3, d4⟩⟩ := cells_at hb1; have HB1 := Lib.hid hbw; clear hbw hb1))
  all_goals
   go_ret
   exact ⟨ret_bool (by simp [stB, HE.out, cast_lt160, *]), HB1.out⟩
set_option maxRecDepth 100000 in
set_option maxHeartbeats 8000000 in
theorem stCan_other (p v h k a b c : Int) (A : Option Addr) (cap : Nat) (rows : List (List Int)) (w : World) (XA : Option Addr) (row : List Int) (xcap : Nat) (hR : RowsAt w A rows) (hX : IntsAt w XA row) (hrow : row.length ≤ 1048576) (s : Sys p v h rows) (h1 : k ≠ 1) (h2 : k ≠ 2) (h3 : k ≠ 3) (h4 : k ≠ 4) (h5 : k ≠ 5) (h6 : k ≠ 6) (h7 : k ≠ 7) (h8 : k ≠ 8) (h9 : k ≠ 9) :
  Calls Tryz.prog 48 #[.int .i64 p, .agg #[.int .i64 v, .int .i64 h, .slice A rows.length cap], .agg #[.int .i64 k, .int .i64 a, .int .i64 b, .int .i64 c, .slice XA row.length xcap]] w fun e w' => e = .returned (.bool (stB p v h rows k a b c row)) ∧ Below w.heap.size w w' := by
 have hn := s.n; have hp := s.p2; have hp' := s.p97; have hv := s.v0; have hv' := s.v24; have hh := s.h0; have hh' := s.h100
 have S := Lib.hid s; have HR := Lib.hid hR; have HX := Lib.hid hX; have HROW := Lib.hid hrow
 have HML := Lib.hid (show rows.length ≤ maxLen by unfold maxLen; omega)
 have HRL := Lib.hid (show row.length ≤ maxLen by unfold maxLen; omega)
 clear s hR hX hrow
 have e1 : (k == 1) = false := by simpa using h1
 have e2 : (k == 2) = false := by simpa using h2
 have e3 : (k == 3) = false := by simpa using h3
 have e4 : (k == 4) = false := by simpa using h4
 have e5 : (k == 5) = false := by simpa using h5
 have e6 : (k == 6) = false := by simpa using h6
 have e7 : (k == 7) = false := by simpa using h7
 have e8 : (k == 8) = false := by simpa using h8
 have e9 : (k == 9) = false := by simpa using h9
 have HZ := Lib.hid (show stB p v h rows k a b c row = false by simp [stB, *])
 clear h1 h2 h3 h4 h5 h6 h7 h8 h9
 cases he : emB k a b c row.length with
 | false =>
  have HE := Lib.hid he; clear he
  go_enter Tryz.func48, Tryz.ntmps48
  go_wp2
  go_quiet ((go_at_call 79; exact quiet_left (l1In_any _ _ _ _)))
  go_wp2
  go_quiet ((go_at_call 79; first | exact quiet_left (l1In_any _ _ _ _) | exact quiet_add_left (l1In_any _ _ _ _)))
  go_wp2_with (first | (go_at_call 79; refine (l1In_any _ _ _ _).mono ?_; rintro e w' ⟨rfl, rfl⟩) | (go_at_call 81; refine (Calls.bool_eq' (stEmpty_any _ _ _ _ _ _ _ _ HROW.out) HE.out).mono ?_; rintro e w1 ⟨rfl, hb1⟩; obtain ⟨hbw, ⟨c0, c1, c2⟩, ⟨d0, d1, d2, d3, d4⟩⟩ := cells_at hb1; have HB1 := Lib.hid hbw; clear hbw hb1))
  all_goals
   go_ret
   exact ⟨ret_bool (by rw [stB, HE.out]; rfl), HB1.out⟩
 | true =>
  have HE := Lib.hid he; clear he
  go_enter Tryz.func48, Tryz.ntmps48
  go_wp2
  go_quiet ((go_at_call 79; exact quiet_left (l1In_any _ _ _ _)))
  go_wp2
  go_quiet ((go_at_call 79; first | exact quiet_left (l1In_any _ _ _ _) | exact quiet_add_left (l1In_any _ _ _ _)))
  go_wp2_with (first | (go_at_call 79; refine (l1In_any _ _ _ _).mono ?_; rintro e w' ⟨rfl, rfl⟩) | (go_at_call 81; refine (Calls.bool_eq' (stEmpty_any _ _ _ _ _ _ _ _ HROW.out) HE.out).mono ?_; rintro e w1 ⟨rfl, hb1⟩; obtain ⟨hbw, ⟨c0, c1, c2⟩, ⟨d0, d1, d2, d3, d4⟩⟩ := cells_at hb1; have HB1 := Lib.hid hbw; clear hbw hb1))
  all_goals
   go_ret
   exact ⟨ret_bool (by rw [HZ.out]), HB1.out⟩
theorem stCan_any (p v h k a b c : Int) (A : Option Addr) (cap : Nat) (rows : List (List Int)) (w : World) (XA : Option Addr) (row : List Int) (xcap : Nat) (hR : RowsAt w A rows) (hX : IntsAt w XA row) (hrow : row.length ≤ 1048576) (s : Sys p v h rows) :
  Calls Tryz.prog 48 #[.int .i64 p, .agg #[.int .i64 v, .int .i64 h, .slice A rows.length cap], .agg #[.int .i64 k, .int .i64 a, .int .i64 b, .int .i64 c, .slice XA row.length xcap]] w fun e w' => e = .returned (.bool (stB p v h rows k a b c row)) ∧ Below w.heap.size w w' := by
 by_cases h1 : k = 1
 ·subst h1; exact stCan_swap p v h a b c A cap rows w XA row xcap hR hX hrow s
 by_cases h2 : k = 2
 ·subst h2; exact stCan_scale p v h a b c A cap rows w XA row xcap hR hX hrow s
 by_cases h3 : k = 3
 ·subst h3; exact stCan_add p v h a b c A cap rows w XA row xcap hR hX hrow s
 by_cases h4 : k = 4
 ·subst h4; exact stCan_drop p v h a b c A cap rows w XA row xcap hR hX hrow s
 by_cases h5 : k = 5
 ·subst h5; exact stCan_put p v h a b c A cap rows w XA row xcap hR hX hrow s
 by_cases h6 : k = 6
 ·subst h6; exact stCan_solve p v h a b c A cap rows w XA row xcap hR hX hrow s
 by_cases h7 : k = 7
 ·subst h7; exact stCan_bring p v h a b c A cap rows w XA row xcap hR hX hrow s
 by_cases h8 : k = 8
 ·subst h8; exact stCan_forget p v h a b c A cap rows w XA row xcap hR hX hrow s
 by_cases h9 : k = 9
 ·subst h9; exact stCan_invent p v h a b c A cap rows w XA row xcap hR hX hrow s
 exact stCan_other p v h k a b c A cap rows w XA row xcap hR hX hrow s h1 h2 h3 h4 h5 h6 h7 h8 h9
end Go.Proofs.YtjdbfokbgmbphaaGreatDoor
