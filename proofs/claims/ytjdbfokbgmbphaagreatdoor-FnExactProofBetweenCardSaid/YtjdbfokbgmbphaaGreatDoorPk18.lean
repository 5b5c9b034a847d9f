/- stepOf: the step of a kind as an interface value, where the fields that the kind does not use are empty. No conditions (the line's length is below 2^60). -/
import Derived.Test.YtjdbfokbgmbphaaGreatDoorPk16
namespace Go.Proofs.YtjdbfokbgmbphaaGreatDoor
set_option linter.unusedVariables false
set_option linter.unusedSimpArgs false
open Go.RowKit
theorem boxes5 {w w1 : World} (x0 x1 x2 x3 x4 : Value) (t : TypeId) (hb : Below (w.alloc (.cells #[x0, x1, x2, x3, x4] t)).heap.size (w.alloc (.cells #[x0, x1, x2, x3, x4] t)) w1) (y0 y1 y2 y3 : Value) (t2 : TypeId) :
  ∃ W, W = w1.alloc (.cells #[y0, y1, y2, y3] t2) ∧ Below w.heap.size w W ∧ W.cell? ⟨w.heap.size, 0, none⟩ = some x0 ∧ W.cell? ⟨w.heap.size, 1, none⟩ = some x1 ∧ W.cell? ⟨w.heap.size, 2, none⟩ = some x2 ∧ W.cell? ⟨w.heap.size, 3, none⟩ = some x3 ∧ W.cell? ⟨w.heap.size, 4, none⟩ = some x4 ∧
   W.cell? ⟨w1.heap.size, 0, none⟩ = some y0 ∧ W.cell? ⟨w1.heap.size, 1, none⟩ = some y1 ∧ W.cell? ⟨w1.heap.size, 2, none⟩ = some y2 ∧ W.cell? ⟨w1.heap.size, 3, none⟩ = some y3 := by
 have hb' := hb.alloc hb.size (.cells #[y0, y1, y2, y3] t2)
 have h := boxb hb' (heap_at w (.cells #[x0, x1, x2, x3, x4] t) rfl)
 have h2 := heap_at w1 (.cells #[y0, y1, y2, y3] t2) rfl
 exact ⟨_, rfl, ((Below.refl w.heap.size w).alloc (Nat.le_refl _) _).trans (hb'.mono (by simp)), blk_cell h 0, blk_cell h 1, blk_cell h 2, blk_cell h 3, blk_cell h 4, blk_cell h2 0, blk_cell h2 1, blk_cell h2 2, blk_cell h2 3⟩
set_option maxHeartbeats 1000000 in
theorem stepOf_swapStep (a b c : Int) (XA : Option Addr) (n cap : Nat) (w : World) (hn : n ≤ 1048576) :
  Calls Tryz.prog 93 #[.agg #[.int .i64 1, .int .i64 a, .int .i64 b, .int .i64 c, .slice XA n cap]] w fun e w' =>
   e = .returned (.tuple #[if ((c == 0) && ((n == 0))) = true then .iface 118 (.agg #[.int .i64 a, .int .i64 b]) else .nilIface, .bool ((c == 0) && ((n == 0)))]) ∧ Below w.heap.size w w' := by
 by_cases tC : c = 0
 ·subst tC
  by_cases tL : n = 0
  ·subst tL
   go_enter Tryz.func93, Tryz.ntmps93
   go_upto_region 2 with (go_at_call 111; refine (fieldsOf_any _ _).mono ?_; rintro e w1 ⟨rfl, hb1⟩)
   obtain ⟨W, hW, hb, e0, e1, e2, e3, e4, f0, f1, f2, f3⟩ := boxes5 _ _ _ _ _ _ hb1 (.bool (fldA 1)) (.bool (fldB 1)) (.bool (fldC 1)) (.bool (fldL 1)) 115
   rw [← hW]
   clear hW hb1
   simp only [show fldA 1 = true from rfl, show fldB 1 = true from rfl, show fldC 1 = false from rfl, show fldL 1 = false from rfl] at f0 f1 f2 f3 ⊢
   go_wp2
   all_goals exact bodyPost_ret (v := .tuple #[.iface 118 (.agg #[.int .i64 a, .int .i64 b]), .bool true]) (by simp [results, Tryz.results93, go_sem]) rfl ⟨by simp [*], hb⟩
  ·have gL : (n == 0) = false := by simpa using tL
   have hL : (0 : Int) < n := by omega
   have hL2 : 0 < n := by omega
   go_enter Tryz.func93, Tryz.ntmps93
   go_upto_region 2 with (go_at_call 111; refine (fieldsOf_any _ _).mono ?_; rintro e w1 ⟨rfl, hb1⟩)
   obtain ⟨W, hW, hb, e0, e1, e2, e3, e4, f0, f1, f2, f3⟩ := boxes5 _ _ _ _ _ _ hb1 (.bool (fldA 1)) (.bool (fldB 1)) (.bool (fldC 1)) (.bool (fldL 1)) 115
   rw [← hW]
   clear hW hb1
   simp only [show fldA 1 = true from rfl, show fldB 1 = true from rfl, show fldC 1 = false from rfl, show fldL 1 = false from rfl] at f0 f1 f2 f3 ⊢
   go_wp2
   all_goals exact bodyPost_ret (v := .tuple #[.nilIface, .bool false]) (by simp [results, Tryz.results93, go_sem]) rfl ⟨by simp [*], hb⟩
 ·have gC : (c == 0) = false := by simpa using tC
  have hC : (c != 0) = true := by simpa using tC
  go_enter Tryz.func93, Tryz.ntmps93
  go_upto_region 2 with (go_at_call 111; refine (fieldsOf_any _ _).mono ?_; rintro e w1 ⟨rfl, hb1⟩)
  obtain ⟨W, hW, hb, e0, e1, e2, e3, e4, f0, f1, f2, f3⟩ := boxes5 _ _ _ _ _ _ hb1 (.bool (fldA 1)) (.bool (fldB 1)) (.bool (fldC 1)) (.bool (fldL 1)) 115
  rw [← hW]
  clear hW hb1
  simp only [show fldA 1 = true from rfl, show fldB 1 = true from rfl, show fldC 1 = false from rfl, show fldL 1 = false from rfl] at f0 f1 f2 f3 ⊢
  go_wp2
  all_goals exact bodyPost_ret (v := .tuple #[.nilIface, .bool false]) (by simp [results, Tryz.results93, go_sem]) rfl ⟨by simp [*], hb⟩
set_option maxHeartbeats 1000000 in
theorem stepOf_scaleStep (a b c : Int) (XA : Option Addr) (n cap : Nat) (w : World) (hn : n ≤ 1048576) :
  Calls Tryz.prog 93 #[.agg #[.int .i64 2, .int .i64 a, .int .i64 b, .int .i64 c, .slice XA n cap]] w fun e w' =>
   e = .returned (.tuple #[if ((b == 0) && ((n == 0))) = true then .iface 120 (.agg #[.int .i64 a, .int .i64 c]) else .nilIface, .bool ((b == 0) && ((n == 0)))]) ∧ Below w.heap.size w w' := by
 by_cases tB : b = 0
 ·subst tB
  by_cases tL : n = 0
  ·subst tL
   go_enter Tryz.func93, Tryz.ntmps93
   go_upto_region 2 with (go_at_call 111; refine (fieldsOf_any _ _).mono ?_; rintro e w1 ⟨rfl, hb1⟩)
   obtain ⟨W, hW, hb, e0, e1, e2, e3, e4, f0, f1, f2, f3⟩ := boxes5 _ _ _ _ _ _ hb1 (.bool (fldA 2)) (.bool (fldB 2)) (.bool (fldC 2)) (.bool (fldL 2)) 115
   rw [← hW]
   clear hW hb1
   simp only [show fldA 2 = true from rfl, show fldB 2 = false from rfl, show fldC 2 = true from rfl, show fldL 2 = false from rfl] at f0 f1 f2 f3 ⊢
   go_wp2
   all_goals exact bodyPost_ret (v := .tuple #[.iface 120 (.agg #[.int .i64 a, .int .i64 c]), .bool true]) (by simp [results, Tryz.results93, go_sem]) rfl ⟨by simp [*], hb⟩
  ·have gL : (n == 0) = false := by simpa using tL
   have hL : (0 : Int) < n := by omega
   have hL2 : 0 < n := by omega
   go_enter Tryz.func93, Tryz.ntmps93
   go_upto_region 2 with (go_at_call 111; refine (fieldsOf_any _ _).mono ?_; rintro e w1 ⟨rfl, hb1⟩)
   obtain ⟨W, hW, hb, e0, e1, e2, e3, e4, f0, f1, f2, f3⟩ := boxes5 _ _ _ _ _ _ hb1 (.bool (fldA 2)) (.bool (fldB 2)) (.bool (fldC 2)) (.bool (fldL 2)) 115
   rw [← hW]
   clear hW hb1
   simp only [show fldA 2 = true from rfl, show fldB 2 = false from rfl, show fldC 2 = true from rfl, show fldL 2 = false from rfl] at f0 f1 f2 f3 ⊢
   go_wp2
   all_goals exact bodyPost_ret (v := .tuple #[.nilIface, .bool false]) (by simp [results, Tryz.results93, go_sem]) rfl ⟨by simp [*], hb⟩
 ·have gB : (b == 0) = false := by simpa using tB
  have hB : (b != 0) = true := by simpa using tB
  go_enter Tryz.func93, Tryz.ntmps93
  go_upto_region 2 with (go_at_call 111; refine (fieldsOf_any _ _).mono ?_; rintro e w1 ⟨rfl, hb1⟩)
  obtain ⟨W, hW, hb, e0, e1, e2, e3, e4, f0, f1, f2, f3⟩ := boxes5 _ _ _ _ _ _ hb1 (.bool (fldA 2)) (.bool (fldB 2)) (.bool (fldC 2)) (.bool (fldL 2)) 115
  rw [← hW]
  clear hW hb1
  simp only [show fldA 2 = true from rfl, show fldB 2 = false from rfl, show fldC 2 = true from rfl, show fldL 2 = false from rfl] at f0 f1 f2 f3 ⊢
  go_wp2
  all_goals exact bodyPost_ret (v := .tuple #[.nilIface, .bool false]) (by simp [results, Tryz.results93, go_sem]) rfl ⟨by simp [*], hb⟩
set_option maxHeartbeats 1000000 in
theorem stepOf_addStep (a b c : Int) (XA : Option Addr) (n cap : Nat) (w : World) (hn : n ≤ 1048576) :
  Calls Tryz.prog 93 #[.agg #[.int .i64 3, .int .i64 a, .int .i64 b, .int .i64 c, .slice XA n cap]] w fun e w' =>
   e = .returned (.tuple #[if ((n == 0)) = true then .iface 122 (.agg #[.int .i64 a, .int .i64 b, .int .i64 c]) else .nilIface, .bool ((n == 0))]) ∧ Below w.heap.size w w' := by
 by_cases tL : n = 0
 ·subst tL
  go_enter Tryz.func93, Tryz.ntmps93
  go_upto_region 2 with (go_at_call 111; refine (fieldsOf_any _ _).mono ?_; rintro e w1 ⟨rfl, hb1⟩)
  obtain ⟨W, hW, hb, e0, e1, e2, e3, e4, f0, f1, f2, f3⟩ := boxes5 _ _ _ _ _ _ hb1 (.bool (fldA 3)) (.bool (fldB 3)) (.bool (fldC 3)) (.bool (fldL 3)) 115
  rw [← hW]
  clear hW hb1
  simp only [show fldA 3 = true from rfl, show fldB 3 = true from rfl, show fldC 3 = true from rfl, show fldL 3 = false from rfl] at f0 f1 f2 f3 ⊢
  go_wp2
  all_goals exact bodyPost_ret (v := .tuple #[.iface 122 (.agg #[.int .i64 a, .int .i64 b, .int .i64 c]), .bool true]) (by simp [results, Tryz.results93, go_sem]) rfl ⟨by simp [*], hb⟩
 ·have gL : (n == 0) = false := by simpa using tL
  have hL : (0 : Int) < n := by omega
  have hL2 : 0 < n := by omega
  go_enter Tryz.func93, Tryz.ntmps93
  go_upto_region 2 with (go_at_call 111; refine (fieldsOf_any _ _).mono ?_; rintro e w1 ⟨rfl, hb1⟩)
  obtain ⟨W, hW, hb, e0, e1, e2, e3, e4, f0, f1, f2, f3⟩ := boxes5 _ _ _ _ _ _ hb1 (.bool (fldA 3)) (.bool (fldB 3)) (.bool (fldC 3)) (.bool (fldL 3)) 115
  rw [← hW]
  clear hW hb1
  simp only [show fldA 3 = true from rfl, show fldB 3 = true from rfl, show fldC 3 = true from rfl, show fldL 3 = false from rfl] at f0 f1 f2 f3 ⊢
  go_wp2
  all_goals exact bodyPost_ret (v := .tuple #[.nilIface, .bool false]) (by simp [results, Tryz.results93, go_sem]) rfl ⟨by simp [*], hb⟩
set_option maxHeartbeats 1000000 in
theorem stepOf_dropStep (a b c : Int) (XA : Option Addr) (n cap : Nat) (w : World) (hn : n ≤ 1048576) :
  Calls Tryz.prog 93 #[.agg #[.int .i64 4, .int .i64 a, .int .i64 b, .int .i64 c, .slice XA n cap]] w fun e w' =>
   e = .returned (.tuple #[if ((b == 0) && ((c == 0) && ((n == 0)))) = true then .iface 124 (.agg #[.int .i64 a]) else .nilIface, .bool ((b == 0) && ((c == 0) && ((n == 0))))]) ∧ Below w.heap.size w w' := by
 by_cases tB : b = 0
 ·subst tB
  by_cases tC : c = 0
  ·subst tC
   by_cases tL : n = 0
   ·subst tL
    go_enter Tryz.func93, Tryz.ntmps93
    go_upto_region 2 with (go_at_call 111; refine (fieldsOf_any _ _).mono ?_; rintro e w1 ⟨rfl, hb1⟩)
    obtain ⟨W, hW, hb, e0, e1, e2, e3, e4, f0, f1, f2, f3⟩ := boxes5 _ _ _ _ _ _ hb1 (.bool (fldA 4)) (.bool (fldB 4)) (.bool (fldC 4)) (.bool (fldL 4)) 115
    rw [← hW]
    clear hW hb1
    simp only [show fldA 4 = true from rfl, show fldB 4 = false from rfl, show fldC 4 = false from rfl, show fldL 4 = false from rfl] at f0 f1 f2 f3 ⊢
    go_wp2
    all_goals exact bodyPost_ret (v := .tuple #[.iface 124 (.agg #[.int .i64 a]), .bool true]) (by simp [results, Tryz.results93, go_sem]) rfl ⟨by simp [*], hb⟩
   ·have gL : (n == 0) = false := by simpa using tL
    have hL : (0 : Int) < n := by omega
    have hL2 : 0 < n := by omega
    go_enter Tryz.func93, Tryz.ntmps93
    go_upto_region 2 with (go_at_call 111; refine (fieldsOf_any _ _).mono ?_; rintro e w1 ⟨rfl, hb1⟩)
    obtain ⟨W, hW, hb, e0, e1, e2, e3, e4, f0, f1, f2, f3⟩ := boxes5 _ _ _ _ _ _ hb1 (.bool (fldA 4)) (.bool (fldB 4)) (.bool (fldC 4)) (.bool (fldL 4)) 115
    rw [← hW]
    clear hW hb1
    simp only [show fldA 4 = true from rfl, show fldB 4 = false from rfl, show fldC 4 = false from rfl, show fldL 4 = false from rfl] at f0 f1 f2 f3 ⊢
    go_wp2
    all_goals exact bodyPost_ret (v := .tuple #[.nilIface, .bool false]) (by simp [results, Tryz.results93, go_sem]) rfl ⟨by simp [*], hb⟩
  ·have gC : (c == 0) = false := by simpa using tC
   have hC : (c != 0) = true := by simpa using tC
   go_enter Tryz.func93, Tryz.ntmps93
   go_upto_region 2 with (go_at_call 111; refine (fieldsOf_any _ _).mono ?_; rintro e w1 ⟨rfl, hb1⟩)
   obtain ⟨W, hW, hb, e0, e1, e2, e3, e4, f0, f1, f2, f3⟩ := boxes5 _ _ _ _ _ _ hb1 (.bool (fldA 4)) (.bool (fldB 4)) (.bool (fldC 4)) (.bool (fldL 4)) 115
   rw [← hW]
   clear hW hb1
   simp only [show fldA 4 = true from rfl, show fldB 4 = false from rfl, show fldC 4 = false from rfl, show fldL 4 = false from rfl] at f0 f1 f2 f3 ⊢
   go_wp2
   all_goals exact bodyPost_ret (v := .tuple #[.nilIface, .bool false]) (by simp [results, Tryz.results93, go_sem]) rfl ⟨by simp [*], hb⟩
 ·have gB : (b == 0) = false := by simpa using tB
  have hB : (b != 0) = true := by simpa using tB
  go_enter Tryz.func93, Tryz.ntmps93
  go_upto_region 2 with (go_at_call 111; refine (fieldsOf_any _ _).mono ?_; rintro e w1 ⟨rfl, hb1⟩)
  obtain ⟨W, hW, hb, e0, e1, e2, e3, e4, f0, f1, f2, f3⟩ := boxes5 _ _ _ _ _ _ hb1 (.bool (fldA 4)) (.bool (fldB 4)) (.bool (fldC 4)) (.bool (fldL 4)) 115
  rw [← hW]
  clear hW hb1
  simp only [show fldA 4 = true from rfl, show fldB 4 = false from rfl, show fldC 4 = false from rfl, show fldL 4 = false from rfl] at f0 f1 f2 f3 ⊢
  go_wp2
  all_goals exact bodyPost_ret (v := .tuple #[.nilIface, .bool false]) (by simp [results, Tryz.results93, go_sem]) rfl ⟨by simp [*], hb⟩
set_option maxHeartbeats 1000000 in
theorem stepOf_putStep (a b c : Int) (XA : Option Addr) (n cap : Nat) (w : World) (hn : n ≤ 1048576) :
  Calls Tryz.prog 93 #[.agg #[.int .i64 5, .int .i64 a, .int .i64 b, .int .i64 c, .slice XA n cap]] w fun e w' =>
   e = .returned (.tuple #[if ((b == 0) && ((c == 0) && ((n == 0)))) = true then .iface 125 (.agg #[.int .i64 a]) else .nilIface, .bool ((b == 0) && ((c == 0) && ((n == 0))))]) ∧ Below w.heap.size w w' := by
 by_cases tB : b = 0
 ·subst tB
  by_cases tC : c = 0
  ·subst tC
   by_cases tL : n = 0
   ·subst tL
    go_enter Tryz.func93, Tryz.ntmps93
    go_upto_region 2 with (go_at_call 111; refine (fieldsOf_any _ _).mono ?_; rintro e w1 ⟨rfl, hb1⟩)
    obtain ⟨W, hW, hb, e0, e1, e2, e3, e4, f0, f1, f2, f3⟩ := boxes5 _ _ _ _ _ _ hb1 (.bool (fldA 5)) (.bool (fldB 5)) (.bool (fldC 5)) (.bool (fldL 5)) 115
    rw [← hW]
    clear hW hb1
    simp only [show fldA 5 = true from rfl, show fldB 5 = false from rfl, show fldC 5 = false from rfl, show fldL 5 = false from rfl] at f0 f1 f2 f3 ⊢
    go_wp2
    all_goals exact bodyPost_ret (v := .tuple #[.iface 125 (.agg #[.int .i64 a]), .bool true]) (by simp [results, Tryz.results93, go_sem]) rfl ⟨by simp [*], hb⟩
   ·have gL : (n == 0) = false := by simpa using tL
    have hL : (0 : Int) < n := by omega
    have hL2 : 0 < n := by omega
    go_enter Tryz.func93, Tryz.ntmps93
    go_upto_region 2 with (go_at_call 111; refine (fieldsOf_any _ _).mono ?_; rintro e w1 ⟨rfl, hb1⟩)
    obtain ⟨W, hW, hb, e0, e1, e2, e3, e4, f0, f1, f2, f3⟩ := boxes5 _ _ _ _ _ _ hb1 (.bool (fldA 5)) (.bool (fldB 5)) (.bool (fldC 5)) (.bool (fldL 5)) 115
    rw [← hW]
    clear hW hb1
    simp only [show fldA 5 = true from rfl, show fldB 5 = false from rfl, show fldC 5 = false from rfl, show fldL 5 = false from rfl] at f0 f1 f2 f3 ⊢
    go_wp2
    all_goals exact bodyPost_ret (v := .tuple #[.nilIface, .bool false]) (by simp [results, Tryz.results93, go_sem]) rfl ⟨by simp [*], hb⟩
  ·have gC : (c == 0) = false := by simpa using tC
   have hC : (c != 0) = true := by simpa using tC
   go_enter Tryz.func93, Tryz.ntmps93
   go_upto_region 2 with (go_at_call 111; refine (fieldsOf_any _ _).mono ?_; rintro e w1 ⟨rfl, hb1⟩)
   obtain ⟨W, hW, hb, e0, e1, e2, e3, e4, f0, f1, f2, f3⟩ := boxes5 _ _ _ _ _ _ hb1 (.bool (fldA 5)) (.bool (fldB 5)) (.bool (fldC 5)) (.bool (fldL 5)) 115
   rw [← hW]
   clear hW hb1
   simp only [show fldA 5 = true from rfl, show fldB 5 = false from rfl, show fldC 5 = false from rfl, show fldL 5 = false from rfl] at f0 f1 f2 f3 ⊢
   go_wp2
   all_goals exact bodyPost_ret (v := .tuple #[.nilIface, .bool false]) (by simp [results, Tryz.results93, go_sem]) rfl ⟨by simp [*], hb⟩
 ·have gB : (b == 0) = false := by simpa using tB
  have hB : (b != 0) = true := by simpa using tB
  go_enter Tryz.func93, Tryz.ntmps93
  go_upto_region 2 with (go_at_call 111; refine (fieldsOf_any _ _).mono ?_; rintro e w1 ⟨rfl, hb1⟩)
  obtain ⟨W, hW, hb, e0, e1, e2, e3, e4, f0, f1, f2, f3⟩ := boxes5 _ _ _ _ _ _ hb1 (.bool (fldA 5)) (.bool (fldB 5)) (.bool (fldC 5)) (.bool (fldL 5)) 115
  rw [← hW]
  clear hW hb1
  simp only [show fldA 5 = true from rfl, show fldB 5 = false from rfl, show fldC 5 = false from rfl, show fldL 5 = false from rfl] at f0 f1 f2 f3 ⊢
  go_wp2
  all_goals exact bodyPost_ret (v := .tuple #[.nilIface, .bool false]) (by simp [results, Tryz.results93, go_sem]) rfl ⟨by simp [*], hb⟩
set_option maxHeartbeats 1000000 in
theorem stepOf_solveStep (a b c : Int) (XA : Option Addr) (n cap : Nat) (w : World) (hn : n ≤ 1048576) :
  Calls Tryz.prog 93 #[.agg #[.int .i64 6, .int .i64 a, .int .i64 b, .int .i64 c, .slice XA n cap]] w fun e w' =>
   e = .returned (.tuple #[if ((c == 0) && ((n == 0))) = true then .iface 126 (.agg #[.int .i64 a, .int .i64 b]) else .nilIface, .bool ((c == 0) && ((n == 0)))]) ∧ Below w.heap.size w w' := by
 by_cases tC : c = 0
 ·subst tC
  by_cases tL : n = 0
  ·subst tL
   go_enter Tryz.func93, Tryz.ntmps93
   go_upto_region 2 with (go_at_call 111; refine (fieldsOf_any _ _).mono ?_; rintro e w1 ⟨rfl, hb1⟩)
   obtain ⟨W, hW, hb, e0, e1, e2, e3, e4, f0, f1, f2, f3⟩ := boxes5 _ _ _ _ _ _ hb1 (.bool (fldA 6)) (.bool (fldB 6)) (.bool (fldC 6)) (.bool (fldL 6)) 115
   rw [← hW]
   clear hW hb1
   simp only [show fldA 6 = true from rfl, show fldB 6 = true from rfl, show fldC 6 = false from rfl, show fldL 6 = false from rfl] at f0 f1 f2 f3 ⊢
   go_wp2
   all_goals exact bodyPost_ret (v := .tuple #[.iface 126 (.agg #[.int .i64 a, .int .i64 b]), .bool true]) (by simp [results, Tryz.results93, go_sem]) rfl ⟨by simp [*], hb⟩
  ·have gL : (n == 0) = false := by simpa using tL
   have hL : (0 : Int) < n := by omega
   have hL2 : 0 < n := by omega
   go_enter Tryz.func93, Tryz.ntmps93
   go_upto_region 2 with (go_at_call 111; refine (fieldsOf_any _ _).mono ?_; rintro e w1 ⟨rfl, hb1⟩)
   obtain ⟨W, hW, hb, e0, e1, e2, e3, e4, f0, f1, f2, f3⟩ := boxes5 _ _ _ _ _ _ hb1 (.bool (fldA 6)) (.bool (fldB 6)) (.bool (fldC 6)) (.bool (fldL 6)) 115
   rw [← hW]
   clear hW hb1
   simp only [show fldA 6 = true from rfl, show fldB 6 = true from rfl, show fldC 6 = false from rfl, show fldL 6 = false from rfl] at f0 f1 f2 f3 ⊢
   go_wp2
   all_goals exact bodyPost_ret (v := .tuple #[.nilIface, .bool false]) (by simp [results, Tryz.results93, go_sem]) rfl ⟨by simp [*], hb⟩
 ·have gC : (c == 0) = false := by simpa using tC
  have hC : (c != 0) = true := by simpa using tC
  go_enter Tryz.func93, Tryz.ntmps93
  go_upto_region 2 with (go_at_call 111; refine (fieldsOf_any _ _).mono ?_; rintro e w1 ⟨rfl, hb1⟩)
  obtain ⟨W, hW, hb, e0, e1, e2, e3, e4, f0, f1, f2, f3⟩ := boxes5 _ _ _ _ _ _ hb1 (.bool (fldA 6)) (.bool (fldB 6)) (.bool (fldC 6)) (.bool (fldL 6)) 115
  rw [← hW]
  clear hW hb1
  simp only [show fldA 6 = true from rfl, show fldB 6 = true from rfl, show fldC 6 = false from rfl, show fldL 6 = false from rfl] at f0 f1 f2 f3 ⊢
  go_wp2
  all_goals exact bodyPost_ret (v := .tuple #[.nilIface, .bool false]) (by simp [results, Tryz.results93, go_sem]) rfl ⟨by simp [*], hb⟩
set_option maxHeartbeats 1000000 in
theorem stepOf_bringStep (a b c : Int) (XA : Option Addr) (n cap : Nat) (w : World) (hn : n ≤ 1048576) :
  Calls Tryz.prog 93 #[.agg #[.int .i64 7, .int .i64 a, .int .i64 b, .int .i64 c, .slice XA n cap]] w fun e w' =>
   e = .returned (.tuple #[if ((c == 0)) = true then .iface 128 (.agg #[.int .i64 a, .int .i64 b, .slice XA n cap]) else .nilIface, .bool ((c == 0))]) ∧ Below w.heap.size w w' := by
 by_cases tC : c = 0
 ·subst tC
  go_enter Tryz.func93, Tryz.ntmps93
  go_upto_region 2 with (go_at_call 111; refine (fieldsOf_any _ _).mono ?_; rintro e w1 ⟨rfl, hb1⟩)
  obtain ⟨W, hW, hb, e0, e1, e2, e3, e4, f0, f1, f2, f3⟩ := boxes5 _ _ _ _ _ _ hb1 (.bool (fldA 7)) (.bool (fldB 7)) (.bool (fldC 7)) (.bool (fldL 7)) 115
  rw [← hW]
  clear hW hb1
  simp only [show fldA 7 = true from rfl, show fldB 7 = true from rfl, show fldC 7 = false from rfl, show fldL 7 = true from rfl] at f0 f1 f2 f3 ⊢
  go_wp2
  all_goals exact bodyPost_ret (v := .tuple #[.iface 128 (.agg #[.int .i64 a, .int .i64 b, .slice XA n cap]), .bool true]) (by simp [results, Tryz.results93, go_sem]) rfl ⟨by simp [*], hb⟩
 ·have gC : (c == 0) = false := by simpa using tC
  have hC : (c != 0) = true := by simpa using tC
  go_enter Tryz.func93, Tryz.ntmps93
  go_upto_region 2 with (go_at_call 111; refine (fieldsOf_any _ _).mono ?_; rintro e w1 ⟨rfl, hb1⟩)
  obtain ⟨W, hW, hb, e0, e1, e2, e3, e4, f0, f1, f2, f3⟩ := boxes5 _ _ _ _ _ _ hb1 (.bool (fldA 7)) (.bool (fldB 7)) (.bool (fldC 7)) (.bool (fldL 7)) 115
  rw [← hW]
  clear hW hb1
  simp only [show fldA 7 = true from rfl, show fldB 7 = true from rfl, show fldC 7 = false from rfl, show fldL 7 = true from rfl] at f0 f1 f2 f3 ⊢
  go_wp2
  all_goals exact bodyPost_ret (v := .tuple #[.nilIface, .bool false]) (by simp [results, Tryz.results93, go_sem]) rfl ⟨by simp [*], hb⟩
set_option maxHeartbeats 1000000 in
theorem stepOf_forgetStep (a b c : Int) (XA : Option Addr) (n cap : Nat) (w : World) (hn : n ≤ 1048576) :
  Calls Tryz.prog 93 #[.agg #[.int .i64 8, .int .i64 a, .int .i64 b, .int .i64 c, .slice XA n cap]] w fun e w' =>
   e = .returned (.tuple #[if ((a == 0) && ((c == 0) && ((n == 0)))) = true then .iface 130 (.agg #[.int .i64 b]) else .nilIface, .bool ((a == 0) && ((c == 0) && ((n == 0))))]) ∧ Below w.heap.size w w' := by
 by_cases tA : a = 0
 ·subst tA
  by_cases tC : c = 0
  ·subst tC
   by_cases tL : n = 0
   ·subst tL
    go_enter Tryz.func93, Tryz.ntmps93
    go_upto_region 2 with (go_at_call 111; refine (fieldsOf_any _ _).mono ?_; rintro e w1 ⟨rfl, hb1⟩)
    obtain ⟨W, hW, hb, e0, e1, e2, e3, e4, f0, f1, f2, f3⟩ := boxes5 _ _ _ _ _ _ hb1 (.bool (fldA 8)) (.bool (fldB 8)) (.bool (fldC 8)) (.bool (fldL 8)) 115
    rw [← hW]
    clear hW hb1
    simp only [show fldA 8 = false from rfl, show fldB 8 = true from rfl, show fldC 8 = false from rfl, show fldL 8 = false from rfl] at f0 f1 f2 f3 ⊢
    go_wp2
    all_goals exact bodyPost_ret (v := .tuple #[.iface 130 (.agg #[.int .i64 b]), .bool true]) (by simp [results, Tryz.results93, go_sem]) rfl ⟨by simp [*], hb⟩
   ·have gL : (n == 0) = false := by simpa using tL
    have hL : (0 : Int) < n := by omega
    have hL2 : 0 < n := by omega
    go_enter Tryz.func93, Tryz.ntmps93
    go_upto_region 2 with (go_at_call 111; refine (fieldsOf_any _ _).mono ?_; rintro e w1 ⟨rfl, hb1⟩)
    obtain ⟨W, hW, hb, e0, e1, e2, e3, e4, f0, f1, f2, f3⟩ := boxes5 _ _ _ _ _ _ hb1 (.bool (fldA 8)) (.bool (fldB 8)) (.bool (fldC 8)) (.bool (fldL 8)) 115
    rw [← hW]
    clear hW hb1
    simp only [show fldA 8 = false from rfl, show fldB 8 = true from rfl, show fldC 8 = false from rfl, show fldL 8 = false from rfl] at f0 f1 f2 f3 ⊢
    go_wp2
    all_goals exact bodyPost_ret (v := .tuple #[.nilIface, .bool false]) (by simp [results, Tryz.results93, go_sem]) rfl ⟨by simp [*], hb⟩
  ·have gC : (c == 0) = false := by simpa using tC
   have hC : (c != 0) = true := by simpa using tC
   go_enter Tryz.func93, Tryz.ntmps93
   go_upto_region 2 with (go_at_call 111; refine (fieldsOf_any _ _).mono ?_; rintro e w1 ⟨rfl, hb1⟩)
   obtain ⟨W, hW, hb, e0, e1, e2, e3, e4, f0, f1, f2, f3⟩ := boxes5 _ _ _ _ _ _ hb1 (.bool (fldA 8)) (.bool (fldB 8)) (.bool (fldC 8)) (.bool (fldL 8)) 115
   rw [← hW]
   clear hW hb1
   simp only [show fldA 8 = false from rfl, show fldB 8 = true from rfl, show fldC 8 = false from rfl, show fldL 8 = false from rfl] at f0 f1 f2 f3 ⊢
   go_wp2
   all_goals exact bodyPost_ret (v := .tuple #[.nilIface, .bool false]) (by simp [results, Tryz.results93, go_sem]) rfl ⟨by simp [*], hb⟩
 ·have gA : (a == 0) = false := by simpa using tA
  have hA : (a != 0) = true := by simpa using tA
  go_enter Tryz.func93, Tryz.ntmps93
  go_upto_region 2 with (go_at_call 111; refine (fieldsOf_any _ _).mono ?_; rintro e w1 ⟨rfl, hb1⟩)
  obtain ⟨W, hW, hb, e0, e1, e2, e3, e4, f0, f1, f2, f3⟩ := boxes5 _ _ _ _ _ _ hb1 (.bool (fldA 8)) (.bool (fldB 8)) (.bool (fldC 8)) (.bool (fldL 8)) 115
  rw [← hW]
  clear hW hb1
  simp only [show fldA 8 = false from rfl, show fldB 8 = true from rfl, show fldC 8 = false from rfl, show fldL 8 = false from rfl] at f0 f1 f2 f3 ⊢
  go_wp2
  all_goals exact bodyPost_ret (v := .tuple #[.nilIface, .bool false]) (by simp [results, Tryz.results93, go_sem]) rfl ⟨by simp [*], hb⟩
set_option maxHeartbeats 1000000 in
theorem stepOf_inventStep (a b c : Int) (XA : Option Addr) (n cap : Nat) (w : World) (hn : n ≤ 1048576) :
  Calls Tryz.prog 93 #[.agg #[.int .i64 9, .int .i64 a, .int .i64 b, .int .i64 c, .slice XA n cap]] w fun e w' =>
   e = .returned (.tuple #[if ((a == 0) && ((c == 0) && ((n == 0)))) = true then .iface 131 (.agg #[.int .i64 b]) else .nilIface, .bool ((a == 0) && ((c == 0) && ((n == 0))))]) ∧ Below w.heap.size w w' := by
 by_cases tA : a = 0
 ·subst tA
  by_cases tC : c = 0
  ·subst tC
   by_cases tL : n = 0
   ·subst tL
    go_enter Tryz.func93, Tryz.ntmps93
    go_upto_region 2 with (go_at_call 111; refine (fieldsOf_any _ _).mono ?_; rintro e w1 ⟨rfl, hb1⟩)
    obtain ⟨W, hW, hb, e0, e1, e2, e3, e4, f0, f1, f2, f3⟩ := boxes5 _ _ _ _ _ _ hb1 (.bool (fldA 9)) (.bool (fldB 9)) (.bool (fldC 9)) (.bool (fldL 9)) 115
    rw [← hW]
    clear hW hb1
    simp only [show fldA 9 = false from rfl, show fldB 9 = true from rfl, show fldC 9 = false from rfl, show fldL 9 = false from rfl] at f0 f1 f2 f3 ⊢
    go_wp2
    all_goals exact bodyPost_ret (v := .tuple #[.iface 131 (.agg #[.int .i64 b]), .bool true]) (by simp [results, Tryz.results93, go_sem]) rfl ⟨by simp [*], hb⟩
   ·have gL : (n == 0) = false := by simpa using tL
    have hL : (0 : Int) < n := by omega
    have hL2 : 0 < n := by omega
    go_enter Tryz.func93, Tryz.ntmps93
    go_upto_region 2 with (go_at_call 111; refine (fieldsOf_any _ _).mono ?_; rintro e w1 ⟨rfl, hb1⟩)
    obtain ⟨W, hW, hb, e0, e1, e2, e3, e4, f0, f1, f2, f3⟩ := boxes5 _ _ _ _ _ _ hb1 (.bool (fldA 9)) (.bool (fldB 9)) (.bool (fldC 9)) (.bool (fldL 9)) 115
    rw [← hW]
    clear hW hb1
    simp only [show fldA 9 = false from rfl, show fldB 9 = true from rfl, show fldC 9 = false from rfl, show fldL 9 = false from rfl] at f0 f1 f2 f3 ⊢
    go_wp2
    all_goals exact bodyPost_ret (v := .tuple #[.nilIface, .bool false]) (by simp [results, Tryz.results93, go_sem]) rfl ⟨by simp [*], hb⟩
  ·have gC : (c == 0) = false := by simpa using tC
   have hC : (c != 0) = true := by simpa using tC
   go_enter Tryz.func93, Tryz.ntmps93
   go_upto_region 2 with (go_at_call 111; refine (fieldsOf_any _ _).mono ?_; rintro e w1 ⟨rfl, hb1⟩)
   obtain ⟨W, hW, hb, e0, e1, e2, e3, e4, f0, f1, f2, f3⟩ := boxes5 _ _ _ _ _ _ hb1 (.bool (fldA 9)) (.bool (fldB 9)) (.bool (fldC 9)) (.bool (fldL 9)) 115
   rw [← hW]
   clear hW hb1
   simp only [show fldA 9 = false from rfl, show fldB 9 = true from rfl, show fldC 9 = false from rfl, show fldL 9 = false from rfl] at f0 f1 f2 f3 ⊢
   go_wp2
   all_goals exact bodyPost_ret (v := .tuple #[.nilIface, .bool false]) (by simp [results, Tryz.results93, go_sem]) rfl ⟨by simp [*], hb⟩
 ·have gA : (a == 0) = false := by simpa using tA
  have hA : (a != 0) = true := by simpa using tA
  go_enter Tryz.func93, Tryz.ntmps93
  go_upto_region 2 with (go_at_call 111; refine (fieldsOf_any _ _).mono ?_; rintro e w1 ⟨rfl, hb1⟩)
  obtain ⟨W, hW, hb, e0, e1, e2, e3, e4, f0, f1, f2, f3⟩ := boxes5 _ _ _ _ _ _ hb1 (.bool (fldA 9)) (.bool (fldB 9)) (.bool (fldC 9)) (.bool (fldL 9)) 115
  rw [← hW]
  clear hW hb1
  simp only [show fldA 9 = false from rfl, show fldB 9 = true from rfl, show fldC 9 = false from rfl, show fldL 9 = false from rfl] at f0 f1 f2 f3 ⊢
  go_wp2
  all_goals exact bodyPost_ret (v := .tuple #[.nilIface, .bool false]) (by simp [results, Tryz.results93, go_sem]) rfl ⟨by simp [*], hb⟩
set_option maxHeartbeats 1000000 in
theorem stepOf_other (k a b c : Int) (XA : Option Addr) (n cap : Nat) (w : World) (hn : n ≤ 1048576) (h1 : k ≠ 1) (h2 : k ≠ 2) (h3 : k ≠ 3) (h4 : k ≠ 4) (h5 : k ≠ 5) (h6 : k ≠ 6) (h7 : k ≠ 7) (h8 : k ≠ 8) (h9 : k ≠ 9) :
  Calls Tryz.prog 93 #[.agg #[.int .i64 k, .int .i64 a, .int .i64 b, .int .i64 c, .slice XA n cap]] w fun e w' =>
   e = .returned (.tuple #[.nilIface, .bool false]) ∧ Below w.heap.size w w' := by
 by_cases tB : b = 0
 ·subst tB
  by_cases tC : c = 0
  ·subst tC
   by_cases tL : n = 0
   ·subst tL
    go_enter Tryz.func93, Tryz.ntmps93
    go_upto_region 2 with (go_at_call 111; refine (fieldsOf_any _ _).mono ?_; rintro e w1 ⟨rfl, hb1⟩)
    obtain ⟨W, hW, hb, e0, e1, e2, e3, e4, f0, f1, f2, f3⟩ := boxes5 _ _ _ _ _ _ hb1 (.bool (fldA k)) (.bool (fldB k)) (.bool (fldC k)) (.bool (fldL k)) 115
    rw [← hW]
    clear hW hb1
    simp only [show fldA k = true by simp [fldA, *], show fldB k = false by simp [fldB, *], show fldC k = false by simp [fldC, *], show fldL k = false by simp [fldL, *]] at f0 f1 f2 f3 ⊢
    go_wp2
    all_goals exact bodyPost_ret (v := .tuple #[.nilIface, .bool false]) (by simp [results, Tryz.results93, go_sem]) rfl ⟨rfl, hb⟩
   ·have gL : (n == 0) = false := by simpa using tL
    have hL : (0 : Int) < n := by omega
    have hL2 : 0 < n := by omega
    go_enter Tryz.func93, Tryz.ntmps93
    go_upto_region 2 with (go_at_call 111; refine (fieldsOf_any _ _).mono ?_; rintro e w1 ⟨rfl, hb1⟩)
    obtain ⟨W, hW, hb, e0, e1, e2, e3, e4, f0, f1, f2, f3⟩ := boxes5 _ _ _ _ _ _ hb1 (.bool (fldA k)) (.bool (fldB k)) (.bool (fldC k)) (.bool (fldL k)) 115
    rw [← hW]
    clear hW hb1
    simp only [show fldA k = true by simp [fldA, *], show fldB k = false by simp [fldB, *], show fldC k = false by simp [fldC, *], show fldL k = false by simp [fldL, *]] at f0 f1 f2 f3 ⊢
    go_wp2
    all_goals exact bodyPost_ret (v := .tuple #[.nilIface, .bool false]) (by simp [results, Tryz.results93, go_sem]) rfl ⟨rfl, hb⟩
  ·have gC : (c == 0) = false := by simpa using tC
   have hC : (c != 0) = true := by simpa using tC
   go_enter Tryz.func93, Tryz.ntmps93
   go_upto_region 2 with (go_at_call 111; refine (fieldsOf_any _ _).mono ?_; rintro e w1 ⟨rfl, hb1⟩)
   obtain ⟨W, hW, hb, e0, e1, e2, e3, e4, f0, f1, f2, f3⟩ := boxes5 _ _ _ _ _ _ hb1 (.bool (fldA k)) (.bool (fldB k)) (.bool (fldC k)) (.bool (fldL k)) 115
   rw [← hW]
   clear hW hb1
   simp only [show fldA k = true by simp [fldA, *], show fldB k = false by simp [fldB, *], show fldC k = false by simp [fldC, *], show fldL k = false by simp [fldL, *]] at f0 f1 f2 f3 ⊢
   go_wp2
   all_goals exact bodyPost_ret (v := .tuple #[.nilIface, .bool false]) (by simp [results, Tryz.results93, go_sem]) rfl ⟨rfl, hb⟩
 ·have gB : (b == 0) = false := by simpa using tB
  have hB : (b != 0) = true := by simpa using tB
  go_enter Tryz.func93, Tryz.ntmps93
  go_upto_region 2 with (go_at_call 111; refine (fieldsOf_any _ _).mono ?_; rintro e w1 ⟨rfl, hb1⟩)
  obtain ⟨W, hW, hb, e0, e1, e2, e3, e4, f0, f1, f2, f3⟩ := boxes5 _ _ _ _ _ _ hb1 (.bool (fldA k)) (.bool (fldB k)) (.bool (fldC k)) (.bool (fldL k)) 115
  rw [← hW]
  clear hW hb1
  simp only [show fldA k = true by simp [fldA, *], show fldB k = false by simp [fldB, *], show fldC k = false by simp [fldC, *], show fldL k = false by simp [fldL, *]] at f0 f1 f2 f3 ⊢
  go_wp2
  all_goals exact bodyPost_ret (v := .tuple #[.nilIface, .bool false]) (by simp [results, Tryz.results93, go_sem]) rfl ⟨rfl, hb⟩
end Go.Proofs.YtjdbfokbgmbphaaGreatDoor
