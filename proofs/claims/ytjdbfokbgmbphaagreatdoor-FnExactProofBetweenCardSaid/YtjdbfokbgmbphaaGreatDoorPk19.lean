/- makeStep, kind by kind: given the contracts of the step's own methods. -/
import Derived.Test.YtjdbfokbgmbphaaGreatDoorPk18
namespace Go.Proofs.YtjdbfokbgmbphaaGreatDoor
set_option linter.unusedVariables false
set_option linter.unusedSimpArgs false
open Go.RowKit
theorem cells3 {W : World} {g : Nat} {x0 x1 x2 : Value} {T : TypeId} (h : W.heap[g]? = some (.cells #[x0, x1, x2] T (0, 0))) :
  W.cell? ⟨g, 0, none⟩ = some x0 ∧ W.cell? ⟨g, 1, none⟩ = some x1 ∧ W.cell? ⟨g, 2, none⟩ = some x2 ∧ W.frozen? ⟨g, 0, none⟩ = false ∧ W.frozen? ⟨g, 1, none⟩ = false ∧ W.frozen? ⟨g, 2, none⟩ = false :=
 ⟨blk_cell h 0, blk_cell h 1, blk_cell h 2, blk_free h 0, blk_free h 1, blk_free h 2⟩
/-- What makeStep gives: the new system in memory of its own, or nothing. -/
def Made (v' h' : Int) (rows' : List (List Int)) (ok : Bool) (w : World) (e : Ending) (w' : World) : Prop :=
 ∃ (v2 h2 : Int) (A2 : Option Addr) (n2 c2 : Nat), e = .returned (.tuple #[.agg #[.int .i64 v2, .int .i64 h2, .slice A2 n2 c2], .bool ok]) ∧ (ok = true → v2 = v' ∧ h2 = h' ∧ OwnRows w' w.heap.size (.slice A2 n2 c2) rows') ∧ (ok = false → v2 = 0 ∧ h2 = 0 ∧ A2 = none ∧ n2 = 0 ∧ c2 = 0) ∧ Below w.heap.size w w'
theorem Made.no {v' h' : Int} {rows' : List (List Int)} {ok : Bool} {w w' : World} {e : Ending} (h : ok = false) (he : e = .returned (.tuple #[.agg #[.int .i64 0, .int .i64 0, .slice none 0 0], .bool false])) (hb : Below w.heap.size w w') : Made v' h' rows' ok w e w' := by
 subst h; exact ⟨0, 0, none, 0, 0, he, fun h => (by cases h), fun _ => ⟨rfl, rfl, rfl, rfl, rfl⟩, hb⟩
theorem Made.yes {v' h' : Int} {A3 : Option Addr} {n3 c3 : Nat} {rows' : List (List Int)} {ok : Bool} {w w' : World} {e : Ending} (h : ok = true) (he : e = .returned (.tuple #[.agg #[.int .i64 v', .int .i64 h', .slice A3 n3 c3], .bool true]))
  (ho : OwnRows w' w.heap.size (.slice A3 n3 c3) rows') (hb : Below w.heap.size w w') : Made v' h' rows' ok w e w' := by
 subst h; exact ⟨v', h', A3, n3, c3, he, fun _ => ⟨rfl, rfl, ho⟩, fun h => (by cases h), hb⟩
theorem Made.none {v1 h1 v' h' : Int} {r1 rows' : List (List Int)} {ok1 ok : Bool} {w w' : World} {e : Ending} (m : Made v1 h1 r1 ok1 w e w') (h1 : ok1 = false) (h : ok = false) : Made v' h' rows' ok w e w' := by
 subst h1; subst h
 obtain ⟨v2, h2, A2, n2, c2, he, _, hz, hb⟩ := m
 obtain ⟨rfl, rfl, rfl, rfl, rfl⟩ := hz rfl
 exact Made.no rfl he hb
theorem Made.same {v' h' : Int} {rows' : List (List Int)} {ok1 ok : Bool} {w w' : World} {e : Ending} (m : Made v' h' rows' ok1 w e w') (h : ok1 = ok) : Made v' h' rows' ok w e w' := h ▸ m
theorem meth_swapStep_can (y0 : Value) (y1 : Value) (w : World) : (method 277 118 (.agg #[y0, y1]) "loop.example/g01073/impl.can").run Tryz.prog w = .ok (161, (.agg #[y0, y1])) w := by kernel_rfl
theorem nil_swapStep_can (y0 : Value) (y1 : Value) (w : World) : (nilAhead 277 118 (.agg #[y0, y1]) "loop.example/g01073/impl.can").run Tryz.prog w = .ok (some false) w := by kernel_rfl
theorem meth_swapStep_do (y0 : Value) (y1 : Value) (w : World) : (method 277 118 (.agg #[y0, y1]) "loop.example/g01073/impl.do").run Tryz.prog w = .ok (162, (.agg #[y0, y1])) w := by kernel_rfl
theorem nil_swapStep_do (y0 : Value) (y1 : Value) (w : World) : (nilAhead 277 118 (.agg #[y0, y1]) "loop.example/g01073/impl.do").run Tryz.prog w = .ok (some false) w := by kernel_rfl
set_option maxRecDepth 20000 in
set_option maxHeartbeats 4000000 in
theorem make_swapStep (p v h v' h' : Int) (A : Option Addr) (cap : Nat) (rows rows' : List (List Int)) (w : World) (can : Bool) (a b c : Int) (XA : Option Addr) (n xcap : Nat)
  (SO : ∀ W, Calls Tryz.prog 93 #[.agg #[.int .i64 1, .int .i64 a, .int .i64 b, .int .i64 c, .slice XA n xcap]] W fun e w' => e = .returned (.tuple #[.iface 118 (.agg #[.int .i64 a, .int .i64 b]), .bool true]) ∧ Below W.heap.size W w')
  (CAN : ∀ W, Below w.heap.size w W → Calls Tryz.prog 161 #[(.agg #[.int .i64 a, .int .i64 b]), .int .i64 p, .agg #[.int .i64 v, .int .i64 h, .slice A rows.length cap]] W fun e w' => e = .returned (.bool can) ∧ Below W.heap.size W w')
  (DO : can = true → ∀ W, Below w.heap.size w W → Calls Tryz.prog 162 #[(.agg #[.int .i64 a, .int .i64 b]), .int .i64 p, .agg #[.int .i64 v, .int .i64 h, .slice A rows.length cap]] W fun e w' => ∃ u, e = .returned (.agg #[.int .i64 v', .int .i64 h', u]) ∧ OwnRows w' W.heap.size u rows' ∧ Below W.heap.size W w')
  (hP : Primes w) (hm : rows'.length ≤ maxLen) (hms : ∀ r ∈ rows', r.length ≤ maxLen) :
  Calls Tryz.prog 53 #[.int .i64 p, .agg #[.int .i64 v, .int .i64 h, .slice A rows.length cap], .agg #[.int .i64 1, .int .i64 a, .int .i64 b, .int .i64 c, .slice XA n xcap]] w fun e w' =>
   Made v' h' rows' (can && sysB p v' h' rows') w e w' := by
 have HSO := Lib.hid SO; have HCAN := Lib.hid CAN; have HDO := Lib.hid DO; have HP := Lib.hid hP; have HM := Lib.hid hm; have HMS := Lib.hid hms
 clear SO CAN DO hP hm hms
 have mc := meth_swapStep_can (.int .i64 a) (.int .i64 b)
 have nc := nil_swapStep_can (.int .i64 a) (.int .i64 b)
 have md := meth_swapStep_do (.int .i64 a) (.int .i64 b)
 have nd := nil_swapStep_do (.int .i64 a) (.int .i64 b)
 go_enter Tryz.func53, Tryz.ntmps53
 go_upto_region 2 with (go_at_call 93; refine (HSO.out _).mono ?_; rintro e w1 ⟨rfl, hb1⟩)
 have hB3 := (below_alloc3 w (.cells #[.int .i64 v, .int .i64 h, .slice A rows.length cap] 30) (.cells #[.int .i64 1, .int .i64 a, .int .i64 b, .int .i64 c, .slice XA n xcap] 34) (.cells #[.int .i64 0, .int .i64 0, .slice none 0 0] 30))
 obtain ⟨q0, q1, q2⟩ := heap_at3 w (.cells #[.int .i64 v, .int .i64 h, .slice A rows.length cap] 30) (.cells #[.int .i64 1, .int .i64 a, .int .i64 b, .int .i64 c, .slice XA n xcap] 34) (.cells #[.int .i64 0, .int .i64 0, .slice none 0 0] 30)
 have m0 := boxb hb1 q0
 have m2 := boxb hb1 q2
 have hb := hB3.trans (hb1.mono (B' := w.heap.size) (by simp <;> omega))
 have hsz := hb1.size
 simp only [World.size_alloc] at hsz
 obtain ⟨e0, e1, e2, _, _, _⟩ := cells3 m0
 have HB := Lib.hid hb; have M0 := Lib.hid m0; have M2 := Lib.hid m2
 clear q0 q1 q2 m0 m2 hb hb1 hB3
 cases can with
 | false =>
  clear HDO md nd
  go_wp2_with (go_at_call 161; refine (HCAN.out _ HB.out).mono ?_; rintro e w2 ⟨rfl, hb2⟩; obtain ⟨g0, g1, g2, g3, g4, g5⟩ := cells3 (boxb hb2 M2.out); have HB2 := Lib.hid hb2; clear hb2)
  refine bodyPost_ret (v := .tuple #[.agg #[.int .i64 0, .int .i64 0, .slice none 0 0], .bool false]) (by simp [results, Tryz.results53, go_sem, *]) rfl (Made.no (Bool.false_and _) rfl ?_)
  exact (((HB.out.trans (HB2.out.mono (by omega))).setCell (by simp <;> omega) _).setCell (by simp <;> omega) _).setCell (by simp <;> omega) _
 | true =>
  go_upto_region 4 with (go_at_call 161; refine (HCAN.out _ HB.out).mono ?_; rintro e w2 ⟨rfl, hb2⟩; obtain ⟨g0, g1, g2, _, _, _⟩ := cells3 (boxb hb2 M0.out); have HB2 := Lib.hid hb2; clear hb2)
  have hbw2 := HB.out.trans (HB2.out.mono (by omega))
  have hs2 := HB2.out.size
  have HBW2 := Lib.hid hbw2
  have DO2 := Lib.hid (HDO.out (by trivial) w2 hbw2)
  clear hbw2
  cases hs : sysB p v' h' rows' with
  | false =>
   have HS := Lib.hid hs
   clear hs
   go_wp2_with (first | (go_at_call 162; refine DO2.out.mono ?_; rintro e w3 ⟨u, rfl, hu, hb3⟩; obtain ⟨A3, c3, rfl, hr3, _, _⟩ := hu.view; have hbw3 := HBW2.out.trans (hb3.mono (by omega)); have HR3 := Lib.hid hr3; have HU := Lib.hid hu; have HB3 := Lib.hid hb3; have HBW3 := Lib.hid hbw3; clear hu hb3 hr3 hbw3) | (go_at_call 94; refine (validSystem_any p v' h' A3 c3 rows' _ (HP.out.ext HBW3.out) HR3.out HM.out HMS.out).mono ?_; rintro e w4 ⟨_, he, hb4⟩; obtain rfl := he HS.out; clear he; obtain ⟨g0, g1, g2, g3, g4, g5⟩ := cells3 (boxb hb4 (boxb HB3.out (boxb HB2.out M2.out))); have HB4 := Lib.hid hb4; clear hb4))
   refine bodyPost_ret (v := .tuple #[.agg #[.int .i64 0, .int .i64 0, .slice none 0 0], .bool false]) (by simp [results, Tryz.results53, go_sem, *]) rfl (Made.no (by rw [HS.out]; rfl) rfl ?_)
   exact (((HBW3.out.trans (HB4.out.mono (by have := HB3.out.size; omega))).setCell (by simp <;> omega) _).setCell (by simp <;> omega) _).setCell (by simp <;> omega) _
  | true =>
   have HS := Lib.hid hs
   clear hs
   go_wp2_with (first | (go_at_call 162; refine DO2.out.mono ?_; rintro e w3 ⟨u, rfl, hu, hb3⟩; obtain ⟨A3, c3, rfl, hr3, _, _⟩ := hu.view; have hbw3 := HBW2.out.trans (hb3.mono (by omega)); have HR3 := Lib.hid hr3; have HU := Lib.hid hu; have HB3 := Lib.hid hb3; have HBW3 := Lib.hid hbw3; clear hu hb3 hr3 hbw3) | (go_at_call 94; refine (validSystem_any p v' h' A3 c3 rows' _ (HP.out.ext HBW3.out) HR3.out HM.out HMS.out).mono ?_; rintro e w4 ⟨he, _, hb4⟩; obtain rfl := he HS.out; clear he; obtain ⟨g0, g1, g2, g3, g4, g5⟩ := cells3 (boxb hb4 (boxb HB3.out (boxb HB2.out M2.out))); have HB4 := Lib.hid hb4; clear hb4))
   refine bodyPost_ret (v := .tuple #[.agg #[.int .i64 v', .int .i64 h', .slice A3 rows'.length c3], .bool true]) (by simp [results, Tryz.results53, go_sem, *]) rfl (Made.yes (by rw [HS.out]; rfl) rfl ?_ ?_)
   ·exact ((((HU.out.ext HB4.out).setCell (by simp <;> omega) _).setCell (by simp <;> omega) _).setCell (by simp <;> omega) _).mono (by omega)
   ·exact (((HBW3.out.trans (HB4.out.mono (by have := HB3.out.size; omega))).setCell (by simp <;> omega) _).setCell (by simp <;> omega) _).setCell (by simp <;> omega) _
theorem meth_scaleStep_can (y0 : Value) (y1 : Value) (w : World) : (method 277 120 (.agg #[y0, y1]) "loop.example/g01073/impl.can").run Tryz.prog w = .ok (165, (.agg #[y0, y1])) w := by kernel_rfl
theorem nil_scaleStep_can (y0 : Value) (y1 : Value) (w : World) : (nilAhead 277 120 (.agg #[y0, y1]) "loop.example/g01073/impl.can").run Tryz.prog w = .ok (some false) w := by kernel_rfl
theorem meth_scaleStep_do (y0 : Value) (y1 : Value) (w : World) : (method 277 120 (.agg #[y0, y1]) "loop.example/g01073/impl.do").run Tryz.prog w = .ok (166, (.agg #[y0, y1])) w := by kernel_rfl
theorem nil_scaleStep_do (y0 : Value) (y1 : Value) (w : World) : (nilAhead 277 120 (.agg #[y0, y1]) "loop.example/g01073/impl.do").run Tryz.prog w = .ok (some false) w := by kernel_rfl
set_option maxRecDepth 20000 in
set_option maxHeartbeats 4000000 in
theorem make_scaleStep (p v h v' h' : Int) (A : Option Addr) (cap : Nat) (rows rows' : List (List Int)) (w : World) (can : Bool) (a b c : Int) (XA : Option Addr) (n xcap : Nat)
  (SO : ∀ W, Calls Tryz.prog 93 #[.agg #[.int .i64 2, .int .i64 a, .int .i64 b, .int .i64 c, .slice XA n xcap]] W fun e w' => e = .returned (.tuple #[.iface 120 (.agg #[.int .i64 a, .int .i64 c]), .bool true]) ∧ Below W.heap.size W w')
  (CAN : ∀ W, Below w.heap.size w W → Calls Tryz.prog 165 #[(.agg #[.int .i64 a, .int .i64 c]), .int .i64 p, .agg #[.int .i64 v, .int .i64 h, .slice A rows.length cap]] W fun e w' => e = .returned (.bool can) ∧ Below W.heap.size W w')
  (DO : can = true → ∀ W, Below w.heap.size w W → Calls Tryz.prog 166 #[(.agg #[.int .i64 a, .int .i64 c]), .int .i64 p, .agg #[.int .i64 v, .int .i64 h, .slice A rows.length cap]] W fun e w' => ∃ u, e = .returned (.agg #[.int .i64 v', .int .i64 h', u]) ∧ OwnRows w' W.heap.size u rows' ∧ Below W.heap.size W w')
  (hP : Primes w) (hm : rows'.length ≤ maxLen) (hms : ∀ r ∈ rows', r.length ≤ maxLen) :
  Calls Tryz.prog 53 #[.int .i64 p, .agg #[.int .i64 v, .int .i64 h, .slice A rows.length cap], .agg #[.int .i64 2, .int .i64 a, .int .i64 b, .int .i64 c, .slice XA n xcap]] w fun e w' =>
   Made v' h' rows' (can && sysB p v' h' rows') w e w' := by
 have HSO := Lib.hid SO; have HCAN := Lib.hid CAN; have HDO := Lib.hid DO; have HP := Lib.hid hP; have HM := Lib.hid hm; have HMS := Lib.hid hms
 clear SO CAN DO hP hm hms
 have mc := meth_scaleStep_can (.int .i64 a) (.int .i64 c)
 have nc := nil_scaleStep_can (.int .i64 a) (.int .i64 c)
 have md := meth_scaleStep_do (.int .i64 a) (.int .i64 c)
 have nd := nil_scaleStep_do (.int .i64 a) (.int .i64 c)
 go_enter Tryz.func53, Tryz.ntmps53
 go_upto_region 2 with (go_at_call 93; refine (HSO.out _).mono ?_; rintro e w1 ⟨rfl, hb1⟩)
 have hB3 := (below_alloc3 w (.cells #[.int .i64 v, .int .i64 h, .slice A rows.length cap] 30) (.cells #[.int .i64 2, .int .i64 a, .int .i64 b, .int .i64 c, .slice XA n xcap] 34) (.cells #[.int .i64 0, .int .i64 0, .slice none 0 0] 30))
 obtain ⟨q0, q1, q2⟩ := heap_at3 w (.cells #[.int .i64 v, .int .i64 h, .slice A rows.length cap] 30) (.cells #[.int .i64 2, .int .i64 a, .int .i64 b, .int .i64 c, .slice XA n xcap] 34) (.cells #[.int .i64 0, .int .i64 0, .slice none 0 0] 30)
 have m0 := boxb hb1 q0
 have m2 := boxb hb1 q2
 have hb := hB3.trans (hb1.mono (B' := w.heap.size) (by simp <;> omega))
 have hsz := hb1.size
 simp only [World.size_alloc] at hsz
 obtain ⟨e0, e1, e2, _, _, _⟩ := cells3 m0
 have HB := Lib.hid hb; have M0 := Lib.hid m0; have M2 := Lib.hid m2
 clear q0 q1 q2 m0 m2 hb hb1 hB3
 cases can with
 | false =>
  clear HDO md nd
  go_wp2_with (go_at_call 165; refine (HCAN.out _ HB.out).mono ?_; rintro e w2 ⟨rfl, hb2⟩; obtain ⟨g0, g1, g2, g3, g4, g5⟩ := cells3 (boxb hb2 M2.out); have HB2 := Lib.hid hb2; clear hb2)
  refine bodyPost_ret (v := .tuple #[.agg #[.int .i64 0, .int .i64 0, .slice none 0 0], .bool false]) (by simp [results, Tryz.results53, go_sem, *]) rfl (Made.no (Bool.false_and _) rfl ?_)
  exact (((HB.out.trans (HB2.out.mono (by omega))).setCell (by simp <;> omega) _).setCell (by simp <;> omega) _).setCell (by simp <;> omega) _
 | true =>
  go_upto_region 4 with (go_at_call 165; refine (HCAN.out _ HB.out).mono ?_; rintro e w2 ⟨rfl, hb2⟩; obtain ⟨g0, g1, g2, _, _, _⟩ := cells3 (boxb hb2 M0.out); have HB2 := Lib.hid hb2; clear hb2)
  have hbw2 := HB.out.trans (HB2.out.mono (by omega))
  have hs2 := HB2.out.size
  have HBW2 := Lib.hid hbw2
  have DO2 := Lib.hid (HDO.out (by trivial) w2 hbw2)
  clear hbw2
  cases hs : sysB p v' h' rows' with
  | false =>
   have HS := Lib.hid hs
   clear hs
   go_wp2_with (first | (go_at_call 166; refine DO2.out.mono ?_; rintro e w3 ⟨u, rfl, hu, hb3⟩; obtain ⟨A3, c3, rfl, hr3, _, _⟩ := hu.view; have hbw3 := HBW2.out.trans (hb3.mono (by omega)); have HR3 := Lib.hid hr3; have HU := Lib.hid hu; have HB3 := Lib.hid hb3; have HBW3 := Lib.hid hbw3; clear hu hb3 hr3 hbw3) | (go_at_call 94; refine (validSystem_any p v' h' A3 c3 rows' _ (HP.out.ext HBW3.out) HR3.out HM.out HMS.out).mono ?_; rintro e w4 ⟨_, he, hb4⟩; obtain rfl := he HS.out; clear he; obtain ⟨g0, g1, g2, g3, g4, g5⟩ := cells3 (boxb hb4 (boxb HB3.out (boxb HB2.out M2.out))); have HB4 := Lib.hid hb4; clear hb4))
   refine bodyPost_ret (v := .tuple #[.agg #[.int .i64 0, .int .i64 0, .slice none 0 0], .bool false]) (by simp [results, Tryz.results53, go_sem, *]) rfl (Made.no (by rw [HS.out]; rfl) rfl ?_)
   exact (((HBW3.out.trans (HB4.out.mono (by have := HB3.out.size; omega))).setCell (by simp <;> omega) _).setCell (by simp <;> omega) _).setCell (by simp <;> omega) _
  | true =>
   have HS := Lib.hid hs
   clear hs
   go_wp2_with (first | (go_at_call 166; refine DO2.out.mono ?_; rintro e w3 ⟨u, rfl, hu, hb3⟩; obtain ⟨A3, c3, rfl, hr3, _, _⟩ := hu.view; have hbw3 := HBW2.out.trans (hb3.mono (by omega)); have HR3 := Lib.hid hr3; have HU := Lib.hid hu; have HB3 := Lib.hid hb3; have HBW3 := Lib.hid hbw3; clear hu hb3 hr3 hbw3) | (go_at_call 94; refine (validSystem_any p v' h' A3 c3 rows' _ (HP.out.ext HBW3.out) HR3.out HM.out HMS.out).mono ?_; rintro e w4 ⟨he, _, hb4⟩; obtain rfl := he HS.out; clear he; obtain ⟨g0, g1, g2, g3, g4, g5⟩ := cells3 (boxb hb4 (boxb HB3.out (boxb HB2.out M2.out))); have HB4 := Lib.hid hb4; clear hb4))
   refine bodyPost_ret (v := .tuple #[.agg #[.int .i64 v', .int .i64 h', .slice A3 rows'.length c3], .bool true]) (by simp [results, Tryz.results53, go_sem, *]) rfl (Made.yes (by rw [HS.out]; rfl) rfl ?_ ?_)
   ·exact ((((HU.out.ext HB4.out).setCell (by simp <;> omega) _).setCell (by simp <;> omega) _).setCell (by simp <;> omega) _).mono (by omega)
   ·exact (((HBW3.out.trans (HB4.out.mono (by have := HB3.out.size; omega))).setCell (by simp <;> omega) _).setCell (by simp <;> omega) _).setCell (by simp <;> omega) _
theorem meth_addStep_can (y0 : Value) (y1 : Value) (y2 : Value) (w : World) : (method 277 122 (.agg #[y0, y1, y2]) "loop.example/g01073/impl.can").run Tryz.prog w = .ok (168, (.agg #[y0, y1, y2])) w := by kernel_rfl
theorem nil_addStep_can (y0 : Value) (y1 : Value) (y2 : Value) (w : World) : (nilAhead 277 122 (.agg #[y0, y1, y2]) "loop.example/g01073/impl.can").run Tryz.prog w = .ok (some false) w := by kernel_rfl
theorem meth_addStep_do (y0 : Value) (y1 : Value) (y2 : Value) (w : World) : (method 277 122 (.agg #[y0, y1, y2]) "loop.example/g01073/impl.do").run Tryz.prog w = .ok (169, (.agg #[y0, y1, y2])) w := by kernel_rfl
theorem nil_addStep_do (y0 : Value) (y1 : Value) (y2 : Value) (w : World) : (nilAhead 277 122 (.agg #[y0, y1, y2]) "loop.example/g01073/impl.do").run Tryz.prog w = .ok (some false) w := by kernel_rfl
set_option maxRecDepth 20000 in
set_option maxHeartbeats 4000000 in
theorem make_addStep (p v h v' h' : Int) (A : Option Addr) (cap : Nat) (rows rows' : List (List Int)) (w : World) (can : Bool) (a b c : Int) (XA : Option Addr) (n xcap : Nat)
  (SO : ∀ W, Calls Tryz.prog 93 #[.agg #[.int .i64 3, .int .i64 a, .int .i64 b, .int .i64 c, .slice XA n xcap]] W fun e w' => e = .returned (.tuple #[.iface 122 (.agg #[.int .i64 a, .int .i64 b, .int .i64 c]), .bool true]) ∧ Below W.heap.size W w')
  (CAN : ∀ W, Below w.heap.size w W → Calls Tryz.prog 168 #[(.agg #[.int .i64 a, .int .i64 b, .int .i64 c]), .int .i64 p, .agg #[.int .i64 v, .int .i64 h, .slice A rows.length cap]] W fun e w' => e = .returned (.bool can) ∧ Below W.heap.size W w')
  (DO : can = true → ∀ W, Below w.heap.size w W → Calls Tryz.prog 169 #[(.agg #[.int .i64 a, .int .i64 b, .int .i64 c]), .int .i64 p, .agg #[.int .i64 v, .int .i64 h, .slice A rows.length cap]] W fun e w' => ∃ u, e = .returned (.agg #[.int .i64 v', .int .i64 h', u]) ∧ OwnRows w' W.heap.size u rows' ∧ Below W.heap.size W w')
  (hP : Primes w) (hm : rows'.length ≤ maxLen) (hms : ∀ r ∈ rows', r.length ≤ maxLen) :
  Calls Tryz.prog 53 #[.int .i64 p, .agg #[.int .i64 v, .int .i64 h, .slice A rows.length cap], .agg #[.int .i64 3, .int .i64 a, .int .i64 b, .int .i64 c, .slice XA n xcap]] w fun e w' =>
   Made v' h' rows' (can && sysB p v' h' rows') w e w' := by
 have HSO := Lib.hid SO; have HCAN := Lib.hid CAN; have HDO := Lib.hid DO; have HP := Lib.hid hP; have HM := Lib.hid hm; have HMS := Lib.hid hms
 clear SO CAN DO hP hm hms
 have mc := meth_addStep_can (.int .i64 a) (.int .i64 b) (.int .i64 c)
 have nc := nil_addStep_can (.int .i64 a) (.int .i64 b) (.int .i64 c)
 have md := meth_addStep_do (.int .i64 a) (.int .i64 b) (.int .i64 c)
 have nd := nil_addStep_do (.int .i64 a) (.int .i64 b) (.int .i64 c)
 go_enter Tryz.func53, Tryz.ntmps53
 go_upto_region 2 with (go_at_call 93; refine (HSO.out _).mono ?_; rintro e w1 ⟨rfl, hb1⟩)
 have hB3 := (below_alloc3 w (.cells #[.int .i64 v, .int .i64 h, .slice A rows.length cap] 30) (.cells #[.int .i64 3, .int .i64 a, .int .i64 b, .int .i64 c, .slice XA n xcap] 34) (.cells #[.int .i64 0, .int .i64 0, .slice none 0 0] 30))
 obtain ⟨q0, q1, q2⟩ := heap_at3 w (.cells #[.int .i64 v, .int .i64 h, .slice A rows.length cap] 30) (.cells #[.int .i64 3, .int .i64 a, .int .i64 b, .int .i64 c, .slice XA n xcap] 34) (.cells #[.int .i64 0, .int .i64 0, .slice none 0 0] 30)
 have m0 := boxb hb1 q0
 have m2 := boxb hb1 q2
 have hb := hB3.trans (hb1.mono (B' := w.heap.size) (by simp <;> omega))
 have hsz := hb1.size
 simp only [World.size_alloc] at hsz
 obtain ⟨e0, e1, e2, _, _, _⟩ := cells3 m0
 have HB := Lib.hid hb; have M0 := Lib.hid m0; have M2 := Lib.hid m2
 clear q0 q1 q2 m0 m2 hb hb1 hB3
 cases can with
 | false =>
  clear HDO md nd
  go_wp2_with (go_at_call 168; refine (HCAN.out _ HB.out).mono ?_; rintro e w2 ⟨rfl, hb2⟩; obtain ⟨g0, g1, g2, g3, g4, g5⟩ := cells3 (boxb hb2 M2.out); have HB2 := Lib.hid hb2; clear hb2)
  refine bodyPost_ret (v := .tuple #[.agg #[.int .i64 0, .int .i64 0, .slice none 0 0], .bool false]) (by simp [results, Tryz.results53, go_sem, *]) rfl (Made.no (Bool.false_and _) rfl ?_)
  exact (((HB.out.trans (HB2.out.mono (by omega))).setCell (by simp <;> omega) _).setCell (by simp <;> omega) _).setCell (by simp <;> omega) _
 | true =>
  go_upto_region 4 with (go_at_call 168; refine (HCAN.out _ HB.out).mono ?_; rintro e w2 ⟨rfl, hb2⟩; obtain ⟨g0, g1, g2, _, _, _⟩ := cells3 (boxb hb2 M0.out); have HB2 := Lib.hid hb2; clear hb2)
  have hbw2 := HB.out.trans (HB2.out.mono (by omega))
  have hs2 := HB2.out.size
  have HBW2 := Lib.hid hbw2
  have DO2 := Lib.hid (HDO.out (by trivial) w2 hbw2)
  clear hbw2
  cases hs : sysB p v' h' rows' with
  | false =>
   have HS := Lib.hid hs
   clear hs
   go_wp2_with (first | (go_at_call 169; refine DO2.out.mono ?_; rintro e w3 ⟨u, rfl, hu, hb3⟩; obtain ⟨A3, c3, rfl, hr3, _, _⟩ := hu.view; have hbw3 := HBW2.out.trans (hb3.mono (by omega)); have HR3 := Lib.hid hr3; have HU := Lib.hid hu; have HB3 := Lib.hid hb3; have HBW3 := Lib.hid hbw3; clear hu hb3 hr3 hbw3) | (go_at_call 94; refine (validSystem_any p v' h' A3 c3 rows' _ (HP.out.ext HBW3.out) HR3.out HM.out HMS.out).mono ?_; rintro e w4 ⟨_, he, hb4⟩; obtain rfl := he HS.out; clear he; obtain ⟨g0, g1, g2, g3, g4, g5⟩ := cells3 (boxb hb4 (boxb HB3.out (boxb HB2.out M2.out))); have HB4 := Lib.hid hb4; clear hb4))
   refine bodyPost_ret (v := .tuple #[.agg #[.int .i64 0, .int .i64 0, .slice none 0 0], .bool false]) (by simp [results, Tryz.results53, go_sem, *]) rfl (Made.no (by rw [HS.out]; rfl) rfl ?_)
   exact (((HBW3.out.trans (HB4.out.mono (by have := HB3.out.size; omega))).setCell (by simp <;> omega) _).setCell (by simp <;> omega) _).setCell (by simp <;> omega) _
  | true =>
   have HS := Lib.hid hs
   clear hs
   go_wp2_with (first | (go_at_call 169; refine DO2.out.mono ?_; rintro e w3 ⟨u, rfl, hu, hb3⟩; obtain ⟨A3, c3, rfl, hr3, _, _⟩ := hu.view; have hbw3 := HBW2.out.trans (hb3.mono (by omega)); have HR3 := Lib.hid hr3; have HU := Lib.hid hu; have HB3 := Lib.hid hb3; have HBW3 := Lib.hid hbw3; clear hu hb3 hr3 hbw3) | (go_at_call 94; refine (validSystem_any p v' h' A3 c3 rows' _ (HP.out.ext HBW3.out) HR3.out HM.out HMS.out).mono ?_; rintro e w4 ⟨he, _, hb4⟩; obtain rfl := he HS.out; clear he; obtain ⟨g0, g1, g2, g3, g4, g5⟩ := cells3 (boxb hb4 (boxb HB3.out (boxb HB2.out M2.out))); have HB4 := Lib.hid hb4; clear hb4))
   refine bodyPost_ret (v := .tuple #[.agg #[.int .i64 v', .int .i64 h', .slice A3 rows'.length c3], .bool true]) (by simp [results, Tryz.results53, go_sem, *]) rfl (Made.yes (by rw [HS.out]; rfl) rfl ?_ ?_)
   ·exact ((((HU.out.ext HB4.out).setCell (by simp <;> omega) _).setCell (by simp <;> omega) _).setCell (by simp <;> omega) _).mono (by omega)
   ·exact (((HBW3.out.trans (HB4.out.mono (by have := HB3.out.size; omega))).setCell (by simp <;> omega) _).setCell (by simp <;> omega) _).setCell (by simp <;> omega) _
theorem meth_dropStep_can (y0 : Value) (w : World) : (method 277 124 (.agg #[y0]) "loop.example/g01073/impl.can").run Tryz.prog w = .ok (171, (.agg #[y0])) w := by kernel_rfl
theorem nil_dropStep_can (y0 : Value) (w : World) : (nilAhead 277 124 (.agg #[y0]) "loop.example/g01073/impl.can").run Tryz.prog w = .ok (some false) w := by kernel_rfl
theorem meth_dropStep_do (y0 : Value) (w : World) : (method 277 124 (.agg #[y0]) "loop.example/g01073/impl.do").run Tryz.prog w = .ok (172, (.agg #[y0])) w := by kernel_rfl
theorem nil_dropStep_do (y0 : Value) (w : World) : (nilAhead 277 124 (.agg #[y0]) "loop.example/g01073/impl.do").run Tryz.prog w = .ok (some false) w := by kernel_rfl
set_option maxRecDepth 20000 in
set_option maxHeartbeats 4000000 in
theorem make_dropStep (p v h v' h' : Int) (A : Option Addr) (cap : Nat) (rows rows' : List (List Int)) (w : World) (can : Bool) (a b c : Int) (XA : Option Addr) (n xcap : Nat)
  (SO : ∀ W, Calls Tryz.prog 93 #[.agg #[.int .i64 4, .int .i64 a, .int .i64 b, .int .i64 c, .slice XA n xcap]] W fun e w' => e = .returned (.tuple #[.iface 124 (.agg #[.int .i64 a]), .bool true]) ∧ Below W.heap.size W w')
  (CAN : ∀ W, Below w.heap.size w W → Calls Tryz.prog 171 #[(.agg #[.int .i64 a]), .int .i64 p, .agg #[.int .i64 v, .int .i64 h, .slice A rows.length cap]] W fun e w' => e = .returned (.bool can) ∧ Below W.heap.size W w')
  (DO : can = true → ∀ W, Below w.heap.size w W → Calls Tryz.prog 172 #[(.agg #[.int .i64 a]), .int .i64 p, .agg #[.int .i64 v, .int .i64 h, .slice A rows.length cap]] W fun e w' => ∃ u, e = .returned (.agg #[.int .i64 v', .int .i64 h', u]) ∧ OwnRows w' W.heap.size u rows' ∧ Below W.heap.size W w')
  (hP : Primes w) (hm : rows'.length ≤ maxLen) (hms : ∀ r ∈ rows', r.length ≤ maxLen) :
  Calls Tryz.prog 53 #[.int .i64 p, .agg #[.int .i64 v, .int .i64 h, .slice A rows.length cap], .agg #[.int .i64 4, .int .i64 a, .int .i64 b, .int .i64 c, .slice XA n xcap]] w fun e w' =>
   Made v' h' rows' (can && sysB p v' h' rows') w e w' := by
 have HSO := Lib.hid SO; have HCAN := Lib.hid CAN; have HDO := Lib.hid DO; have HP := Lib.hid hP; have HM := Lib.hid hm; have HMS := Lib.hid hms
 clear SO CAN DO hP hm hms
 have mc := meth_dropStep_can (.int .i64 a)
 have nc := nil_dropStep_can (.int .i64 a)
 have md := meth_dropStep_do (.int .i64 a)
 have nd := nil_dropStep_do (.int .i64 a)
 go_enter Tryz.func53, Tryz.ntmps53
 go_upto_region 2 with (go_at_call 93; refine (HSO.out _).mono ?_; rintro e w1 ⟨rfl, hb1⟩)
 have hB3 := (below_alloc3 w (.cells #[.int .i64 v, .int .i64 h, .slice A rows.length cap] 30) (.cells #[.int .i64 4, .int .i64 a, .int .i64 b, .int .i64 c, .slice XA n xcap] 34) (.cells #[.int .i64 0, .int .i64 0, .slice none 0 0] 30))
 obtain ⟨q0, q1, q2⟩ := heap_at3 w (.cells #[.int .i64 v, .int .i64 h, .slice A rows.length cap] 30) (.cells #[.int .i64 4, .int .i64 a, .int .i64 b, .int .i64 c, .slice XA n xcap] 34) (.cells #[.int .i64 0, .int .i64 0, .slice none 0 0] 30)
 have m0 := boxb hb1 q0
 have m2 := boxb hb1 q2
 have hb := hB3.trans (hb1.mono (B' := w.heap.size) (by simp <;> omega))
 have hsz := hb1.size
 simp only [World.size_alloc] at hsz
 obtain ⟨e0, e1, e2, _, _, _⟩ := cells3 m0
 have HB := Lib.hid hb; have M0 := Lib.hid m0; have M2 := Lib.hid m2
 clear q0 q1 q2 m0 m2 hb hb1 hB3
 cases can with
 | false =>
  clear HDO md nd
  go_wp2_with (go_at_call 171; refine (HCAN.out _ HB.out).mono ?_; rintro e w2 ⟨rfl, hb2⟩; obtain ⟨g0, g1, g2, g3, g4, g5⟩ := cells3 (boxb hb2 M2.out); have HB2 := Lib.hid hb2; clear hb2)
  refine bodyPost_ret (v := .tuple #[.agg #[.int .i64 0, .int .i64 0, .slice none 0 0], .bool false]) (by simp [results, Tryz.results53, go_sem, *]) rfl (Made.no (Bool.false_and _) rfl ?_)
  exact (((HB.out.trans (HB2.out.mono (by omega))).setCell (by simp <;> omega) _).setCell (by simp <;> omega) _).setCell (by simp <;> omega) _
 | true =>
  go_upto_region 4 with (go_at_call 171; refine (HCAN.out _ HB.out).mono ?_; rintro e w2 ⟨rfl, hb2⟩; obtain ⟨g0, g1, g2, _, _, _⟩ := cells3 (boxb hb2 M0.out); have HB2 := Lib.hid hb2; clear hb2)
  have hbw2 := HB.out.trans (HB2.out.mono (by omega))
  have hs2 := HB2.out.size
  have HBW2 := Lib.hid hbw2
  have DO2 := Lib.hid (HDO.out (by trivial) w2 hbw2)
  clear hbw2
  cases hs : sysB p v' h' rows' with
  | false =>
   have HS := Lib.hid hs
   clear hs
   go_wp2_with (first | (go_at_call 172; refine DO2.out.mono ?_; rintro e w3 ⟨u, rfl, hu, hb3⟩; obtain ⟨A3, c3, rfl, hr3, _, _⟩ := hu.view; have hbw3 := HBW2.out.trans (hb3.mono (by omega)); have HR3 := Lib.hid hr3; have HU := Lib.hid hu; have HB3 := Lib.hid hb3; have HBW3 := Lib.hid hbw3; clear hu hb3 hr3 hbw3) | (go_at_call 94; refine (validSystem_any p v' h' A3 c3 rows' _ (HP.out.ext HBW3.out) HR3.out HM.out HMS.out).mono ?_; rintro e w4 ⟨_, he, hb4⟩; obtain rfl := he HS.out; clear he; obtain ⟨g0, g1, g2, g3, g4, g5⟩ := cells3 (boxb hb4 (boxb HB3.out (boxb HB2.out M2.out))); have HB4 := Lib.hid hb4; clear hb4))
   refine bodyPost_ret (v := .tuple #[.agg #[.int .i64 0, .int .i64 0, .slice none 0 0], .bool false]) (by simp [results, Tryz.results53, go_sem, *]) rfl (Made.no (by rw [HS.out]; rfl) rfl ?_)
   exact (((HBW3.out.trans (HB4.out.mono (by have := HB3.out.size; omega))).setCell (by simp <;> omega) _).setCell (by simp <;> omega) _).setCell (by simp <;> omega) _
  | true =>
   have HS := Lib.hid hs
   clear hs
   go_wp2_with (first | (go_at_call 172; refine DO2.out.mono ?_; rintro e w3 ⟨u, rfl, hu, hb3⟩; obtain ⟨A3, c3, rfl, hr3, _, _⟩ := hu.view; have hbw3 := HBW2.out.trans (hb3.mono (by omega)); have HR3 := Lib.hid hr3; have HU := Lib.hid hu; have HB3 := Lib.hid hb3; have HBW3 := Lib.hid hbw3; clear hu hb3 hr3 hbw3) | (go_at_call 94; refine (validSystem_any p v' h' A3 c3 rows' _ (HP.out.ext HBW3.out) HR3.out HM.out HMS.out).mono ?_; rintro e w4 ⟨he, _, hb4⟩; obtain rfl := he HS.out; clear he; obtain ⟨g0, g1, g2, g3, g4, g5⟩ := cells3 (boxb hb4 (boxb HB3.out (boxb HB2.out M2.out))); have HB4 := Lib.hid hb4; clear hb4))
   refine bodyPost_ret (v := .tuple #[.agg #[.int .i64 v', .int .i64 h', .slice A3 rows'.length c3], .bool true]) (by simp [results, Tryz.results53, go_sem, *]) rfl (Made.yes (by rw [HS.out]; rfl) rfl ?_ ?_)
   ·exact ((((HU.out.ext HB4.out).setCell (by simp <;> omega) _).setCell (by simp <;> omega) _).setCell (by simp <;> omega) _).mono (by omega)
   ·exact (((HBW3.out.trans (HB4.out.mono (by have := HB3.out.size; omega))).setCell (by simp <;> omega) _).setCell (by simp <;> omega) _).setCell (by simp <;> omega) _
theorem meth_putStep_can (y0 : Value) (w : World) : (method 277 125 (.agg #[y0]) "loop.example/g01073/impl.can").run Tryz.prog w = .ok (177, (.agg #[y0])) w := by kernel_rfl
theorem nil_putStep_can (y0 : Value) (w : World) : (nilAhead 277 125 (.agg #[y0]) "loop.example/g01073/impl.can").run Tryz.prog w = .ok (some false) w := by kernel_rfl
theorem meth_putStep_do (y0 : Value) (w : World) : (method 277 125 (.agg #[y0]) "loop.example/g01073/impl.do").run Tryz.prog w = .ok (178, (.agg #[y0])) w := by kernel_rfl
theorem nil_putStep_do (y0 : Value) (w : World) : (nilAhead 277 125 (.agg #[y0]) "loop.example/g01073/impl.do").run Tryz.prog w = .ok (some false) w := by kernel_rfl
set_option maxRecDepth 20000 in
set_option maxHeartbeats 4000000 in
theorem make_putStep (p v h v' h' : Int) (A : Option Addr) (cap : Nat) (rows rows' : List (List Int)) (w : World) (can : Bool) (a b c : Int) (XA : Option Addr) (n xcap : Nat)
  (SO : ∀ W, Calls Tryz.prog 93 #[.agg #[.int .i64 5, .int .i64 a, .int .i64 b, .int .i64 c, .slice XA n xcap]] W fun e w' => e = .returned (.tuple #[.iface 125 (.agg #[.int .i64 a]), .bool true]) ∧ Below W.heap.size W w')
  (CAN : ∀ W, Below w.heap.size w W → Calls Tryz.prog 177 #[(.agg #[.int .i64 a]), .int .i64 p, .agg #[.int .i64 v, .int .i64 h, .slice A rows.length cap]] W fun e w' => e = .returned (.bool can) ∧ Below W.heap.size W w')
  (DO : can = true → ∀ W, Below w.heap.size w W → Calls Tryz.prog 178 #[(.agg #[.int .i64 a]), .int .i64 p, .agg #[.int .i64 v, .int .i64 h, .slice A rows.length cap]] W fun e w' => ∃ u, e = .returned (.agg #[.int .i64 v', .int .i64 h', u]) ∧ OwnRows w' W.heap.size u rows' ∧ Below W.heap.size W w')
  (hP : Primes w) (hm : rows'.length ≤ maxLen) (hms : ∀ r ∈ rows', r.length ≤ maxLen) :
  Calls Tryz.prog 53 #[.int .i64 p, .agg #[.int .i64 v, .int .i64 h, .slice A rows.length cap], .agg #[.int .i64 5, .int .i64 a, .int .i64 b, .int .i64 c, .slice XA n xcap]] w fun e w' =>
   Made v' h' rows' (can && sysB p v' h' rows') w e w' := by
 have HSO := Lib.hid SO; have HCAN := Lib.hid CAN; have HDO := Lib.hid DO; have HP := Lib.hid hP; have HM := Lib.hid hm; have HMS := Lib.hid hms
 clear SO CAN DO hP hm hms
 have mc := meth_putStep_can (.int .i64 a)
 have nc := nil_putStep_can (.int .i64 a)
 have md := meth_putStep_do (.int .i64 a)
 have nd := nil_putStep_do (.int .i64 a)
 go_enter Tryz.func53, Tryz.ntmps53
 go_upto_region 2 with (go_at_call 93; refine (HSO.out _).mono ?_; rintro e w1 ⟨rfl, hb1⟩)
 have hB3 := (below_alloc3 w (.cells #[.int .i64 v, .int .i64 h, .slice A rows.length cap] 30) (.cells #[.int .i64 5, .int .i64 a, .int .i64 b, .int .i64 c, .slice XA n xcap] 34) (.cells #[.int .i64 0, .int .i64 0, .slice none 0 0] 30))
 obtain ⟨q0, q1, q2⟩ := heap_at3 w (.cells #[.int .i64 v, .int .i64 h, .slice A rows.length cap] 30) (.cells #[.int .i64 5, .int .i64 a, .int .i64 b, .int .i64 c, .slice XA n xcap] 34) (.cells #[.int .i64 0, .int .i64 0, .slice none 0 0] 30)
 have m0 := boxb hb1 q0
 have m2 := boxb hb1 q2
 have hb := hB3.trans (hb1.mono (B' := w.heap.size) (by simp <;> omega))
 have hsz := hb1.size
 simp only [World.size_alloc] at hsz
 obtain ⟨e0, e1, e2, _, _, _⟩ := cells3 m0
 have HB := Lib.hid hb; have M0 := Lib.hid m0; have M2 := Lib.hid m2
 clear q0 q1 q2 m0 m2 hb hb1 hB3
 cases can with
 | false =>
  clear HDO md nd
  go_wp2_with (go_at_call 177; refine (HCAN.out _ HB.out).mono ?_; rintro e w2 ⟨rfl, hb2⟩; obtain ⟨g0, g1, g2, g3, g4, g5⟩ := cells3 (boxb hb2 M2.out); have HB2 := Lib.hid hb2; clear hb2)
  refine bodyPost_ret (v := .tuple #[.agg #[.int .i64 0, .int .i64 0, .slice none 0 0], .bool false]) (by simp [results, Tryz.results53, go_sem, *]) rfl (Made.no (Bool.false_and _) rfl ?_)
  exact (((HB.out.trans (HB2.out.mono (by omega))).setCell (by simp <;> omega) _).setCell (by simp <;> omega) _).setCell (by simp <;> omega) _
 | true =>
  go_upto_region 4 with (go_at_call 177; refine (HCAN.out _ HB.out).mono ?_; rintro e w2 ⟨rfl, hb2⟩; obtain ⟨g0, g1, g2, _, _, _⟩ := cells3 (boxb hb2 M0.out); have HB2 := Lib.hid hb2; clear hb2)
  have hbw2 := HB.out.trans (HB2.out.mono (by omega))
  have hs2 := HB2.out.size
  have HBW2 := Lib.hid hbw2
  have DO2 := Lib.hid (HDO.out (by trivial) w2 hbw2)
  clear hbw2
  cases hs : sysB p v' h' rows' with
  | false =>
   have HS := Lib.hid hs
   clear hs
   go_wp2_with (first | (go_at_call 178; refine DO2.out.mono ?_; rintro e w3 ⟨u, rfl, hu, hb3⟩; obtain ⟨A3, c3, rfl, hr3, _, _⟩ := hu.view; have hbw3 := HBW2.out.trans (hb3.mono (by omega)); have HR3 := Lib.hid hr3; have HU := Lib.hid hu; have HB3 := Lib.hid hb3; have HBW3 := Lib.hid hbw3; clear hu hb3 hr3 hbw3) | (go_at_call 94; refine (validSystem_any p v' h' A3 c3 rows' _ (HP.out.ext HBW3.out) HR3.out HM.out HMS.out).mono ?_; rintro e w4 ⟨_, he, hb4⟩; obtain rfl := he HS.out; clear he; obtain ⟨g0, g1, g2, g3, g4, g5⟩ := cells3 (boxb hb4 (boxb HB3.out (boxb HB2.out M2.out))); have HB4 := Lib.hid hb4; clear hb4))
   refine bodyPost_ret (v := .tuple #[.agg #[.int .i64 0, .int .i64 0, .slice none 0 0], .bool false]) (by simp [results, Tryz.results53, go_sem, *]) rfl (Made.no (by rw [HS.out]; rfl) rfl ?_)
   exact (((HBW3.out.trans (HB4.out.mono (by have := HB3.out.size; omega))).setCell (by simp <;> omega) _).setCell (by simp <;> omega) _).setCell (by simp <;> omega) _
  | true =>
   have HS := Lib.hid hs
   clear hs
   go_wp2_with (first | (go_at_call 178; refine DO2.out.mono ?_; rintro e w3 ⟨u, rfl, hu, hb3⟩; obtain ⟨A3, c3, rfl, hr3, _, _⟩ := hu.view; have hbw3 := HBW2.out.trans (hb3.mono (by omega)); have HR3 := Lib.hid hr3; have HU := Lib.hid hu; have HB3 := Lib.hid hb3; have HBW3 := Lib.hid hbw3; clear hu hb3 hr3 hbw3) | (go_at_call 94; refine (validSystem_any p v' h' A3 c3 rows' _ (HP.out.ext HBW3.out) HR3.out HM.out HMS.out).mono ?_; rintro e w4 ⟨he, _, hb4⟩; obtain rfl := he HS.out; clear he; obtain ⟨g0, g1, g2, g3, g4, g5⟩ := cells3 (boxb hb4 (boxb HB3.out (boxb HB2.out M2.out))); have HB4 := Lib.hid hb4; clear hb4))
   refine bodyPost_ret (v := .tuple #[.agg #[.int .i64 v', .int .i64 h', .slice A3 rows'.length c3], .bool true]) (by simp [results, Tryz.results53, go_sem, *]) rfl (Made.yes (by rw [HS.out]; rfl) rfl ?_ ?_)
   ·exact ((((HU.out.ext HB4.out).setCell (by simp <;> omega) _).setCell (by simp <;> omega) _).setCell (by simp <;> omega) _).mono (by omega)
   ·exact (((HBW3.out.trans (HB4.out.mono (by have := HB3.out.size; omega))).setCell (by simp <;> omega) _).setCell (by simp <;> omega) _).setCell (by simp <;> omega) _
theorem meth_solveStep_can (y0 : Value) (y1 : Value) (w : World) : (method 277 126 (.agg #[y0, y1]) "loop.example/g01073/impl.can").run Tryz.prog w = .ok (185, (.agg #[y0, y1])) w := by kernel_rfl
theorem nil_solveStep_can (y0 : Value) (y1 : Value) (w : World) : (nilAhead 277 126 (.agg #[y0, y1]) "loop.example/g01073/impl.can").run Tryz.prog w = .ok (some false) w := by kernel_rfl
theorem meth_solveStep_do (y0 : Value) (y1 : Value) (w : World) : (method 277 126 (.agg #[y0, y1]) "loop.example/g01073/impl.do").run Tryz.prog w = .ok (186, (.agg #[y0, y1])) w := by kernel_rfl
theorem nil_solveStep_do (y0 : Value) (y1 : Value) (w : World) : (nilAhead 277 126 (.agg #[y0, y1]) "loop.example/g01073/impl.do").run Tryz.prog w = .ok (some false) w := by kernel_rfl
set_option maxRecDepth 20000 in
set_option maxHeartbeats 4000000 in
theorem make_solveStep (p v h v' h' : Int) (A : Option Addr) (cap : Nat) (rows rows' : List (List Int)) (w : World) (can : Bool) (a b c : Int) (XA : Option Addr) (n xcap : Nat)
  (SO : ∀ W, Calls Tryz.prog 93 #[.agg #[.int .i64 6, .int .i64 a, .int .i64 b, .int .i64 c, .slice XA n xcap]] W fun e w' => e = .returned (.tuple #[.iface 126 (.agg #[.int .i64 a, .int .i64 b]), .bool true]) ∧ Below W.heap.size W w')
  (CAN : ∀ W, Below w.heap.size w W → Calls Tryz.prog 185 #[(.agg #[.int .i64 a, .int .i64 b]), .int .i64 p, .agg #[.int .i64 v, .int .i64 h, .slice A rows.length cap]] W fun e w' => e = .returned (.bool can) ∧ Below W.heap.size W w')
  (DO : can = true → ∀ W, Below w.heap.size w W → Calls Tryz.prog 186 #[(.agg #[.int .i64 a, .int .i64 b]), .int .i64 p, .agg #[.int .i64 v, .int .i64 h, .slice A rows.length cap]] W fun e w' => ∃ u, e = .returned (.agg #[.int .i64 v', .int .i64 h', u]) ∧ OwnRows w' W.heap.size u rows' ∧ Below W.heap.size W w')
  (hP : Primes w) (hm : rows'.length ≤ maxLen) (hms : ∀ r ∈ rows', r.length ≤ maxLen) :
  Calls Tryz.prog 53 #[.int .i64 p, .agg #[.int .i64 v, .int .i64 h, .slice A rows.length cap], .agg #[.int .i64 6, .int .i64 a, .int .i64 b, .int .i64 c, .slice XA n xcap]] w fun e w' =>
   Made v' h' rows' (can && sysB p v' h' rows') w e w' := by
 have HSO := Lib.hid SO; have HCAN := Lib.hid CAN; have HDO := Lib.hid DO; have HP := Lib.hid hP; have HM := Lib.hid hm; have HMS := Lib.hid hms
 clear SO CAN DO hP hm hms
 have mc := meth_solveStep_can (.int .i64 a) (.int .i64 b)
 have nc := nil_solveStep_can (.int .i64 a) (.int .i64 b)
 have md := meth_solveStep_do (.int .i64 a) (.int .i64 b)
 have nd := nil_solveStep_do (.int .i64 a) (.int .i64 b)
 go_enter Tryz.func53, Tryz.ntmps53
 go_upto_region 2 with (go_at_call 93; refine (HSO.out _).mono ?_; rintro e w1 ⟨rfl, hb1⟩)
 have hB3 := (below_alloc3 w (.cells #[.int .i64 v, .int .i64 h, .slice A rows.length cap] 30) (.cells #[.int .i64 6, .int .i64 a, .int .i64 b, .int .i64 c, .slice XA n xcap] 34) (.cells #[.int .i64 0, .int .i64 0, .slice none 0 0] 30))
 obtain ⟨q0, q1, q2⟩ := heap_at3 w (.cells #[.int .i64 v, .int .i64 h, .slice A rows.length cap] 30) (.cells #[.int .i64 6, .int .i64 a, .int .i64 b, .int .i64 c, .slice XA n xcap] 34) (.cells #[.int .i64 0, .int .i64 0, .slice none 0 0] 30)
 have m0 := boxb hb1 q0
 have m2 := boxb hb1 q2
 have hb := hB3.trans (hb1.mono (B' := w.heap.size) (by simp <;> omega))
 have hsz := hb1.size
 simp only [World.size_alloc] at hsz
 obtain ⟨e0, e1, e2, _, _, _⟩ := cells3 m0
 have HB := Lib.hid hb; have M0 := Lib.hid m0; have M2 := Lib.hid m2
 clear q0 q1 q2 m0 m2 hb hb1 hB3
 cases can with
 | false =>
  clear HDO md nd
  go_wp2_with (go_at_call 185; refine (HCAN.out _ HB.out).mono ?_; rintro e w2 ⟨rfl, hb2⟩; obtain ⟨g0, g1, g2, g3, g4, g5⟩ := cells3 (boxb hb2 M2.out); have HB2 := Lib.hid hb2; clear hb2)
  refine bodyPost_ret (v := .tuple #[.agg #[.int .i64 0, .int .i64 0, .slice none 0 0], .bool false]) (by simp [results, Tryz.results53, go_sem, *]) rfl (Made.no (Bool.false_and _) rfl ?_)
  exact (((HB.out.trans (HB2.out.mono (by omega))).setCell (by simp <;> omega) _).setCell (by simp <;> omega) _).setCell (by simp <;> omega) _
 | true =>
  go_upto_region 4 with (go_at_call 185; refine (HCAN.out _ HB.out).mono ?_; rintro e w2 ⟨rfl, hb2⟩; obtain ⟨g0, g1, g2, _, _, _⟩ := cells3 (boxb hb2 M0.out); have HB2 := Lib.hid hb2; clear hb2)
  have hbw2 := HB.out.trans (HB2.out.mono (by omega))
  have hs2 := HB2.out.size
  have HBW2 := Lib.hid hbw2
  have DO2 := Lib.hid (HDO.out (by trivial) w2 hbw2)
  clear hbw2
  cases hs : sysB p v' h' rows' with
  | false =>
   have HS := Lib.hid hs
   clear hs
   go_wp2_with (first | (go_at_call 186; refine DO2.out.mono ?_; rintro e w3 ⟨u, rfl, hu, hb3⟩; obtain ⟨A3, c3, rfl, hr3, _, _⟩ := hu.view; have hbw3 := HBW2.out.trans (hb3.mono (by omega)); have HR3 := Lib.hid hr3; have HU := Lib.hid hu; have HB3 := Lib.hid hb3; have HBW3 := Lib.hid hbw3; clear hu hb3 hr3 hbw3) | (go_at_call 94; refine (validSystem_any p v' h' A3 c3 rows' _ (HP.out.ext HBW3.out) HR3.out HM.out HMS.out).mono ?_; rintro e w4 ⟨_, he, hb4⟩; obtain rfl := he HS.out; clear he; obtain ⟨g0, g1, g2, g3, g4, g5⟩ := cells3 (boxb hb4 (boxb HB3.out (boxb HB2.out M2.out))); have HB4 := Lib.hid hb4; clear hb4))
   refine bodyPost_ret (v := .tuple #[.agg #[.int .i64 0, .int .i64 0, .slice none 0 0], .bool false]) (by simp [results, Tryz.results53, go_sem, *]) rfl (Made.no (by rw [HS.out]; rfl) rfl ?_)
   exact (((HBW3.out.trans (HB4.out.mono (by have := HB3.out.size; omega))).setCell (by simp <;> omega) _).setCell (by simp <;> omega) _).setCell (by simp <;> omega) _
  | true =>
   have HS := Lib.hid hs
   clear hs
   go_wp2_with (first | (go_at_call 186; refine DO2.out.mono ?_; rintro e w3 ⟨u, rfl, hu, hb3⟩; obtain ⟨A3, c3, rfl, hr3, _, _⟩ := hu.view; have hbw3 := HBW2.out.trans (hb3.mono (by omega)); have HR3 := Lib.hid hr3; have HU := Lib.hid hu; have HB3 := Lib.hid hb3; have HBW3 := Lib.hid hbw3; clear hu hb3 hr3 hbw3) | (go_at_call 94; refine (validSystem_any p v' h' A3 c3 rows' _ (HP.out.ext HBW3.out) HR3.out HM.out HMS.out).mono ?_; rintro e w4 ⟨he, _, hb4⟩; obtain rfl := he HS.out; clear he; obtain ⟨g0, g1, g2, g3, g4, g5⟩ := cells3 (boxb hb4 (boxb HB3.out (boxb HB2.out M2.out))); have HB4 := Lib.hid hb4; clear hb4))
   refine bodyPost_ret (v := .tuple #[.agg #[.int .i64 v', .int .i64 h', .slice A3 rows'.length c3], .bool true]) (by simp [results, Tryz.results53, go_sem, *]) rfl (Made.yes (by rw [HS.out]; rfl) rfl ?_ ?_)
   ·exact ((((HU.out.ext HB4.out).setCell (by simp <;> omega) _).setCell (by simp <;> omega) _).setCell (by simp <;> omega) _).mono (by omega)
   ·exact (((HBW3.out.trans (HB4.out.mono (by have := HB3.out.size; omega))).setCell (by simp <;> omega) _).setCell (by simp <;> omega) _).setCell (by simp <;> omega) _
theorem meth_bringStep_can (y0 : Value) (y1 : Value) (y2 : Value) (w : World) : (method 277 128 (.agg #[y0, y1, y2]) "loop.example/g01073/impl.can").run Tryz.prog w = .ok (192, (.agg #[y0, y1, y2])) w := by kernel_rfl
theorem nil_bringStep_can (y0 : Value) (y1 : Value) (y2 : Value) (w : World) : (nilAhead 277 128 (.agg #[y0, y1, y2]) "loop.example/g01073/impl.can").run Tryz.prog w = .ok (some false) w := by kernel_rfl
theorem meth_bringStep_do (y0 : Value) (y1 : Value) (y2 : Value) (w : World) : (method 277 128 (.agg #[y0, y1, y2]) "loop.example/g01073/impl.do").run Tryz.prog w = .ok (193, (.agg #[y0, y1, y2])) w := by kernel_rfl
theorem nil_bringStep_do (y0 : Value) (y1 : Value) (y2 : Value) (w : World) : (nilAhead 277 128 (.agg #[y0, y1, y2]) "loop.example/g01073/impl.do").run Tryz.prog w = .ok (some false) w := by kernel_rfl
set_option maxRecDepth 20000 in
set_option maxHeartbeats 4000000 in
theorem make_bringStep (p v h v' h' : Int) (A : Option Addr) (cap : Nat) (rows rows' : List (List Int)) (w : World) (can : Bool) (a b c : Int) (XA : Option Addr) (n xcap : Nat)
  (SO : ∀ W, Calls Tryz.prog 93 #[.agg #[.int .i64 7, .int .i64 a, .int .i64 b, .int .i64 c, .slice XA n xcap]] W fun e w' => e = .returned (.tuple #[.iface 128 (.agg #[.int .i64 a, .int .i64 b, .slice XA n xcap]), .bool true]) ∧ Below W.heap.size W w')
  (CAN : ∀ W, Below w.heap.size w W → Calls Tryz.prog 192 #[(.agg #[.int .i64 a, .int .i64 b, .slice XA n xcap]), .int .i64 p, .agg #[.int .i64 v, .int .i64 h, .slice A rows.length cap]] W fun e w' => e = .returned (.bool can) ∧ Below W.heap.size W w')
  (DO : can = true → ∀ W, Below w.heap.size w W → Calls Tryz.prog 193 #[(.agg #[.int .i64 a, .int .i64 b, .slice XA n xcap]), .int .i64 p, .agg #[.int .i64 v, .int .i64 h, .slice A rows.length cap]] W fun e w' => ∃ u, e = .returned (.agg #[.int .i64 v', .int .i64 h', u]) ∧ OwnRows w' W.heap.size u rows' ∧ Below W.heap.size W w')
  (hP : Primes w) (hm : rows'.length ≤ maxLen) (hms : ∀ r ∈ rows', r.length ≤ maxLen) :
  Calls Tryz.prog 53 #[.int .i64 p, .agg #[.int .i64 v, .int .i64 h, .slice A rows.length cap], .agg #[.int .i64 7, .int .i64 a, .int .i64 b, .int .i64 c, .slice XA n xcap]] w fun e w' =>
   Made v' h' rows' (can && sysB p v' h' rows') w e w' := by
 have HSO := Lib.hid SO; have HCAN := Lib.hid CAN; have HDO := Lib.hid DO; have HP := Lib.hid hP; have HM := Lib.hid hm; have HMS := Lib.hid hms
 clear SO CAN DO hP hm hms
 have mc := meth_bringStep_can (.int .i64 a) (.int .i64 b) (.slice XA n xcap)
 have nc := nil_bringStep_can (.int .i64 a) (.int .i64 b) (.slice XA n xcap)
 have md := meth_bringStep_do (.int .i64 a) (.int .i64 b) (.slice XA n xcap)
 have nd := nil_bringStep_do (.int .i64 a) (.int .i64 b) (.slice XA n xcap)
 go_enter Tryz.func53, Tryz.ntmps53
 go_upto_region 2 with (go_at_call 93; refine (HSO.out _).mono ?_; rintro e w1 ⟨rfl, hb1⟩)
 have hB3 := (below_alloc3 w (.cells #[.int .i64 v, .int .i64 h, .slice A rows.length cap] 30) (.cells #[.int .i64 7, .int .i64 a, .int .i64 b, .int .i64 c, .slice XA n xcap] 34) (.cells #[.int .i64 0, .int .i64 0, .slice none 0 0] 30))
 obtain ⟨q0, q1, q2⟩ := heap_at3 w (.cells #[.int .i64 v, .int .i64 h, .slice A rows.length cap] 30) (.cells #[.int .i64 7, .int .i64 a, .int .i64 b, .int .i64 c, .slice XA n xcap] 34) (.cells #[.int .i64 0, .int .i64 0, .slice none 0 0] 30)
 have m0 := boxb hb1 q0
 have m2 := boxb hb1 q2
 have hb := hB3.trans (hb1.mono (B' := w.heap.size) (by simp <;> omega))
 have hsz := hb1.size
 simp only [World.size_alloc] at hsz
 obtain ⟨e0, e1, e2, _, _, _⟩ := cells3 m0
 have HB := Lib.hid hb; have M0 := Lib.hid m0; have M2 := Lib.hid m2
 clear q0 q1 q2 m0 m2 hb hb1 hB3
 cases can with
 | false =>
  clear HDO md nd
  go_wp2_with (go_at_call 192; refine (HCAN.out _ HB.out).mono ?_; rintro e w2 ⟨rfl, hb2⟩; obtain ⟨g0, g1, g2, g3, g4, g5⟩ := cells3 (boxb hb2 M2.out); have HB2 := Lib.hid hb2; clear hb2)
  refine bodyPost_ret (v := .tuple #[.agg #[.int .i64 0, .int .i64 0, .slice none 0 0], .bool false]) (by simp [results, Tryz.results53, go_sem, *]) rfl (Made.no (Bool.false_and _) rfl ?_)
  exact (((HB.out.trans (HB2.out.mono (by omega))).setCell (by simp <;> omega) _).setCell (by simp <;> omega) _).setCell (by simp <;> omega) _
 | true =>
  go_upto_region 4 with (go_at_call 192; refine (HCAN.out _ HB.out).mono ?_; rintro e w2 ⟨rfl, hb2⟩; obtain ⟨g0, g1, g2, _, _, _⟩ := cells3 (boxb hb2 M0.out); have HB2 := Lib.hid hb2; clear hb2)
  have hbw2 := HB.out.trans (HB2.out.mono (by omega))
  have hs2 := HB2.out.size
  have HBW2 := Lib.hid hbw2
  have DO2 := Lib.hid (HDO.out (by trivial) w2 hbw2)
  clear hbw2
  cases hs : sysB p v' h' rows' with
  | false =>
   have HS := Lib.hid hs
   clear hs
   go_wp2_with (first | (go_at_call 193; refine DO2.out.mono ?_; rintro e w3 ⟨u, rfl, hu, hb3⟩; obtain ⟨A3, c3, rfl, hr3, _, _⟩ := hu.view; have hbw3 := HBW2.out.trans (hb3.mono (by omega)); have HR3 := Lib.hid hr3; have HU := Lib.hid hu; have HB3 := Lib.hid hb3; have HBW3 := Lib.hid hbw3; clear hu hb3 hr3 hbw3) | (go_at_call 94; refine (validSystem_any p v' h' A3 c3 rows' _ (HP.out.ext HBW3.out) HR3.out HM.out HMS.out).mono ?_; rintro e w4 ⟨_, he, hb4⟩; obtain rfl := he HS.out; clear he; obtain ⟨g0, g1, g2, g3, g4, g5⟩ := cells3 (boxb hb4 (boxb HB3.out (boxb HB2.out M2.out))); have HB4 := Lib.hid hb4; clear hb4))
   refine bodyPost_ret (v := .tuple #[.agg #[.int .i64 0, .int .i64 0, .slice none 0 0], .bool false]) (by simp [results, Tryz.results53, go_sem, *]) rfl (Made.no (by rw [HS.out]; rfl) rfl ?_)
   exact (((HBW3.out.trans (HB4.out.mono (by have := HB3.out.size; omega))).setCell (by simp <;> omega) _).setCell (by simp <;> omega) _).setCell (by simp <;> omega) _
  | true =>
   have HS := Lib.hid hs
   clear hs
   go_wp2_with (first | (go_at_call 193; refine DO2.out.mono ?_; rintro e w3 ⟨u, rfl, hu, hb3⟩; obtain ⟨A3, c3, rfl, hr3, _, _⟩ := hu.view; have hbw3 := HBW2.out.trans (hb3.mono (by omega)); have HR3 := Lib.hid hr3; have HU := Lib.hid hu; have HB3 := Lib.hid hb3; have HBW3 := Lib.hid hbw3; clear hu hb3 hr3 hbw3) | (go_at_call 94; refine (validSystem_any p v' h' A3 c3 rows' _ (HP.out.ext HBW3.out) HR3.out HM.out HMS.out).mono ?_; rintro e w4 ⟨he, _, hb4⟩; obtain rfl := he HS.out; clear he; obtain ⟨g0, g1, g2, g3, g4, g5⟩ := cells3 (boxb hb4 (boxb HB3.out (boxb HB2.out M2.out))); have HB4 := Lib.hid hb4; clear hb4))
   refine bodyPost_ret (v := .tuple #[.agg #[.int .i64 v', .int .i64 h', .slice A3 rows'.length c3], .bool true]) (by simp [results, Tryz.results53, go_sem, *]) rfl (Made.yes (by rw [HS.out]; rfl) rfl ?_ ?_)
   ·exact ((((HU.out.ext HB4.out).setCell (by simp <;> omega) _).setCell (by simp <;> omega) _).setCell (by simp <;> omega) _).mono (by omega)
   ·exact (((HBW3.out.trans (HB4.out.mono (by have := HB3.out.size; omega))).setCell (by simp <;> omega) _).setCell (by simp <;> omega) _).setCell (by simp <;> omega) _
theorem meth_forgetStep_can (y0 : Value) (w : World) : (method 277 130 (.agg #[y0]) "loop.example/g01073/impl.can").run Tryz.prog w = .ok (201, (.agg #[y0])) w := by kernel_rfl
theorem nil_forgetStep_can (y0 : Value) (w : World) : (nilAhead 277 130 (.agg #[y0]) "loop.example/g01073/impl.can").run Tryz.prog w = .ok (some false) w := by kernel_rfl
theorem meth_forgetStep_do (y0 : Value) (w : World) : (method 277 130 (.agg #[y0]) "loop.example/g01073/impl.do").run Tryz.prog w = .ok (202, (.agg #[y0])) w := by kernel_rfl
theorem nil_forgetStep_do (y0 : Value) (w : World) : (nilAhead 277 130 (.agg #[y0]) "loop.example/g01073/impl.do").run Tryz.prog w = .ok (some false) w := by kernel_rfl
set_option maxRecDepth 20000 in
set_option maxHeartbeats 4000000 in
theorem make_forgetStep (p v h v' h' : Int) (A : Option Addr) (cap : Nat) (rows rows' : List (List Int)) (w : World) (can : Bool) (a b c : Int) (XA : Option Addr) (n xcap : Nat)
  (SO : ∀ W, Calls Tryz.prog 93 #[.agg #[.int .i64 8, .int .i64 a, .int .i64 b, .int .i64 c, .slice XA n xcap]] W fun e w' => e = .returned (.tuple #[.iface 130 (.agg #[.int .i64 b]), .bool true]) ∧ Below W.heap.size W w')
  (CAN : ∀ W, Below w.heap.size w W → Calls Tryz.prog 201 #[(.agg #[.int .i64 b]), .int .i64 p, .agg #[.int .i64 v, .int .i64 h, .slice A rows.length cap]] W fun e w' => e = .returned (.bool can) ∧ Below W.heap.size W w')
  (DO : can = true → ∀ W, Below w.heap.size w W → Calls Tryz.prog 202 #[(.agg #[.int .i64 b]), .int .i64 p, .agg #[.int .i64 v, .int .i64 h, .slice A rows.length cap]] W fun e w' => ∃ u, e = .returned (.agg #[.int .i64 v', .int .i64 h', u]) ∧ OwnRows w' W.heap.size u rows' ∧ Below W.heap.size W w')
  (hP : Primes w) (hm : rows'.length ≤ maxLen) (hms : ∀ r ∈ rows', r.length ≤ maxLen) :
  Calls Tryz.prog 53 #[.int .i64 p, .agg #[.int .i64 v, .int .i64 h, .slice A rows.length cap], .agg #[.int .i64 8, .int .i64 a, .int .i64 b, .int .i64 c, .slice XA n xcap]] w fun e w' =>
   Made v' h' rows' (can && sysB p v' h' rows') w e w' := by
 have HSO := Lib.hid SO; have HCAN := Lib.hid CAN; have HDO := Lib.hid DO; have HP := Lib.hid hP; have HM := Lib.hid hm; have HMS := Lib.hid hms
 clear SO CAN DO hP hm hms
 have mc := meth_forgetStep_can (.int .i64 b)
 have nc := nil_forgetStep_can (.int .i64 b)
 have md := meth_forgetStep_do (.int .i64 b)
 have nd := nil_forgetStep_do (.int .i64 b)
 go_enter Tryz.func53, Tryz.ntmps53
 go_upto_region 2 with (go_at_call 93; refine (HSO.out _).mono ?_; rintro e w1 ⟨rfl, hb1⟩)
 have hB3 := (below_alloc3 w (.cells #[.int .i64 v, .int .i64 h, .slice A rows.length cap] 30) (.cells #[.int .i64 8, .int .i64 a, .int .i64 b, .int .i64 c, .slice XA n xcap] 34) (.cells #[.int .i64 0, .int .i64 0, .slice none 0 0] 30))
 obtain ⟨q0, q1, q2⟩ := heap_at3 w (.cells #[.int .i64 v, .int .i64 h, .slice A rows.length cap] 30) (.cells #[.int .i64 8, .int .i64 a, .int .i64 b, .int .i64 c, .slice XA n xcap] 34) (.cells #[.int .i64 0, .int .i64 0, .slice none 0 0] 30)
 have m0 := boxb hb1 q0
 have m2 := boxb hb1 q2
 have hb := hB3.trans (hb1.mono (B' := w.heap.size) (by simp <;> omega))
 have hsz := hb1.size
 simp only [World.size_alloc] at hsz
 obtain ⟨e0, e1, e2, _, _, _⟩ := cells3 m0
 have HB := Lib.hid hb; have M0 := Lib.hid m0; have M2 := Lib.hid m2
 clear q0 q1 q2 m0 m2 hb hb1 hB3
 cases can with
 | false =>
  clear HDO md nd
  go_wp2_with (go_at_call 201; refine (HCAN.out _ HB.out).mono ?_; rintro e w2 ⟨rfl, hb2⟩; obtain ⟨g0, g1, g2, g3, g4, g5⟩ := cells3 (boxb hb2 M2.out); have HB2 := Lib.hid hb2; clear hb2)
  refine bodyPost_ret (v := .tuple #[.agg #[.int .i64 0, .int .i64 0, .slice none 0 0], .bool false]) (by simp [results, Tryz.results53, go_sem, *]) rfl (Made.no (Bool.false_and _) rfl ?_)
  exact (((HB.out.trans (HB2.out.mono (by omega))).setCell (by simp <;> omega) _).setCell (by simp <;> omega) _).setCell (by simp <;> omega) _
 | true =>
  go_upto_region 4 with (go_at_call 201; refine (HCAN.out _ HB.out).mono ?_; rintro e w2 ⟨rfl, hb2⟩; obtain ⟨g0, g1, g2, _, _, _⟩ := cells3 (boxb hb2 M0.out); have HB2 := Lib.hid hb2; clear hb2)
  have hbw2 := HB.out.trans (HB2.out.mono (by omega))
  have hs2 := HB2.out.size
  have HBW2 := Lib.hid hbw2
  have DO2 := Lib.hid (HDO.out (by trivial) w2 hbw2)
  clear hbw2
  cases hs : sysB p v' h' rows' with
  | false =>
   have HS := Lib.hid hs
   clear hs
   go_wp2_with (first | (go_at_call 202; refine DO2.out.mono ?_; rintro e w3 ⟨u, rfl, hu, hb3⟩; obtain ⟨A3, c3, rfl, hr3, _, _⟩ := hu.view; have hbw3 := HBW2.out.trans (hb3.mono (by omega)); have HR3 := Lib.hid hr3; have HU := Lib.hid hu; have HB3 := Lib.hid hb3; have HBW3 := Lib.hid hbw3; clear hu hb3 hr3 hbw3) | (go_at_call 94; refine (validSystem_any p v' h' A3 c3 rows' _ (HP.out.ext HBW3.out) HR3.out HM.out HMS.out).mono ?_; rintro e w4 ⟨_, he, hb4⟩; obtain rfl := he HS.out; clear he; obtain ⟨g0, g1, g2, g3, g4, g5⟩ := cells3 (boxb hb4 (boxb HB3.out (boxb HB2.out M2.out))); have HB4 := Lib.hid hb4; clear hb4))
   refine bodyPost_ret (v := .tuple #[.agg #[.int .i64 0, .int .i64 0, .slice none 0 0], .bool false]) (by simp [results, Tryz.results53, go_sem, *]) rfl (Made.no (by rw [HS.out]; rfl) rfl ?_)
   exact (((HBW3.out.trans (HB4.out.mono (by have := HB3.out.size; omega))).setCell (by simp <;> omega) _).setCell (by simp <;> omega) _).setCell (by simp <;> omega) _
  | true =>
   have HS := Lib.hid hs
   clear hs
   go_wp2_with (first | (go_at_call 202; refine DO2.out.mono ?_; rintro e w3 ⟨u, rfl, hu, hb3⟩; obtain ⟨A3, c3, rfl, hr3, _, _⟩ := hu.view; have hbw3 := HBW2.out.trans (hb3.mono (by omega)); have HR3 := Lib.hid hr3; have HU := Lib.hid hu; have HB3 := Lib.hid hb3; have HBW3 := Lib.hid hbw3; clear hu hb3 hr3 hbw3) | (go_at_call 94; refine (validSystem_any p v' h' A3 c3 rows' _ (HP.out.ext HBW3.out) HR3.out HM.out HMS.out).mono ?_; rintro e w4 ⟨he, _, hb4⟩; obtain rfl := he HS.out; clear he; obtain ⟨g0, g1, g2, g3, g4, g5⟩ := cells3 (boxb hb4 (boxb HB3.out (boxb HB2.out M2.out))); have HB4 := Lib.hid hb4; clear hb4))
   refine bodyPost_ret (v := .tuple #[.agg #[.int .i64 v', .int .i64 h', .slice A3 rows'.length c3], .bool true]) (by simp [results, Tryz.results53, go_sem, *]) rfl (Made.yes (by rw [HS.out]; rfl) rfl ?_ ?_)
   ·exact ((((HU.out.ext HB4.out).setCell (by simp <;> omega) _).setCell (by simp <;> omega) _).setCell (by simp <;> omega) _).mono (by omega)
   ·exact (((HBW3.out.trans (HB4.out.mono (by have := HB3.out.size; omega))).setCell (by simp <;> omega) _).setCell (by simp <;> omega) _).setCell (by simp <;> omega) _
theorem meth_inventStep_can (y0 : Value) (w : World) : (method 277 131 (.agg #[y0]) "loop.example/g01073/impl.can").run Tryz.prog w = .ok (204, (.agg #[y0])) w := by kernel_rfl
theorem nil_inventStep_can (y0 : Value) (w : World) : (nilAhead 277 131 (.agg #[y0]) "loop.example/g01073/impl.can").run Tryz.prog w = .ok (some false) w := by kernel_rfl
theorem meth_inventStep_do (y0 : Value) (w : World) : (method 277 131 (.agg #[y0]) "loop.example/g01073/impl.do").run Tryz.prog w = .ok (205, (.agg #[y0])) w := by kernel_rfl
theorem nil_inventStep_do (y0 : Value) (w : World) : (nilAhead 277 131 (.agg #[y0]) "loop.example/g01073/impl.do").run Tryz.prog w = .ok (some false) w := by kernel_rfl
set_option maxRecDepth 20000 in
set_option maxHeartbeats 4000000 in
theorem make_inventStep (p v h v' h' : Int) (A : Option Addr) (cap : Nat) (rows rows' : List (List Int)) (w : World) (can : Bool) (a b c : Int) (XA : Option Addr) (n xcap : Nat)
  (SO : ∀ W, Calls Tryz.prog 93 #[.agg #[.int .i64 9, .int .i64 a, .int .i64 b, .int .i64 c, .slice XA n xcap]] W fun e w' => e = .returned (.tuple #[.iface 131 (.agg #[.int .i64 b]), .bool true]) ∧ Below W.heap.size W w')
  (CAN : ∀ W, Below w.heap.size w W → Calls Tryz.prog 204 #[(.agg #[.int .i64 b]), .int .i64 p, .agg #[.int .i64 v, .int .i64 h, .slice A rows.length cap]] W fun e w' => e = .returned (.bool can) ∧ Below W.heap.size W w')
  (DO : can = true → ∀ W, Below w.heap.size w W → Calls Tryz.prog 205 #[(.agg #[.int .i64 b]), .int .i64 p, .agg #[.int .i64 v, .int .i64 h, .slice A rows.length cap]] W fun e w' => ∃ u, e = .returned (.agg #[.int .i64 v', .int .i64 h', u]) ∧ OwnRows w' W.heap.size u rows' ∧ Below W.heap.size W w')
  (hP : Primes w) (hm : rows'.length ≤ maxLen) (hms : ∀ r ∈ rows', r.length ≤ maxLen) :
  Calls Tryz.prog 53 #[.int .i64 p, .agg #[.int .i64 v, .int .i64 h, .slice A rows.length cap], .agg #[.int .i64 9, .int .i64 a, .int .i64 b, .int .i64 c, .slice XA n xcap]] w fun e w' =>
   Made v' h' rows' (can && sysB p v' h' rows') w e w' := by
 have HSO := Lib.hid SO; have HCAN := Lib.hid CAN; have HDO := Lib.hid DO; have HP := Lib.hid hP; have HM := Lib.hid hm; have HMS := Lib.hid hms
 clear SO CAN DO hP hm hms
 have mc := meth_inventStep_can (.int .i64 b)
 have nc := nil_inventStep_can (.int .i64 b)
 have md := meth_inventStep_do (.int .i64 b)
 have nd := nil_inventStep_do (.int .i64 b)
 go_enter Tryz.func53, Tryz.ntmps53
 go_upto_region 2 with (go_at_call 93; refine (HSO.out _).mono ?_; rintro e w1 ⟨rfl, hb1⟩)
 have hB3 := (below_alloc3 w (.cells #[.int .i64 v, .int .i64 h, .slice A rows.length cap] 30) (.cells #[.int .i64 9, .int .i64 a, .int .i64 b, .int .i64 c, .slice XA n xcap] 34) (.cells #[.int .i64 0, .int .i64 0, .slice none 0 0] 30))
 obtain ⟨q0, q1, q2⟩ := heap_at3 w (.cells #[.int .i64 v, .int .i64 h, .slice A rows.length cap] 30) (.cells #[.int .i64 9, .int .i64 a, .int .i64 b, .int .i64 c, .slice XA n xcap] 34) (.cells #[.int .i64 0, .int .i64 0, .slice none 0 0] 30)
 have m0 := boxb hb1 q0
 have m2 := boxb hb1 q2
 have hb := hB3.trans (hb1.mono (B' := w.heap.size) (by simp <;> omega))
 have hsz := hb1.size
 simp only [World.size_alloc] at hsz
 obtain ⟨e0, e1, e2, _, _, _⟩ := cells3 m0
 have HB := Lib.hid hb; have M0 := Lib.hid m0; have M2 := Lib.hid m2
 clear q0 q1 q2 m0 m2 hb hb1 hB3
 cases can with
 | false =>
  clear HDO md nd
  go_wp2_with (go_at_call 204; refine (HCAN.out _ HB.out).mono ?_; rintro e w2 ⟨rfl, hb2⟩; obtain ⟨g0, g1, g2, g3, g4, g5⟩ := cells3 (boxb hb2 M2.out); have HB2 := Lib.hid hb2; clear hb2)
  refine bodyPost_ret (v := .tuple #[.agg #[.int .i64 0, .int .i64 0, .slice none 0 0], .bool false]) (by simp [results, Tryz.results53, go_sem, *]) rfl (Made.no (Bool.false_and _) rfl ?_)
  exact (((HB.out.trans (HB2.out.mono (by omega))).setCell (by simp <;> omega) _).setCell (by simp <;> omega) _).setCell (by simp <;> omega) _
 | true =>
  go_upto_region 4 with (go_at_call 204; refine (HCAN.out _ HB.out).mono ?_; rintro e w2 ⟨rfl, hb2⟩; obtain ⟨g0, g1, g2, _, _, _⟩ := cells3 (boxb hb2 M0.out); have HB2 := Lib.hid hb2; clear hb2)
  have hbw2 := HB.out.trans (HB2.out.mono (by omega))
  have hs2 := HB2.out.size
  have HBW2 := Lib.hid hbw2
  have DO2 := Lib.hid (HDO.out (by trivial) w2 hbw2)
  clear hbw2
  cases hs : sysB p v' h' rows' with
  | false =>
   have HS := Lib.hid hs
   clear hs
   go_wp2_with (first | (go_at_call 205; refine DO2.out.mono ?_; rintro e w3 ⟨u, rfl, hu, hb3⟩; obtain ⟨A3, c3, rfl, hr3, _, _⟩ := hu.view; have hbw3 := HBW2.out.trans (hb3.mono (by omega)); have HR3 := Lib.hid hr3; have HU := Lib.hid hu; have HB3 := Lib.hid hb3; have HBW3 := Lib.hid hbw3; clear hu hb3 hr3 hbw3) | (go_at_call 94; refine (validSystem_any p v' h' A3 c3 rows' _ (HP.out.ext HBW3.out) HR3.out HM.out HMS.out).mono ?_; rintro e w4 ⟨_, he, hb4⟩; obtain rfl := he HS.out; clear he; obtain ⟨g0, g1, g2, g3, g4, g5⟩ := cells3 (boxb hb4 (boxb HB3.out (boxb HB2.out M2.out))); have HB4 := Lib.hid hb4; clear hb4))
   refine bodyPost_ret (v := .tuple #[.agg #[.int .i64 0, .int .i64 0, .slice none 0 0], .bool false]) (by simp [results, Tryz.results53, go_sem, *]) rfl (Made.no (by rw [HS.out]; rfl) rfl ?_)
   exact (((HBW3.out.trans (HB4.out.mono (by have := HB3.out.size; omega))).setCell (by simp <;> omega) _).setCell (by simp <;> omega) _).setCell (by simp <;> omega) _
  | true =>
   have HS := Lib.hid hs
   clear hs
   go_wp2_with (first | (go_at_call 205; refine DO2.out.mono ?_; rintro e w3 ⟨u, rfl, hu, hb3⟩; obtain ⟨A3, c3, rfl, hr3, _, _⟩ := hu.view; have hbw3 := HBW2.out.trans (hb3.mono (by omega)); have HR3 := Lib.hid hr3; have HU := Lib.hid hu; have HB3 := Lib.hid hb3; have HBW3 := Lib.hid hbw3; clear hu hb3 hr3 hbw3) | (go_at_call 94; refine (validSystem_any p v' h' A3 c3 rows' _ (HP.out.ext HBW3.out) HR3.out HM.out HMS.out).mono ?_; rintro e w4 ⟨he, _, hb4⟩; obtain rfl := he HS.out; clear he; obtain ⟨g0, g1, g2, g3, g4, g5⟩ := cells3 (boxb hb4 (boxb HB3.out (boxb HB2.out M2.out))); have HB4 := Lib.hid hb4; clear hb4))
   refine bodyPost_ret (v := .tuple #[.agg #[.int .i64 v', .int .i64 h', .slice A3 rows'.length c3], .bool true]) (by simp [results, Tryz.results53, go_sem, *]) rfl (Made.yes (by rw [HS.out]; rfl) rfl ?_ ?_)
   ·exact ((((HU.out.ext HB4.out).setCell (by simp <;> omega) _).setCell (by simp <;> omega) _).setCell (by simp <;> omega) _).mono (by omega)
   ·exact (((HBW3.out.trans (HB4.out.mono (by have := HB3.out.size; omega))).setCell (by simp <;> omega) _).setCell (by simp <;> omega) _).setCell (by simp <;> omega) _
end Go.Proofs.YtjdbfokbgmbphaaGreatDoor
