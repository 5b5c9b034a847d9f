/- The program's undoStep and UndoStep: the step that leads back, where the step is possible. Conditions: lengths; the table of primes is laid. -/
import Derived.Test.YtjdbfokbgmbphaaGreatDoorPk30
import Derived.Test.YtjdbfokbgmbphaaGreatDoorPk22
namespace Go.Proofs.YtjdbfokbgmbphaaGreatDoor
set_option linter.unusedVariables false
set_option linter.unusedSimpArgs false
open Go.RowKit
def uK (ok : Bool) (k : Int) : Int := if ok = true then (if k = 4 then 5 else if k = 5 then 4 else if k = 6 then 7 else if k = 7 then 6 else if k = 8 then 9 else if k = 9 then 8 else k) else 0
def uA (ok : Bool) (k a : Int) : Int := if ok = true then (if k = 8 ∨ k = 9 then 0 else a) else 0
def uB (ok : Bool) (k b : Int) : Int := if ok = true then (if k = 1 ∨ k = 3 ∨ k = 6 ∨ k = 7 ∨ k = 8 ∨ k = 9 then b else 0) else 0
def uC (ok : Bool) (p k c : Int) : Int := if ok = true then (if k = 2 then invP p c else if k = 3 then (p - c) % p else 0) else 0
def uR (ok : Bool) (rows : List (List Int)) (k a : Int) : List Int := if ok = true then (if k = 6 then rows.getD a.toNat [] else []) else []
/-- What undoStep answers. -/
def Undone (k' a' b' c' : Int) (r' : List Int) (ok : Bool) (w : World) (e : Ending) (w' : World) : Prop :=
 ∃ u, e = .returned (.tuple #[.agg #[.int .i64 k', .int .i64 a', .int .i64 b', .int .i64 c', u], .bool ok]) ∧ OwnInts w' w.heap.size u r' ∧ Below w.heap.size w w'
theorem Undone.mk {k' a' b' c' : Int} {r' : List Int} {ok : Bool} {u : Value} {w w' : World} {e : Ending} (he : e = .returned (.tuple #[.agg #[.int .i64 k', .int .i64 a', .int .i64 b', .int .i64 c', u], .bool ok]))
  (hu : OwnInts w' w.heap.size u r') (hb : Below w.heap.size w w') : Undone k' a' b' c' r' ok w e w' := ⟨u, he, hu, hb⟩
set_option maxHeartbeats 2000000 in
theorem undoStep_no (p v h k a b c : Int) (A : Option Addr) (cap : Nat) (rows : List (List Int)) (w : World) (XA : Option Addr) (n xcap : Nat) (v1 h1 : Int) (r1 : List (List Int))
  (MK : ∀ W, Below w.heap.size w W → Calls Tryz.prog 53 #[.int .i64 p, .agg #[.int .i64 v, .int .i64 h, .slice A rows.length cap], .agg #[.int .i64 k, .int .i64 a, .int .i64 b, .int .i64 c, .slice XA n xcap]] W (Made v1 h1 r1 false W)) :
  Calls Tryz.prog 64 #[.int .i64 p, .agg #[.int .i64 v, .int .i64 h, .slice A rows.length cap], .agg #[.int .i64 k, .int .i64 a, .int .i64 b, .int .i64 c, .slice XA n xcap]] w (Undone 0 0 0 0 [] false w) := by
 have HMK := Lib.hid MK
 clear MK
 have hB3 := below_alloc3 w (.cells #[.int .i64 v, .int .i64 h, .slice A rows.length cap] 30) (.cells #[.int .i64 k, .int .i64 a, .int .i64 b, .int .i64 c, .slice XA n xcap] 34) (.cells #[.int .i64 0, .int .i64 0, .int .i64 0, .int .i64 0, .slice none 0 0] 34)
 obtain ⟨q0, q1, q2⟩ := heap_at3 w (.cells #[.int .i64 v, .int .i64 h, .slice A rows.length cap] 30) (.cells #[.int .i64 k, .int .i64 a, .int .i64 b, .int .i64 c, .slice XA n xcap] 34) (.cells #[.int .i64 0, .int .i64 0, .int .i64 0, .int .i64 0, .slice none 0 0] 34)
 have HB3 := Lib.hid hB3; have Q0 := Lib.hid q0; have Q1 := Lib.hid q1; have Q2 := Lib.hid q2
 clear hB3 q0 q1 q2
 go_enter Tryz.func64, Tryz.ntmps64
 go_upto_region 2 with (go_at_call 53; refine (HMK.out _ HB3.out).mono ?_; rintro e w1 ⟨v2, h2, A2, n2, c2, rfl, _, hno, hb1⟩; obtain ⟨rfl, rfl, rfl, rfl, rfl⟩ := hno rfl; clear hno)
 have hsz := hb1.size
 simp only [World.size_alloc] at hsz
 obtain ⟨W2, hW2⟩ : ∃ W2, W2 = w1.alloc (.cells #[.int .i64 0, .int .i64 0, .slice none 0 0] 30) := ⟨_, rfl⟩
 rw [← hW2]
 have hb2 : Below w1.heap.size w1 W2 := by rw [hW2]; exact (Below.refl _ _).alloc (Nat.le_refl _) _
 have hb12 := below_ext hb1 hb2
 obtain ⟨⟨c0, c1, c2', c3, c4⟩, f0, f1, f2, f3, f4⟩ := box5 hb12 Q2.out
 have HE := Lib.hid (HB3.out.trans (hb12.mono (B' := w.heap.size) (by simp <;> omega)))
 clear hb1 hb2 hb12 hW2
 go_wp2
 refine bodyPost_ret (v := .tuple #[.agg #[.int .i64 0, .int .i64 0, .int .i64 0, .int .i64 0, .slice none 0 0], .bool false]) (by simp [results, Tryz.results64, go_sem, *]) rfl (Undone.mk rfl (OwnInts.nil _ _) ?_)
 exact below_set5 HE.out (by omega) _ _ _ _ _
theorem meth_swapStep_undo (y0 : Value) (y1 : Value) (w : World) : (method 277 118 (.agg #[y0, y1]) "loop.example/g01073/impl.undo").run Tryz.prog w = .ok (163, (.agg #[y0, y1])) w := by kernel_rfl
theorem nil_swapStep_undo (y0 : Value) (y1 : Value) (w : World) : (nilAhead 277 118 (.agg #[y0, y1]) "loop.example/g01073/impl.undo").run Tryz.prog w = .ok (some false) w := by kernel_rfl
set_option maxRecDepth 20000 in
set_option maxHeartbeats 4000000 in
theorem undoStep_swapStep (p v h a b c k' a' b' c' : Int) (r' : List Int) (A : Option Addr) (cap : Nat) (rows : List (List Int)) (w : World) (XA : Option Addr) (n xcap : Nat) (v1 h1 : Int) (r1 : List (List Int))
  (MK : ∀ W, Below w.heap.size w W → Calls Tryz.prog 53 #[.int .i64 p, .agg #[.int .i64 v, .int .i64 h, .slice A rows.length cap], .agg #[.int .i64 1, .int .i64 a, .int .i64 b, .int .i64 c, .slice XA n xcap]] W (Made v1 h1 r1 true W))
  (SO : ∀ W, Calls Tryz.prog 93 #[.agg #[.int .i64 1, .int .i64 a, .int .i64 b, .int .i64 c, .slice XA n xcap]] W fun e w' => e = .returned (.tuple #[.iface 118 (.agg #[.int .i64 a, .int .i64 b]), .bool true]) ∧ Below W.heap.size W w')
  (UN : ∀ W, Below w.heap.size w W → Calls Tryz.prog 163 #[(.agg #[.int .i64 a, .int .i64 b]), .int .i64 p, .agg #[.int .i64 v, .int .i64 h, .slice A rows.length cap]] W fun e w' => ∃ u, e = .returned (.agg #[.int .i64 k', .int .i64 a', .int .i64 b', .int .i64 c', u]) ∧ OwnInts w' W.heap.size u r' ∧ Below W.heap.size W w') :
  Calls Tryz.prog 64 #[.int .i64 p, .agg #[.int .i64 v, .int .i64 h, .slice A rows.length cap], .agg #[.int .i64 1, .int .i64 a, .int .i64 b, .int .i64 c, .slice XA n xcap]] w (Undone k' a' b' c' r' true w) := by
 have HMK := Lib.hid MK; have HSO := Lib.hid SO; have HUN := Lib.hid UN
 clear MK SO UN
 have mc := meth_swapStep_undo (.int .i64 a) (.int .i64 b)
 have nc := nil_swapStep_undo (.int .i64 a) (.int .i64 b)
 have hB3 := below_alloc3 w (.cells #[.int .i64 v, .int .i64 h, .slice A rows.length cap] 30) (.cells #[.int .i64 1, .int .i64 a, .int .i64 b, .int .i64 c, .slice XA n xcap] 34) (.cells #[.int .i64 0, .int .i64 0, .int .i64 0, .int .i64 0, .slice none 0 0] 34)
 obtain ⟨q0, q1, q2⟩ := heap_at3 w (.cells #[.int .i64 v, .int .i64 h, .slice A rows.length cap] 30) (.cells #[.int .i64 1, .int .i64 a, .int .i64 b, .int .i64 c, .slice XA n xcap] 34) (.cells #[.int .i64 0, .int .i64 0, .int .i64 0, .int .i64 0, .slice none 0 0] 34)
 have HB3 := Lib.hid hB3; have Q0 := Lib.hid q0; have Q1 := Lib.hid q1; have Q2 := Lib.hid q2
 clear hB3 q0 q1 q2
 go_enter Tryz.func64, Tryz.ntmps64
 go_upto_region 2 with (go_at_call 53; refine (HMK.out _ HB3.out).mono ?_; rintro e w1 ⟨v2, h2, A2, n2, c2, rfl, hye, _, hb1⟩; obtain ⟨rfl, rfl, _⟩ := hye rfl; clear hye)
 have hsz := hb1.size
 simp only [World.size_alloc] at hsz
 obtain ⟨W2, hW2⟩ : ∃ W2, W2 = w1.alloc (.cells #[.int .i64 v2, .int .i64 h2, .slice A2 n2 c2] 30) := ⟨_, rfl⟩
 rw [← hW2]
 have hb2 : Below w1.heap.size w1 W2 := by rw [hW2]; exact (Below.refl _ _).alloc (Nat.le_refl _) _
 have hb12 := below_ext hb1 hb2
 obtain ⟨⟨d0, d1, d2, d3, d4⟩, _⟩ := box5 hb12 Q1.out
 have H12 := Lib.hid hb12
 have HE := Lib.hid (HB3.out.trans (hb12.mono (B' := w.heap.size) (by simp <;> omega)))
 clear hb1 hb2 hb12 hW2
 go_upto_region 5 with (go_at_call 93; refine (HSO.out _).mono ?_; rintro e w3 ⟨rfl, hb3⟩; have H3 := Lib.hid (below_ext H12.out hb3); have HE3 := Lib.hid (below_ext HE.out hb3); clear hb3)
 obtain ⟨e0, e1, e2, _⟩ := box3 H3.out Q0.out
 clear d0 d1 d2 d3 d4
 go_wp2_with (go_at_call 163; refine (HUN.out _ HE3.out).mono ?_; rintro e w4 ⟨u, rfl, hu, hb4⟩; obtain ⟨A4, c4', rfl, _⟩ := hu.view; obtain ⟨⟨c0, c1, c2', c3, c4⟩, f0, f1, f2, f3, f4⟩ := box5 (below_ext H3.out hb4) Q2.out; have HU := Lib.hid hu; have H4 := Lib.hid (below_ext HE3.out hb4); clear hu hb4)
 have hs3 := H3.out.size
 simp only [World.size_alloc] at hs3
 refine bodyPost_ret (v := .tuple #[.agg #[.int .i64 k', .int .i64 a', .int .i64 b', .int .i64 c', .slice A4 r'.length c4'], .bool true]) (by simp [results, Tryz.results64, go_sem, *]) rfl (Undone.mk rfl ?_ ?_)
 ·exact (((((HU.out.setCell (by simp <;> omega) _).setCell (by simp <;> omega) _).setCell (by simp <;> omega) _).setCell (by simp <;> omega) _).setCell (by simp <;> omega) _).mono (by omega)
 ·exact below_set5 H4.out (by omega) _ _ _ _ _
theorem meth_scaleStep_undo (y0 : Value) (y1 : Value) (w : World) : (method 277 120 (.agg #[y0, y1]) "loop.example/g01073/impl.undo").run Tryz.prog w = .ok (167, (.agg #[y0, y1])) w := by kernel_rfl
theorem nil_scaleStep_undo (y0 : Value) (y1 : Value) (w : World) : (nilAhead 277 120 (.agg #[y0, y1]) "loop.example/g01073/impl.undo").run Tryz.prog w = .ok (some false) w := by kernel_rfl
set_option maxRecDepth 20000 in
set_option maxHeartbeats 4000000 in
theorem undoStep_scaleStep (p v h a b c k' a' b' c' : Int) (r' : List Int) (A : Option Addr) (cap : Nat) (rows : List (List Int)) (w : World) (XA : Option Addr) (n xcap : Nat) (v1 h1 : Int) (r1 : List (List Int))
  (MK : ∀ W, Below w.heap.size w W → Calls Tryz.prog 53 #[.int .i64 p, .agg #[.int .i64 v, .int .i64 h, .slice A rows.length cap], .agg #[.int .i64 2, .int .i64 a, .int .i64 b, .int .i64 c, .slice XA n xcap]] W (Made v1 h1 r1 true W))
  (SO : ∀ W, Calls Tryz.prog 93 #[.agg #[.int .i64 2, .int .i64 a, .int .i64 b, .int .i64 c, .slice XA n xcap]] W fun e w' => e = .returned (.tuple #[.iface 120 (.agg #[.int .i64 a, .int .i64 c]), .bool true]) ∧ Below W.heap.size W w')
  (UN : ∀ W, Below w.heap.size w W → Calls Tryz.prog 167 #[(.agg #[.int .i64 a, .int .i64 c]), .int .i64 p, .agg #[.int .i64 v, .int .i64 h, .slice A rows.length cap]] W fun e w' => ∃ u, e = .returned (.agg #[.int .i64 k', .int .i64 a', .int .i64 b', .int .i64 c', u]) ∧ OwnInts w' W.heap.size u r' ∧ Below W.heap.size W w') :
  Calls Tryz.prog 64 #[.int .i64 p, .agg #[.int .i64 v, .int .i64 h, .slice A rows.length cap], .agg #[.int .i64 2, .int .i64 a, .int .i64 b, .int .i64 c, .slice XA n xcap]] w (Undone k' a' b' c' r' true w) := by
 have HMK := Lib.hid MK; have HSO := Lib.hid SO; have HUN := Lib.hid UN
 clear MK SO UN
 have mc := meth_scaleStep_undo (.int .i64 a) (.int .i64 c)
 have nc := nil_scaleStep_undo (.int .i64 a) (.int .i64 c)
 have hB3 := below_alloc3 w (.cells #[.int .i64 v, .int .i64 h, .slice A rows.length cap] 30) (.cells #[.int .i64 2, .int .i64 a, .int .i64 b, .int .i64 c, .slice XA n xcap] 34) (.cells #[.int .i64 0, .int .i64 0, .int .i64 0, .int .i64 0, .slice none 0 0] 34)
 obtain ⟨q0, q1, q2⟩ := heap_at3 w (.cells #[.int .i64 v, .int .i64 h, .slice A rows.length cap] 30) (.cells #[.int .i64 2, .int .i64 a, .int .i64 b, .int .i64 c, .slice XA n xcap] 34) (.cells #[.int .i64 0, .int .i64 0, .int .i64 0, .int .i64 0, .slice none 0 0] 34)
 have HB3 := Lib.hid hB3; have Q0 := Lib.hid q0; have Q1 := Lib.hid q1; have Q2 := Lib.hid q2
 clear hB3 q0 q1 q2
 go_enter Tryz.func64, Tryz.ntmps64
 go_upto_region 2 with (go_at_call 53; refine (HMK.out _ HB3.out).mono ?_; rintro e w1 ⟨v2, h2, A2, n2, c2, rfl, hye, _, hb1⟩; obtain ⟨rfl, rfl, _⟩ := hye rfl; clear hye)
 have hsz := hb1.size
 simp only [World.size_alloc] at hsz
 obtain ⟨W2, hW2⟩ : ∃ W2, W2 = w1.alloc (.cells #[.int .i64 v2, .int .i64 h2, .slice A2 n2 c2] 30) := ⟨_, rfl⟩
 rw [← hW2]
 have hb2 : Below w1.heap.size w1 W2 := by rw [hW2]; exact (Below.refl _ _).alloc (Nat.le_refl _) _
 have hb12 := below_ext hb1 hb2
 obtain ⟨⟨d0, d1, d2, d3, d4⟩, _⟩ := box5 hb12 Q1.out
 have H12 := Lib.hid hb12
 have HE := Lib.hid (HB3.out.trans (hb12.mono (B' := w.heap.size) (by simp <;> omega)))
 clear hb1 hb2 hb12 hW2
 go_upto_region 5 with (go_at_call 93; refine (HSO.out _).mono ?_; rintro e w3 ⟨rfl, hb3⟩; have H3 := Lib.hid (below_ext H12.out hb3); have HE3 := Lib.hid (below_ext HE.out hb3); clear hb3)
 obtain ⟨e0, e1, e2, _⟩ := box3 H3.out Q0.out
 clear d0 d1 d2 d3 d4
 go_wp2_with (go_at_call 167; refine (HUN.out _ HE3.out).mono ?_; rintro e w4 ⟨u, rfl, hu, hb4⟩; obtain ⟨A4, c4', rfl, _⟩ := hu.view; obtain ⟨⟨c0, c1, c2', c3, c4⟩, f0, f1, f2, f3, f4⟩ := box5 (below_ext H3.out hb4) Q2.out; have HU := Lib.hid hu; have H4 := Lib.hid (below_ext HE3.out hb4); clear hu hb4)
 have hs3 := H3.out.size
 simp only [World.size_alloc] at hs3
 refine bodyPost_ret (v := .tuple #[.agg #[.int .i64 k', .int .i64 a', .int .i64 b', .int .i64 c', .slice A4 r'.length c4'], .bool true]) (by simp [results, Tryz.results64, go_sem, *]) rfl (Undone.mk rfl ?_ ?_)
 ·exact (((((HU.out.setCell (by simp <;> omega) _).setCell (by simp <;> omega) _).setCell (by simp <;> omega) _).setCell (by simp <;> omega) _).setCell (by simp <;> omega) _).mono (by omega)
 ·exact below_set5 H4.out (by omega) _ _ _ _ _
theorem meth_addStep_undo (y0 : Value) (y1 : Value) (y2 : Value) (w : World) : (method 277 122 (.agg #[y0, y1, y2]) "loop.example/g01073/impl.undo").run Tryz.prog w = .ok (170, (.agg #[y0, y1, y2])) w := by kernel_rfl
theorem nil_addStep_undo (y0 : Value) (y1 : Value) (y2 : Value) (w : World) : (nilAhead 277 122 (.agg #[y0, y1, y2]) "loop.example/g01073/impl.undo").run Tryz.prog w = .ok (some false) w := by kernel_rfl
set_option maxRecDepth 20000 in
set_option maxHeartbeats 4000000 in
theorem undoStep_addStep (p v h a b c k' a' b' c' : Int) (r' : List Int) (A : Option Addr) (cap : Nat) (rows : List (List Int)) (w : World) (XA : Option Addr) (n xcap : Nat) (v1 h1 : Int) (r1 : List (List Int))
  (MK : ∀ W, Below w.heap.size w W → Calls Tryz.prog 53 #[.int .i64 p, .agg #[.int .i64 v, .int .i64 h, .slice A rows.length cap], .agg #[.int .i64 3, .int .i64 a, .int .i64 b, .int .i64 c, .slice XA n xcap]] W (Made v1 h1 r1 true W))
  (SO : ∀ W, Calls Tryz.prog 93 #[.agg #[.int .i64 3, .int .i64 a, .int .i64 b, .int .i64 c, .slice XA n xcap]] W fun e w' => e = .returned (.tuple #[.iface 122 (.agg #[.int .i64 a, .int .i64 b, .int .i64 c]), .bool true]) ∧ Below W.heap.size W w')
  (UN : ∀ W, Below w.heap.size w W → Calls Tryz.prog 170 #[(.agg #[.int .i64 a, .int .i64 b, .int .i64 c]), .int .i64 p, .agg #[.int .i64 v, .int .i64 h, .slice A rows.length cap]] W fun e w' => ∃ u, e = .returned (.agg #[.int .i64 k', .int .i64 a', .int .i64 b', .int .i64 c', u]) ∧ OwnInts w' W.heap.size u r' ∧ Below W.heap.size W w') :
  Calls Tryz.prog 64 #[.int .i64 p, .agg #[.int .i64 v, .int .i64 h, .slice A rows.length cap], .agg #[.int .i64 3, .int .i64 a, .int .i64 b, .int .i64 c, .slice XA n xcap]] w (Undone k' a' b' c' r' true w) := by
 have HMK := Lib.hid MK; have HSO := Lib.hid SO; have HUN := Lib.hid UN
 clear MK SO UN
 have mc := meth_addStep_undo (.int .i64 a) (.int .i64 b) (.int .i64 c)
 have nc := nil_addStep_undo (.int .i64 a) (.int .i64 b) (.int .i64 c)
 have hB3 := below_alloc3 w (.cells #[.int .i64 v, .int .i64 h, .slice A rows.length cap] 30) (.cells #[.int .i64 3, .int .i64 a, .int .i64 b, .int .i64 c, .slice XA n xcap] 34) (.cells #[.int .i64 0, .int .i64 0, .int .i64 0, .int .i64 0, .slice none 0 0] 34)
 obtain ⟨q0, q1, q2⟩ := heap_at3 w (.cells #[.int .i64 v, .int .i64 h, .slice A rows.length cap] 30) (.cells #[.int .i64 3, .int .i64 a, .int .i64 b, .int .i64 c, .slice XA n xcap] 34) (.cells #[.int .i64 0, .int .i64 0, .int .i64 0, .int .i64 0, .slice none 0 0] 34)
 have HB3 := Lib.hid hB3; have Q0 := Lib.hid q0; have Q1 := Lib.hid q1; have Q2 := Lib.hid q2
 clear hB3 q0 q1 q2
 go_enter Tryz.func64, Tryz.ntmps64
 go_upto_region 2 with (go_at_call 53; refine (HMK.out _ HB3.out).mono ?_; rintro e w1 ⟨v2, h2, A2, n2, c2, rfl, hye, _, hb1⟩; obtain ⟨rfl, rfl, _⟩ := hye rfl; clear hye)
 have hsz := hb1.size
 simp only [World.size_alloc] at hsz
 obtain ⟨W2, hW2⟩ : ∃ W2, W2 = w1.alloc (.cells #[.int .i64 v2, .int .i64 h2, .slice A2 n2 c2] 30) := ⟨_, rfl⟩
 rw [← hW2]
 have hb2 : Below w1.heap.size w1 W2 := by rw [hW2]; exact (Below.refl _ _).alloc (Nat.le_refl _) _
 have hb12 := below_ext hb1 hb2
 obtain ⟨⟨d0, d1, d2, d3, d4⟩, _⟩ := box5 hb12 Q1.out
 have H12 := Lib.hid hb12
 have HE := Lib.hid (HB3.out.trans (hb12.mono (B' := w.heap.size) (by simp <;> omega)))
 clear hb1 hb2 hb12 hW2
 go_upto_region 5 with (go_at_call 93; refine (HSO.out _).mono ?_; rintro e w3 ⟨rfl, hb3⟩; have H3 := Lib.hid (below_ext H12.out hb3); have HE3 := Lib.hid (below_ext HE.out hb3); clear hb3)
 obtain ⟨e0, e1, e2, _⟩ := box3 H3.out Q0.out
 clear d0 d1 d2 d3 d4
 go_wp2_with (go_at_call 170; refine (HUN.out _ HE3.out).mono ?_; rintro e w4 ⟨u, rfl, hu, hb4⟩; obtain ⟨A4, c4', rfl, _⟩ := hu.view; obtain ⟨⟨c0, c1, c2', c3, c4⟩, f0, f1, f2, f3, f4⟩ := box5 (below_ext H3.out hb4) Q2.out; have HU := Lib.hid hu; have H4 := Lib.hid (below_ext HE3.out hb4); clear hu hb4)
 have hs3 := H3.out.size
 simp only [World.size_alloc] at hs3
 refine bodyPost_ret (v := .tuple #[.agg #[.int .i64 k', .int .i64 a', .int .i64 b', .int .i64 c', .slice A4 r'.length c4'], .bool true]) (by simp [results, Tryz.results64, go_sem, *]) rfl (Undone.mk rfl ?_ ?_)
 ·exact (((((HU.out.setCell (by simp <;> omega) _).setCell (by simp <;> omega) _).setCell (by simp <;> omega) _).setCell (by simp <;> omega) _).setCell (by simp <;> omega) _).mono (by omega)
 ·exact below_set5 H4.out (by omega) _ _ _ _ _
theorem meth_dropStep_undo (y0 : Value) (w : World) : (method 277 124 (.agg #[y0]) "loop.example/g01073/impl.undo").run Tryz.prog w = .ok (173, (.agg #[y0])) w := by kernel_rfl
theorem nil_dropStep_undo (y0 : Value) (w : World) : (nilAhead 277 124 (.agg #[y0]) "loop.example/g01073/impl.undo").run Tryz.prog w = .ok (some false) w := by kernel_rfl
set_option maxRecDepth 20000 in
set_option maxHeartbeats 4000000 in
theorem undoStep_dropStep (p v h a b c k' a' b' c' : Int) (r' : List Int) (A : Option Addr) (cap : Nat) (rows : List (List Int)) (w : World) (XA : Option Addr) (n xcap : Nat) (v1 h1 : Int) (r1 : List (List Int))
  (MK : ∀ W, Below w.heap.size w W → Calls Tryz.prog 53 #[.int .i64 p, .agg #[.int .i64 v, .int .i64 h, .slice A rows.length cap], .agg #[.int .i64 4, .int .i64 a, .int .i64 b, .int .i64 c, .slice XA n xcap]] W (Made v1 h1 r1 true W))
  (SO : ∀ W, Calls Tryz.prog 93 #[.agg #[.int .i64 4, .int .i64 a, .int .i64 b, .int .i64 c, .slice XA n xcap]] W fun e w' => e = .returned (.tuple #[.iface 124 (.agg #[.int .i64 a]), .bool true]) ∧ Below W.heap.size W w')
  (UN : ∀ W, Below w.heap.size w W → Calls Tryz.prog 173 #[(.agg #[.int .i64 a]), .int .i64 p, .agg #[.int .i64 v, .int .i64 h, .slice A rows.length cap]] W fun e w' => ∃ u, e = .returned (.agg #[.int .i64 k', .int .i64 a', .int .i64 b', .int .i64 c', u]) ∧ OwnInts w' W.heap.size u r' ∧ Below W.heap.size W w') :
  Calls Tryz.prog 64 #[.int .i64 p, .agg #[.int .i64 v, .int .i64 h, .slice A rows.length cap], .agg #[.int .i64 4, .int .i64 a, .int .i64 b, .int .i64 c, .slice XA n xcap]] w (Undone k' a' b' c' r' true w) := by
 have HMK := Lib.hid MK; have HSO := Lib.hid SO; have HUN := Lib.hid UN
 clear MK SO UN
 have mc := meth_dropStep_undo (.int .i64 a)
 have nc := nil_dropStep_undo (.int .i64 a)
 have hB3 := below_alloc3 w (.cells #[.int .i64 v, .int .i64 h, .slice A rows.length cap] 30) (.cells #[.int .i64 4, .int .i64 a, .int .i64 b, .int .i64 c, .slice XA n xcap] 34) (.cells #[.int .i64 0, .int .i64 0, .int .i64 0, .int .i64 0, .slice none 0 0] 34)
 obtain ⟨q0, q1, q2⟩ := heap_at3 w (.cells #[.int .i64 v, .int .i64 h, .slice A rows.length cap] 30) (.cells #[.int .i64 4, .int .i64 a, .int .i64 b, .int .i64 c, .slice XA n xcap] 34) (.cells #[.int .i64 0, .int .i64 0, .int .i64 0, .int .i64 0, .slice none 0 0] 34)
 have HB3 := Lib.hid hB3; have Q0 := Lib.hid q0; have Q1 := Lib.hid q1; have Q2 := Lib.hid q2
 clear hB3 q0 q1 q2
 go_enter Tryz.func64, Tryz.ntmps64
 go_upto_region 2 with (go_at_call 53; refine (HMK.out _ HB3.out).mono ?_; rintro e w1 ⟨v2, h2, A2, n2, c2, rfl, hye, _, hb1⟩; obtain ⟨rfl, rfl, _⟩ := hye rfl; clear hye)
 have hsz := hb1.size
 simp only [World.size_alloc] at hsz
 obtain ⟨W2, hW2⟩ : ∃ W2, W2 = w1.alloc (.cells #[.int .i64 v2, .int .i64 h2, .slice A2 n2 c2] 30) := ⟨_, rfl⟩
 rw [← hW2]
 have hb2 : Below w1.heap.size w1 W2 := by rw [hW2]; exact (Below.refl _ _).alloc (Nat.le_refl _) _
 have hb12 := below_ext hb1 hb2
 obtain ⟨⟨d0, d1, d2, d3, d4⟩, _⟩ := box5 hb12 Q1.out
 have H12 := Lib.hid hb12
 have HE := Lib.hid (HB3.out.trans (hb12.mono (B' := w.heap.size) (by simp <;> omega)))
 clear hb1 hb2 hb12 hW2
 go_upto_region 5 with (go_at_call 93; refine (HSO.out _).mono ?_; rintro e w3 ⟨rfl, hb3⟩; have H3 := Lib.hid (below_ext H12.out hb3); have HE3 := Lib.hid (below_ext HE.out hb3); clear hb3)
 obtain ⟨e0, e1, e2, _⟩ := box3 H3.out Q0.out
 clear d0 d1 d2 d3 d4
 go_wp2_with (go_at_call 173; refine (HUN.out _ HE3.out).mono ?_; rintro e w4 ⟨u, rfl, hu, hb4⟩; obtain ⟨A4, c4', rfl, _⟩ := hu.view; obtain ⟨⟨c0, c1, c2', c3, c4⟩, f0, f1, f2, f3, f4⟩ := box5 (below_ext H3.out hb4) Q2.out; have HU := Lib.hid hu; have H4 := Lib.hid (below_ext HE3.out hb4); clear hu hb4)
 have hs3 := H3.out.size
 simp only [World.size_alloc] at hs3
 refine bodyPost_ret (v := .tuple #[.agg #[.int .i64 k', .int .i64 a', .int .i64 b', .int .i64 c', .slice A4 r'.length c4'], .bool true]) (by simp [results, Tryz.results64, go_sem, *]) rfl (Undone.mk rfl ?_ ?_)
 ·exact (((((HU.out.setCell (by simp <;> omega) _).setCell (by simp <;> omega) _).setCell (by simp <;> omega) _).setCell (by simp <;> omega) _).setCell (by simp <;> omega) _).mono (by omega)
 ·exact below_set5 H4.out (by omega) _ _ _ _ _
theorem meth_putStep_undo (y0 : Value) (w : World) : (method 277 125 (.agg #[y0]) "loop.example/g01073/impl.undo").run Tryz.prog w = .ok (179, (.agg #[y0])) w := by kernel_rfl
theorem nil_putStep_undo (y0 : Value) (w : World) : (nilAhead 277 125 (.agg #[y0]) "loop.example/g01073/impl.undo").run Tryz.prog w = .ok (some false) w := by kernel_rfl
set_option maxRecDepth 20000 in
set_option maxHeartbeats 4000000 in
theorem undoStep_putStep (p v h a b c k' a' b' c' : Int) (r' : List Int) (A : Option Addr) (cap : Nat) (rows : List (List Int)) (w : World) (XA : Option Addr) (n xcap : Nat) (v1 h1 : Int) (r1 : List (List Int))
  (MK : ∀ W, Below w.heap.size w W → Calls Tryz.prog 53 #[.int .i64 p, .agg #[.int .i64 v, .int .i64 h, .slice A rows.length cap], .agg #[.int .i64 5, .int .i64 a, .int .i64 b, .int .i64 c, .slice XA n xcap]] W (Made v1 h1 r1 true W))
  (SO : ∀ W, Calls Tryz.prog 93 #[.agg #[.int .i64 5, .int .i64 a, .int .i64 b, .int .i64 c, .slice XA n xcap]] W fun e w' => e = .returned (.tuple #[.iface 125 (.agg #[.int .i64 a]), .bool true]) ∧ Below W.heap.size W w')
  (UN : ∀ W, Below w.heap.size w W → Calls Tryz.prog 179 #[(.agg #[.int .i64 a]), .int .i64 p, .agg #[.int .i64 v, .int .i64 h, .slice A rows.length cap]] W fun e w' => ∃ u, e = .returned (.agg #[.int .i64 k', .int .i64 a', .int .i64 b', .int .i64 c', u]) ∧ OwnInts w' W.heap.size u r' ∧ Below W.heap.size W w') :
  Calls Tryz.prog 64 #[.int .i64 p, .agg #[.int .i64 v, .int .i64 h, .slice A rows.length cap], .agg #[.int .i64 5, .int .i64 a, .int .i64 b, .int .i64 c, .slice XA n xcap]] w (Undone k' a' b' c' r' true w) := by
 have HMK := Lib.hid MK; have HSO := Lib.hid SO; have HUN := Lib.hid UN
 clear MK SO UN
 have mc := meth_putStep_undo (.int .i64 a)
 have nc := nil_putStep_undo (.int .i64 a)
 have hB3 := below_alloc3 w (.cells #[.int .i64 v, .int .i64 h, .slice A rows.length cap] 30) (.cells #[.int .i64 5, .int .i64 a, .int .i64 b, .int .i64 c, .slice XA n xcap] 34) (.cells #[.int .i64 0, .int .i64 0, .int .i64 0, .int .i64 0, .slice none 0 0] 34)
 obtain ⟨q0, q1, q2⟩ := heap_at3 w (.cells #[.int .i64 v, .int .i64 h, .slice A rows.length cap] 30) (.cells #[.int .i64 5, .int .i64 a, .int .i64 b, .int .i64 c, .slice XA n xcap] 34) (.cells #[.int .i64 0, .int .i64 0, .int .i64 0, .int .i64 0, .slice none 0 0] 34)
 have HB3 := Lib.hid hB3; have Q0 := Lib.hid q0; have Q1 := Lib.hid q1; have Q2 := Lib.hid q2
 clear hB3 q0 q1 q2
 go_enter Tryz.func64, Tryz.ntmps64
 go_upto_region 2 with (go_at_call 53; refine (HMK.out _ HB3.out).mono ?_; rintro e w1 ⟨v2, h2, A2, n2, c2, rfl, hye, _, hb1⟩; obtain ⟨rfl, rfl, _⟩ := hye rfl; clear hye)
 have hsz := hb1.size
 simp only [World.size_alloc] at hsz
 obtain ⟨W2, hW2⟩ : ∃ W2, W2 = w1.alloc (.cells #[.int .i64 v2, .int .i64 h2, .slice A2 n2 c2] 30) := ⟨_, rfl⟩
 rw [← hW2]
 have hb2 : Below w1.heap.size w1 W2 := by rw [hW2]; exact (Below.refl _ _).alloc (Nat.le_refl _) _
 have hb12 := below_ext hb1 hb2
 obtain ⟨⟨d0, d1, d2, d3, d4⟩, _⟩ := box5 hb12 Q1.out
 have H12 := Lib.hid hb12
 have HE := Lib.hid (HB3.out.trans (hb12.mono (B' := w.heap.size) (by simp <;> omega)))
 clear hb1 hb2 hb12 hW2
 go_upto_region 5 with (go_at_call 93; refine (HSO.out _).mono ?_; rintro e w3 ⟨rfl, hb3⟩; have H3 := Lib.hid (below_ext H12.out hb3); have HE3 := Lib.hid (below_ext HE.out hb3); clear hb3)
 obtain ⟨e0, e1, e2, _⟩ := box3 H3.out Q0.out
 clear d0 d1 d2 d3 d4
 go_wp2_with (go_at_call 179; refine (HUN.out _ HE3.out).mono ?_; rintro e w4 ⟨u, rfl, hu, hb4⟩; obtain ⟨A4, c4', rfl, _⟩ := hu.view; obtain ⟨⟨c0, c1, c2', c3, c4⟩, f0, f1, f2, f3, f4⟩ := box5 (below_ext H3.out hb4) Q2.out; have HU := Lib.hid hu; have H4 := Lib.hid (below_ext HE3.out hb4); clear hu hb4)
 have hs3 := H3.out.size
 simp only [World.size_alloc] at hs3
 refine bodyPost_ret (v := .tuple #[.agg #[.int .i64 k', .int .i64 a', .int .i64 b', .int .i64 c', .slice A4 r'.length c4'], .bool true]) (by simp [results, Tryz.results64, go_sem, *]) rfl (Undone.mk rfl ?_ ?_)
 ·exact (((((HU.out.setCell (by simp <;> omega) _).setCell (by simp <;> omega) _).setCell (by simp <;> omega) _).setCell (by simp <;> omega) _).setCell (by simp <;> omega) _).mono (by omega)
 ·exact below_set5 H4.out (by omega) _ _ _ _ _
theorem meth_solveStep_undo (y0 : Value) (y1 : Value) (w : World) : (method 277 126 (.agg #[y0, y1]) "loop.example/g01073/impl.undo").run Tryz.prog w = .ok (187, (.agg #[y0, y1])) w := by kernel_rfl
theorem nil_solveStep_undo (y0 : Value) (y1 : Value) (w : World) : (nilAhead 277 126 (.agg #[y0, y1]) "loop.example/g01073/impl.undo").run Tryz.prog w = .ok (some false) w := by kernel_rfl
set_option maxRecDepth 20000 in
set_option maxHeartbeats 4000000 in
theorem undoStep_solveStep (p v h a b c k' a' b' c' : Int) (r' : List Int) (A : Option Addr) (cap : Nat) (rows : List (List Int)) (w : World) (XA : Option Addr) (n xcap : Nat) (v1 h1 : Int) (r1 : List (List Int))
  (MK : ∀ W, Below w.heap.size w W → Calls Tryz.prog 53 #[.int .i64 p, .agg #[.int .i64 v, .int .i64 h, .slice A rows.length cap], .agg #[.int .i64 6, .int .i64 a, .int .i64 b, .int .i64 c, .slice XA n xcap]] W (Made v1 h1 r1 true W))
  (SO : ∀ W, Calls Tryz.prog 93 #[.agg #[.int .i64 6, .int .i64 a, .int .i64 b, .int .i64 c, .slice XA n xcap]] W fun e w' => e = .returned (.tuple #[.iface 126 (.agg #[.int .i64 a, .int .i64 b]), .bool true]) ∧ Below W.heap.size W w')
  (UN : ∀ W, Below w.heap.size w W → Calls Tryz.prog 187 #[(.agg #[.int .i64 a, .int .i64 b]), .int .i64 p, .agg #[.int .i64 v, .int .i64 h, .slice A rows.length cap]] W fun e w' => ∃ u, e = .returned (.agg #[.int .i64 k', .int .i64 a', .int .i64 b', .int .i64 c', u]) ∧ OwnInts w' W.heap.size u r' ∧ Below W.heap.size W w') :
  Calls Tryz.prog 64 #[.int .i64 p, .agg #[.int .i64 v, .int .i64 h, .slice A rows.length cap], .agg #[.int .i64 6, .int .i64 a, .int .i64 b, .int .i64 c, .slice XA n xcap]] w (Undone k' a' b' c' r' true w) := by
 have HMK := Lib.hid MK; have HSO := Lib.hid SO; have HUN := Lib.hid UN
 clear MK SO UN
 have mc := meth_solveStep_undo (.int .i64 a) (.int .i64 b)
 have nc := nil_solveStep_undo (.int .i64 a) (.int .i64 b)
 have hB3 := below_alloc3 w (.cells #[.int .i64 v, .int .i64 h, .slice A rows.length cap] 30) (.cells #[.int .i64 6, .int .i64 a, .int .i64 b, .int .i64 c, .slice XA n xcap] 34) (.cells #[.int .i64 0, .int .i64 0, .int .i64 0, .int .i64 0, .slice none 0 0] 34)
 obtain ⟨q0, q1, q2⟩ := heap_at3 w (.cells #[.int .i64 v, .int .i64 h, .slice A rows.length cap] 30) (.cells #[.int .i64 6, .int .i64 a, .int .i64 b, .int .i64 c, .slice XA n xcap] 34) (.cells #[.int .i64 0, .int .i64 0, .int .i64 0, .int .i64 0, .slice none 0 0] 34)
 have HB3 := Lib.hid hB3; have Q0 := Lib.hid q0; have Q1 := Lib.hid q1; have Q2 := Lib.hid q2
 clear hB3 q0 q1 q2
 go_enter Tryz.func64, Tryz.ntmps64
 go_upto_region 2 with (go_at_call 53; refine (HMK.out _ HB3.out).mono ?_; rintro e w1 ⟨v2, h2, A2, n2, c2, rfl, hye, _, hb1⟩; obtain ⟨rfl, rfl, _⟩ := hye rfl; clear hye)
 have hsz := hb1.size
 simp only [World.size_alloc] at hsz
 obtain ⟨W2, hW2⟩ : ∃ W2, W2 = w1.alloc (.cells #[.int .i64 v2, .int .i64 h2, .slice A2 n2 c2] 30) := ⟨_, rfl⟩
 rw [← hW2]
 have hb2 : Below w1.heap.size w1 W2 := by rw [hW2]; exact (Below.refl _ _).alloc (Nat.le_refl _) _
 have hb12 := below_ext hb1 hb2
 obtain ⟨⟨d0, d1, d2, d3, d4⟩, _⟩ := box5 hb12 Q1.out
 have H12 := Lib.hid hb12
 have HE := Lib.hid (HB3.out.trans (hb12.mono (B' := w.heap.size) (by simp <;> omega)))
 clear hb1 hb2 hb12 hW2
 go_upto_region 5 with (go_at_call 93; refine (HSO.out _).mono ?_; rintro e w3 ⟨rfl, hb3⟩; have H3 := Lib.hid (below_ext H12.out hb3); have HE3 := Lib.hid (below_ext HE.out hb3); clear hb3)
 obtain ⟨e0, e1, e2, _⟩ := box3 H3.out Q0.out
 clear d0 d1 d2 d3 d4
 go_wp2_with (go_at_call 187; refine (HUN.out _ HE3.out).mono ?_; rintro e w4 ⟨u, rfl, hu, hb4⟩; obtain ⟨A4, c4', rfl, _⟩ := hu.view; obtain ⟨⟨c0, c1, c2', c3, c4⟩, f0, f1, f2, f3, f4⟩ := box5 (below_ext H3.out hb4) Q2.out; have HU := Lib.hid hu; have H4 := Lib.hid (below_ext HE3.out hb4); clear hu hb4)
 have hs3 := H3.out.size
 simp only [World.size_alloc] at hs3
 refine bodyPost_ret (v := .tuple #[.agg #[.int .i64 k', .int .i64 a', .int .i64 b', .int .i64 c', .slice A4 r'.length c4'], .bool true]) (by simp [results, Tryz.results64, go_sem, *]) rfl (Undone.mk rfl ?_ ?_)
 ·exact (((((HU.out.setCell (by simp <;> omega) _).setCell (by simp <;> omega) _).setCell (by simp <;> omega) _).setCell (by simp <;> omega) _).setCell (by simp <;> omega) _).mono (by omega)
 ·exact below_set5 H4.out (by omega) _ _ _ _ _
theorem meth_bringStep_undo (y0 : Value) (y1 : Value) (y2 : Value) (w : World) : (method 277 128 (.agg #[y0, y1, y2]) "loop.example/g01073/impl.undo").run Tryz.prog w = .ok (194, (.agg #[y0, y1, y2])) w := by kernel_rfl
theorem nil_bringStep_undo (y0 : Value) (y1 : Value) (y2 : Value) (w : World) : (nilAhead 277 128 (.agg #[y0, y1, y2]) "loop.example/g01073/impl.undo").run Tryz.prog w = .ok (some false) w := by kernel_rfl
set_option maxRecDepth 20000 in
set_option maxHeartbeats 4000000 in
theorem undoStep_bringStep (p v h a b c k' a' b' c' : Int) (r' : List Int) (A : Option Addr) (cap : Nat) (rows : List (List Int)) (w : World) (XA : Option Addr) (n xcap : Nat) (v1 h1 : Int) (r1 : List (List Int))
  (MK : ∀ W, Below w.heap.size w W → Calls Tryz.prog 53 #[.int .i64 p, .agg #[.int .i64 v, .int .i64 h, .slice A rows.length cap], .agg #[.int .i64 7, .int .i64 a, .int .i64 b, .int .i64 c, .slice XA n xcap]] W (Made v1 h1 r1 true W))
  (SO : ∀ W, Calls Tryz.prog 93 #[.agg #[.int .i64 7, .int .i64 a, .int .i64 b, .int .i64 c, .slice XA n xcap]] W fun e w' => e = .returned (.tuple #[.iface 128 (.agg #[.int .i64 a, .int .i64 b, .slice XA n xcap]), .bool true]) ∧ Below W.heap.size W w')
  (UN : ∀ W, Below w.heap.size w W → Calls Tryz.prog 194 #[(.agg #[.int .i64 a, .int .i64 b, .slice XA n xcap]), .int .i64 p, .agg #[.int .i64 v, .int .i64 h, .slice A rows.length cap]] W fun e w' => ∃ u, e = .returned (.agg #[.int .i64 k', .int .i64 a', .int .i64 b', .int .i64 c', u]) ∧ OwnInts w' W.heap.size u r' ∧ Below W.heap.size W w') :
  Calls Tryz.prog 64 #[.int .i64 p, .agg #[.int .i64 v, .int .i64 h, .slice A rows.length cap], .agg #[.int .i64 7, .int .i64 a, .int .i64 b, .int .i64 c, .slice XA n xcap]] w (Undone k' a' b' c' r' true w) := by
 have HMK := Lib.hid MK; have HSO := Lib.hid SO; have HUN := Lib.hid UN
 clear MK SO UN
 have mc := meth_bringStep_undo (.int .i64 a) (.int .i64 b) (.slice XA n xcap)
 have nc := nil_bringStep_undo (.int .i64 a) (.int .i64 b) (.slice XA n xcap)
 have hB3 := below_alloc3 w (.cells #[.int .i64 v, .int .i64 h, .slice A rows.length cap] 30) (.cells #[.int .i64 7, .int .i64 a, .int .i64 b, .int .i64 c, .slice XA n xcap] 34) (.cells #[.int .i64 0, .int .i64 0, .int .i64 0, .int .i64 0, .slice none 0 0] 34)
 obtain ⟨q0, q1, q2⟩ := heap_at3 w (.cells #[.int .i64 v, .int .i64 h, .slice A rows.length cap] 30) (.cells #[.int .i64 7, .int .i64 a, .int .i64 b, .int .i64 c, .slice XA n xcap] 34) (.cells #[.int .i64 0, .int .i64 0, .int .i64 0, .int .i64 0, .slice none 0 0] 34)
 have HB3 := Lib.hid hB3; have Q0 := Lib.hid q0; have Q1 := Lib.hid q1; have Q2 := Lib.hid q2
 clear hB3 q0 q1 q2
 go_enter Tryz.func64, Tryz.ntmps64
 go_upto_region 2 with (go_at_call 53; refine (HMK.out _ HB3.out).mono ?_; rintro e w1 ⟨v2, h2, A2, n2, c2, rfl, hye, _, hb1⟩; obtain ⟨rfl, rfl, _⟩ := hye rfl; clear hye)
 have hsz := hb1.size
 simp only [World.size_alloc] at hsz
 obtain ⟨W2, hW2⟩ : ∃ W2, W2 = w1.alloc (.cells #[.int .i64 v2, .int .i64 h2, .slice A2 n2 c2] 30) := ⟨_, rfl⟩
 rw [← hW2]
 have hb2 : Below w1.heap.size w1 W2 := by rw [hW2]; exact (Below.refl _ _).alloc (Nat.le_refl _) _
 have hb12 := below_ext hb1 hb2
 obtain ⟨⟨d0, d1, d2, d3, d4⟩, _⟩ := box5 hb12 Q1.out
 have H12 := Lib.hid hb12
 have HE := Lib.hid (HB3.out.trans (hb12.mono (B' := w.heap.size) (by simp <;> omega)))
 clear hb1 hb2 hb12 hW2
 go_upto_region 5 with (go_at_call 93; refine (HSO.out _).mono ?_; rintro e w3 ⟨rfl, hb3⟩; have H3 := Lib.hid (below_ext H12.out hb3); have HE3 := Lib.hid (below_ext HE.out hb3); clear hb3)
 obtain ⟨e0, e1, e2, _⟩ := box3 H3.out Q0.out
 clear d0 d1 d2 d3 d4
 go_wp2_with (go_at_call 194; refine (HUN.out _ HE3.out).mono ?_; rintro e w4 ⟨u, rfl, hu, hb4⟩; obtain ⟨A4, c4', rfl, _⟩ := hu.view; obtain ⟨⟨c0, c1, c2', c3, c4⟩, f0, f1, f2, f3, f4⟩ := box5 (below_ext H3.out hb4) Q2.out; have HU := Lib.hid hu; have H4 := Lib.hid (below_ext HE3.out hb4); clear hu hb4)
 have hs3 := H3.out.size
 simp only [World.size_alloc] at hs3
 refine bodyPost_ret (v := .tuple #[.agg #[.int .i64 k', .int .i64 a', .int .i64 b', .int .i64 c', .slice A4 r'.length c4'], .bool true]) (by simp [results, Tryz.results64, go_sem, *]) rfl (Undone.mk rfl ?_ ?_)
 ·exact (((((HU.out.setCell (by simp <;> omega) _).setCell (by simp <;> omega) _).setCell (by simp <;> omega) _).setCell (by simp <;> omega) _).setCell (by simp <;> omega) _).mono (by omega)
 ·exact below_set5 H4.out (by omega) _ _ _ _ _
theorem meth_forgetStep_undo (y0 : Value) (w : World) : (method 277 130 (.agg #[y0]) "loop.example/g01073/impl.undo").run Tryz.prog w = .ok (203, (.agg #[y0])) w := by kernel_rfl
theorem nil_forgetStep_undo (y0 : Value) (w : World) : (nilAhead 277 130 (.agg #[y0]) "loop.example/g01073/impl.undo").run Tryz.prog w = .ok (some false) w := by kernel_rfl
set_option maxRecDepth 20000 in
set_option maxHeartbeats 4000000 in
theorem undoStep_forgetStep (p v h a b c k' a' b' c' : Int) (r' : List Int) (A : Option Addr) (cap : Nat) (rows : List (List Int)) (w : World) (XA : Option Addr) (n xcap : Nat) (v1 h1 : Int) (r1 : List (List Int))
  (MK : ∀ W, Below w.heap.size w W → Calls Tryz.prog 53 #[.int .i64 p, .agg #[.int .i64 v, .int .i64 h, .slice A rows.length cap], .agg #[.int .i64 8, .int .i64 a, .int .i64 b, .int .i64 c, .slice XA n xcap]] W (Made v1 h1 r1 true W))
  (SO : ∀ W, Calls Tryz.prog 93 #[.agg #[.int .i64 8, .int .i64 a, .int .i64 b, .int .i64 c, .slice XA n xcap]] W fun e w' => e = .returned (.tuple #[.iface 130 (.agg #[.int .i64 b]), .bool true]) ∧ Below W.heap.size W w')
  (UN : ∀ W, Below w.heap.size w W → Calls Tryz.prog 203 #[(.agg #[.int .i64 b]), .int .i64 p, .agg #[.int .i64 v, .int .i64 h, .slice A rows.length cap]] W fun e w' => ∃ u, e = .returned (.agg #[.int .i64 k', .int .i64 a', .int .i64 b', .int .i64 c', u]) ∧ OwnInts w' W.heap.size u r' ∧ Below W.heap.size W w') :
  Calls Tryz.prog 64 #[.int .i64 p, .agg #[.int .i64 v, .int .i64 h, .slice A rows.length cap], .agg #[.int .i64 8, .int .i64 a, .int .i64 b, .int .i64 c, .slice XA n xcap]] w (Undone k' a' b' c' r' true w) := by
 have HMK := Lib.hid MK; have HSO := Lib.hid SO; have HUN := Lib.hid UN
 clear MK SO UN
 have mc := meth_forgetStep_undo (.int .i64 b)
 have nc := nil_forgetStep_undo (.int .i64 b)
 have hB3 := below_alloc3 w (.cells #[.int .i64 v, .int .i64 h, .slice A rows.length cap] 30) (.cells #[.int .i64 8, .int .i64 a, .int .i64 b, .int .i64 c, .slice XA n xcap] 34) (.cells #[.int .i64 0, .int .i64 0, .int .i64 0, .int .i64 0, .slice none 0 0] 34)
 obtain ⟨q0, q1, q2⟩ := heap_at3 w (.cells #[.int .i64 v, .int .i64 h, .slice A rows.length cap] 30) (.cells #[.int .i64 8, .int .i64 a, .int .i64 b, .int .i64 c, .slice XA n xcap] 34) (.cells #[.int .i64 0, .int .i64 0, .int .i64 0, .int .i64 0, .slice none 0 0] 34)
 have HB3 := Lib.hid hB3; have Q0 := Lib.hid q0; have Q1 := Lib.hid q1; have Q2 := Lib.hid q2
 clear hB3 q0 q1 q2
 go_enter Tryz.func64, Tryz.ntmps64
 go_upto_region 2 with (go_at_call 53; refine (HMK.out _ HB3.out).mono ?_; rintro e w1 ⟨v2, h2, A2, n2, c2, rfl, hye, _, hb1⟩; obtain ⟨rfl, rfl, _⟩ := hye rfl; clear hye)
 have hsz := hb1.size
 simp only [World.size_alloc] at hsz
 obtain ⟨W2, hW2⟩ : ∃ W2, W2 = w1.alloc (.cells #[.int .i64 v2, .int .i64 h2, .slice A2 n2 c2] 30) := ⟨_, rfl⟩
 rw [← hW2]
 have hb2 : Below w1.heap.size w1 W2 := by rw [hW2]; exact (Below.refl _ _).alloc (Nat.le_refl _) _
 have hb12 := below_ext hb1 hb2
 obtain ⟨⟨d0, d1, d2, d3, d4⟩, _⟩ := box5 hb12 Q1.out
 have H12 := Lib.hid hb12
 have HE := Lib.hid (HB3.out.trans (hb12.mono (B' := w.heap.size) (by simp <;> omega)))
 clear hb1 hb2 hb12 hW2
 go_upto_region 5 with (go_at_call 93; refine (HSO.out _).mono ?_; rintro e w3 ⟨rfl, hb3⟩; have H3 := Lib.hid (below_ext H12.out hb3); have HE3 := Lib.hid (below_ext HE.out hb3); clear hb3)
 obtain ⟨e0, e1, e2, _⟩ := box3 H3.out Q0.out
 clear d0 d1 d2 d3 d4
 go_wp2_with (go_at_call 203; refine (HUN.out _ HE3.out).mono ?_; rintro e w4 ⟨u, rfl, hu, hb4⟩; obtain ⟨A4, c4', rfl, _⟩ := hu.view; obtain ⟨⟨c0, c1, c2', c3, c4⟩, f0, f1, f2, f3, f4⟩ := box5 (below_ext H3.out hb4) Q2.out; have HU := Lib.hid hu; have H4 := Lib.hid (below_ext HE3.out hb4); clear hu hb4)
 have hs3 := H3.out.size
 simp only [World.size_alloc] at hs3
 refine bodyPost_ret (v := .tuple #[.agg #[.int .i64 k', .int .i64 a', .int .i64 b', .int .i64 c', .slice A4 r'.length c4'], .bool true]) (by simp [results, Tryz.results64, go_sem, *]) rfl (Undone.mk rfl ?_ ?_)
 ·exact (((((HU.out.setCell (by simp <;> omega) _).setCell (by simp <;> omega) _).setCell (by simp <;> omega) _).setCell (by simp <;> omega) _).setCell (by simp <;> omega) _).mono (by omega)
 ·exact below_set5 H4.out (by omega) _ _ _ _ _
theorem meth_inventStep_undo (y0 : Value) (w : World) : (method 277 131 (.agg #[y0]) "loop.example/g01073/impl.undo").run Tryz.prog w = .ok (206, (.agg #[y0])) w := by kernel_rfl
theorem nil_inventStep_undo (y0 : Value) (w : World) : (nilAhead 277 131 (.agg #[y0]) "loop.example/g01073/impl.undo").run Tryz.prog w = .ok (some false) w := by kernel_rfl
set_option maxRecDepth 20000 in
set_option maxHeartbeats 4000000 in
theorem undoStep_inventStep (p v h a b c k' a' b' c' : Int) (r' : List Int) (A : Option Addr) (cap : Nat) (rows : List (List Int)) (w : World) (XA : Option Addr) (n xcap : Nat) (v1 h1 : Int) (r1 : List (List Int))
  (MK : ∀ W, Below w.heap.size w W → Calls Tryz.prog 53 #[.int .i64 p, .agg #[.int .i64 v, .int .i64 h, .slice A rows.length cap], .agg #[.int .i64 9, .int .i64 a, .int .i64 b, .int .i64 c, .slice XA n xcap]] W (Made v1 h1 r1 true W))
  (SO : ∀ W, Calls Tryz.prog 93 #[.agg #[.int .i64 9, .int .i64 a, .int .i64 b, .int .i64 c, .slice XA n xcap]] W fun e w' => e = .returned (.tuple #[.iface 131 (.agg #[.int .i64 b]), .bool true]) ∧ Below W.heap.size W w')
  (UN : ∀ W, Below w.heap.size w W → Calls Tryz.prog 206 #[(.agg #[.int .i64 b]), .int .i64 p, .agg #[.int .i64 v, .int .i64 h, .slice A rows.length cap]] W fun e w' => ∃ u, e = .returned (.agg #[.int .i64 k', .int .i64 a', .int .i64 b', .int .i64 c', u]) ∧ OwnInts w' W.heap.size u r' ∧ Below W.heap.size W w') :
  Calls Tryz.prog 64 #[.int .i64 p, .agg #[.int .i64 v, .int .i64 h, .slice A rows.length cap], .agg #[.int .i64 9, .int .i64 a, .int .i64 b, .int .i64 c, .slice XA n xcap]] w (Undone k' a' b' c' r' true w) := by
 have HMK := Lib.hid MK; have HSO := Lib.hid SO; have HUN := Lib.hid UN
 clear MK SO UN
 have mc := meth_inventStep_undo (.int .i64 b)
 have nc := nil_inventStep_undo (.int .i64 b)
 have hB3 := below_alloc3 w (.cells #[.int .i64 v, .int .i64 h, .slice A rows.length cap] 30) (.cells #[.int .i64 9, .int .i64 a, .int .i64 b, .int .i64 c, .slice XA n xcap] 34) (.cells #[.int .i64 0, .int .i64 0, .int .i64 0, .int .i64 0, .slice none 0 0] 34)
 obtain ⟨q0, q1, q2⟩ := heap_at3 w (.cells #[.int .i64 v, .int .i64 h, .slice A rows.length cap] 30) (.cells #[.int .i64 9, .int .i64 a, .int .i64 b, .int .i64 c, .slice XA n xcap] 34) (.cells #[.int .i64 0, .int .i64 0, .int .i64 0, .int .i64 0, .slice none 0 0] 34)
 have HB3 := Lib.hid hB3; have Q0 := Lib.hid q0; have Q1 := Lib.hid q1; have Q2 := Lib.hid q2
 clear hB3 q0 q1 q2
 go_enter Tryz.func64, Tryz.ntmps64
 go_upto_region 2 with (go_at_call 53; refine (HMK.out _ HB3.out).mono ?_; rintro e w1 ⟨v2, h2, A2, n2, c2, rfl, hye, _, hb1⟩; obtain ⟨rfl, rfl, _⟩ := hye rfl; clear hye)
 have hsz := hb1.size
 simp only [World.size_alloc] at hsz
 obtain ⟨W2, hW2⟩ : ∃ W2, W2 = w1.alloc (.cells #[.int .i64 v2, .int .i64 h2, .slice A2 n2 c2] 30) := ⟨_, rfl⟩
 rw [← hW2]
 have hb2 : Below w1.heap.size w1 W2 := by rw [hW2]; exact (Below.refl _ _).alloc (Nat.le_refl _) _
 have hb12 := below_ext hb1 hb2
 obtain ⟨⟨d0, d1, d2, d3, d4⟩, _⟩ := box5 hb12 Q1.out
 have H12 := Lib.hid hb12
 have HE := Lib.hid (HB3.out.trans (hb12.mono (B' := w.heap.size) (by simp <;> omega)))
 clear hb1 hb2 hb12 hW2
 go_upto_region 5 with (go_at_call 93; refine (HSO.out _).mono ?_; rintro e w3 ⟨rfl, hb3⟩; have H3 := Lib.hid (below_ext H12.out hb3); have HE3 := Lib.hid (below_ext HE.out hb3); clear hb3)
 obtain ⟨e0, e1, e2, _⟩ := box3 H3.out Q0.out
 clear d0 d1 d2 d3 d4
 go_wp2_with (go_at_call 206; refine (HUN.out _ HE3.out).mono ?_; rintro e w4 ⟨u, rfl, hu, hb4⟩; obtain ⟨A4, c4', rfl, _⟩ := hu.view; obtain ⟨⟨c0, c1, c2', c3, c4⟩, f0, f1, f2, f3, f4⟩ := box5 (below_ext H3.out hb4) Q2.out; have HU := Lib.hid hu; have H4 := Lib.hid (below_ext HE3.out hb4); clear hu hb4)
 have hs3 := H3.out.size
 simp only [World.size_alloc] at hs3
 refine bodyPost_ret (v := .tuple #[.agg #[.int .i64 k', .int .i64 a', .int .i64 b', .int .i64 c', .slice A4 r'.length c4'], .bool true]) (by simp [results, Tryz.results64, go_sem, *]) rfl (Undone.mk rfl ?_ ?_)
 ·exact (((((HU.out.setCell (by simp <;> omega) _).setCell (by simp <;> omega) _).setCell (by simp <;> omega) _).setCell (by simp <;> omega) _).setCell (by simp <;> omega) _).mono (by omega)
 ·exact below_set5 H4.out (by omega) _ _ _ _ _
theorem undoStep_any (p v h k a b c : Int) (A : Option Addr) (cap : Nat) (rows : List (List Int)) (w : World) (XA : Option Addr) (row : List Int) (xcap : Nat) (hP : Primes w) (hR : RowsAt w A rows) (hX : IntsAt w XA row) (hrow : row.length ≤ 1048576) (s : Sys p v h rows)
  (ok : Bool) (hok : stB p v h rows k a b c row = ok) :
  Calls Tryz.prog 64 #[.int .i64 p, .agg #[.int .i64 v, .int .i64 h, .slice A rows.length cap], .agg #[.int .i64 k, .int .i64 a, .int .i64 b, .int .i64 c, .slice XA row.length xcap]] w (Undone (uK ok k) (uA ok k a) (uB ok k b) (uC ok p k c) (uR ok rows k a) ok w) := by
 have MK : ∀ W, Below w.heap.size w W → Calls Tryz.prog 53 #[.int .i64 p, .agg #[.int .i64 v, .int .i64 h, .slice A rows.length cap], .agg #[.int .i64 k, .int .i64 a, .int .i64 b, .int .i64 c, .slice XA row.length xcap]] W (Made v (hNew k h) (rowsNew p v rows k a b c row (v + h).toNat) ok W) :=
  fun W hW => (mk_any p v h k a b c A cap rows W XA row xcap (hP.ext hW) (hR.ext hW) (hX.ext hW) hrow s).mono fun e w' m => m.same hok
 cases ok with
 | false => exact undoStep_no p v h k a b c A cap rows w XA row.length xcap _ _ _ MK
 | true =>
  have hem : emB k a b c row.length = true := by unfold stB at hok; rw [Bool.and_eq_true] at hok; exact hok.1
  have hcd := hok
  unfold stB at hcd
  rw [Bool.and_eq_true] at hcd
  have hst := hcd.2
  clear hcd
  by_cases h1 : k = 1
  ·subst h1
   rw [show emB 1 a b c row.length = ((c == 0) && ((row.length == 0))) by simp [emB]] at hem
   have SO := fun W => stepOf_swapStep a b c XA row.length xcap W hrow
   rw [hem] at SO
   simp [inB_iff] at hst
   rw [show uK true 1 = 1 by simp [uK], show uA true 1 a = a by simp [uA], show uB true 1 b = b by simp [uB], show uC true p 1 c = 0 by simp [uC], show uR true rows 1 a = [] by simp [uR]]
   exact undoStep_swapStep p v h a b c _ _ _ _ _ A cap rows w XA row.length xcap _ _ _ MK SO (fun W hW => und_swap a b p v h A cap rows W)
  by_cases h2 : k = 2
  ·subst h2
   rw [show emB 2 a b c row.length = ((b == 0) && ((row.length == 0))) by simp [emB]] at hem
   have SO := fun W => stepOf_scaleStep a b c XA row.length xcap W hrow
   rw [hem] at SO
   simp [inB_iff] at hst
   rw [show uK true 2 = 2 by simp [uK], show uA true 2 a = a by simp [uA], show uB true 2 b = 0 by simp [uB], show uC true p 2 c = (invP p c) by simp [uC], show uR true rows 2 a = [] by simp [uR]]
   exact undoStep_scaleStep p v h a b c _ _ _ _ _ A cap rows w XA row.length xcap _ _ _ MK SO (fun W hW => und_scale a c p v h A cap rows W s.f (by omega) (by omega))
  by_cases h3 : k = 3
  ·subst h3
   rw [show emB 3 a b c row.length = ((row.length == 0)) by simp [emB]] at hem
   have SO := fun W => stepOf_addStep a b c XA row.length xcap W hrow
   rw [hem] at SO
   simp [inB_iff] at hst
   rw [show uK true 3 = 3 by simp [uK], show uA true 3 a = a by simp [uA], show uB true 3 b = b by simp [uB], show uC true p 3 c = ((p - c) % p) by simp [uC], show uR true rows 3 a = [] by simp [uR]]
   exact undoStep_addStep p v h a b c _ _ _ _ _ A cap rows w XA row.length xcap _ _ _ MK SO (fun W hW => und_add a b c p v h A cap rows W s.p2 s.p97 (by omega) (by omega))
  by_cases h4 : k = 4
  ·subst h4
   rw [show emB 4 a b c row.length = ((b == 0) && ((c == 0) && ((row.length == 0)))) by simp [emB]] at hem
   have SO := fun W => stepOf_dropStep a b c XA row.length xcap W hrow
   rw [hem] at SO
   simp [inB_iff] at hst
   rw [show uK true 4 = 5 by simp [uK], show uA true 4 a = a by simp [uA], show uB true 4 b = 0 by simp [uB], show uC true p 4 c = 0 by simp [uC], show uR true rows 4 a = [] by simp [uR]]
   exact undoStep_dropStep p v h a b c _ _ _ _ _ A cap rows w XA row.length xcap _ _ _ MK SO (fun W hW => und_drop a p v h A cap rows W)
  by_cases h5 : k = 5
  ·subst h5
   rw [show emB 5 a b c row.length = ((b == 0) && ((c == 0) && ((row.length == 0)))) by simp [emB]] at hem
   have SO := fun W => stepOf_putStep a b c XA row.length xcap W hrow
   rw [hem] at SO
   simp [inB_iff] at hst
   rw [show uK true 5 = 4 by simp [uK], show uA true 5 a = a by simp [uA], show uB true 5 b = 0 by simp [uB], show uC true p 5 c = 0 by simp [uC], show uR true rows 5 a = [] by simp [uR]]
   exact undoStep_putStep p v h a b c _ _ _ _ _ A cap rows w XA row.length xcap _ _ _ MK SO (fun W hW => und_put a p v h A cap rows W)
  by_cases h6 : k = 6
  ·subst h6
   rw [show emB 6 a b c row.length = ((c == 0) && ((row.length == 0))) by simp [emB]] at hem
   have SO := fun W => stepOf_solveStep a b c XA row.length xcap W hrow
   rw [hem] at SO
   simp [inB_iff] at hst
   rw [show uK true 6 = 7 by simp [uK], show uA true 6 a = a by simp [uA], show uB true 6 b = b by simp [uB], show uC true p 6 c = 0 by simp [uC], show uR true rows 6 a = (rows.getD a.toNat []) by simp [uR]]
   exact undoStep_solveStep p v h a b c _ _ _ _ _ A cap rows w XA row.length xcap _ _ _ MK SO (fun W hW => und_solve a b p v h A cap rows W (hR.ext hW) (by omega) (by omega) (fun r hr => by have := s.len r hr; have := s.v24; have := s.h100; omega))
  by_cases h7 : k = 7
  ·subst h7
   rw [show emB 7 a b c row.length = ((c == 0)) by simp [emB]] at hem
   have SO := fun W => stepOf_bringStep a b c XA row.length xcap W hrow
   rw [hem] at SO
   simp [inB_iff] at hst
   rw [show uK true 7 = 6 by simp [uK], show uA true 7 a = a by simp [uA], show uB true 7 b = b by simp [uB], show uC true p 7 c = 0 by simp [uC], show uR true rows 7 a = [] by simp [uR]]
   exact undoStep_bringStep p v h a b c _ _ _ _ _ A cap rows w XA row.length xcap _ _ _ MK SO (fun W hW => und_bring a b p v h A cap rows W XA row.length xcap)
  by_cases h8 : k = 8
  ·subst h8
   rw [show emB 8 a b c row.length = ((a == 0) && ((c == 0) && ((row.length == 0)))) by simp [emB]] at hem
   have SO := fun W => stepOf_forgetStep a b c XA row.length xcap W hrow
   rw [hem] at SO
   simp [inB_iff] at hst
   rw [show uK true 8 = 9 by simp [uK], show uA true 8 a = 0 by simp [uA], show uB true 8 b = b by simp [uB], show uC true p 8 c = 0 by simp [uC], show uR true rows 8 a = [] by simp [uR]]
   exact undoStep_forgetStep p v h a b c _ _ _ _ _ A cap rows w XA row.length xcap _ _ _ MK SO (fun W hW => und_forget b p v h A cap rows W)
  by_cases h9 : k = 9
  ·subst h9
   rw [show emB 9 a b c row.length = ((a == 0) && ((c == 0) && ((row.length == 0)))) by simp [emB]] at hem
   have SO := fun W => stepOf_inventStep a b c XA row.length xcap W hrow
   rw [hem] at SO
   simp [inB_iff] at hst
   rw [show uK true 9 = 8 by simp [uK], show uA true 9 a = 0 by simp [uA], show uB true 9 b = b by simp [uB], show uC true p 9 c = 0 by simp [uC], show uR true rows 9 a = [] by simp [uR]]
   exact undoStep_inventStep p v h a b c _ _ _ _ _ A cap rows w XA row.length xcap _ _ _ MK SO (fun W hW => und_invent b p v h A cap rows W)
  simp [*] at hst
end Go.Proofs.YtjdbfokbgmbphaaGreatDoor
