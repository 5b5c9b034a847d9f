/- Both ReduceSteps. Conditions: lengths of at most 2^20; the table of primes is laid. -/
import Derived.Test.YtjdbfokbgmbphaaGreatDoorPk36
namespace Go.Proofs.YtjdbfokbgmbphaaGreatDoor
set_option linter.unusedVariables false
set_option linter.unusedSimpArgs false
open Go.RowKit
/-- No step of a reduction has a line. -/
def NoRows (X : List Stp) : Prop := ∀ x ∈ X, x.row = []
theorem NoRows.push {p : Int} {q : Sy × List Stp} {x : Stp} (h : NoRows q.2) (hx : x.row = []) : NoRows (push p q x).2 := by
 intro y hy
 simp only [Go.Proofs.YtjdbfokbgmbphaaGreatDoor.push, List.mem_append, List.mem_singleton] at hy
 rcases hy with hy | rfl
 ·exact h y hy
 ·exact hx
theorem NoRows.clr {p : Int} {a c : Nat} {iv : Int} {q : Sy × List Stp} (h : NoRows q.2) : ∀ i, NoRows (clr p a c iv i q).2
 | 0 => h
 | i + 1 => by
  have ih := NoRows.clr (p := p) (a := a) (c := c) (iv := iv) h i
  unfold Go.Proofs.YtjdbfokbgmbphaaGreatDoor.clr
  split
  ·exact ih.push rfl
  ·exact ih
theorem NoRows.red1 {p : Int} : ∀ (b : Nat) {q : Sy × List Stp}, NoRows q.2 → NoRows (red1 p b q).2
 | 0, _, h => h
 | b + 1, q, h => by
  unfold Go.Proofs.YtjdbfokbgmbphaaGreatDoor.red1
  refine NoRows.red1 b ?_
  split
  ·exact h.push rfl
  ·exact (h.clr _).push rfl
theorem NoRows.red2 {p : Int} : ∀ (m c : Nat) {z : Nat × (Sy × List Stp)}, NoRows z.2.2 → NoRows (red2 p m c z).2.2
 | 0, _, _, h => h
 | m + 1, c, z, h => by
  unfold Go.Proofs.YtjdbfokbgmbphaaGreatDoor.red2
  refine NoRows.red2 m (c + 1) ?_
  split
  ·exact h
  ·have ha : NoRows (red2a p c z.1 z.2).2 := by
    unfold red2a
    split
    ·exact h.push rfl
    ·exact h
   have hb : NoRows (red2b p c z.1 (red2a p c z.1 z.2)).2 := by
    unfold red2b
    split
    ·exact ha.push rfl
    ·exact ha
   exact hb.clr _
theorem NoRows.red3 {p : Int} {r : Nat} : ∀ (n : Nat) {q : Sy × List Stp}, NoRows q.2 → NoRows (red3 p r n q).2
 | 0, _, h => h
 | i + 1, q, h => by
  unfold Go.Proofs.YtjdbfokbgmbphaaGreatDoor.red3
  split
  ·exact NoRows.red3 i (h.push rfl)
  ·exact h
theorem redQ_rows (p : Int) (s : Sy) : NoRows (redQ p s).2 := by
 unfold redQ
 exact NoRows.red3 _ (NoRows.red2 _ _ (NoRows.red1 _ (fun x hx => by cases hx)))
set_option maxRecDepth 100000 in
set_option maxHeartbeats 4000000 in
theorem reduceSteps_any (p : Int) (s : Sy) (A : Option Addr) (cap : Nat) (w : World) (hP : Primes w) (hR : RowsAt w A s.rows) (hok : s.Ok p) :
  Calls Tryz.prog 67 #[.int .i64 p, .agg #[.int .i64 s.v, .int .i64 s.h, .slice A s.rows.length cap]] w fun e w' => ∃ u, e = .returned u ∧ OwnSteps w' w.heap.size u (redQ p s).2 ∧ Below w.heap.size w w' := by
 obtain ⟨w1, hw1⟩ : ∃ w1, w1 = w.alloc (.cells #[.int .i64 s.v, .int .i64 s.h, .slice A s.rows.length cap] 30) := ⟨_, rfl⟩
 have hb1 : Below w.heap.size w w1 := by rw [hw1]; exact (Below.refl _ _).alloc (Nat.le_refl _) _
 have hz1 : w1.heap.size = w.heap.size + 1 := by rw [hw1]; simp
 obtain ⟨w0, hw0⟩ : ∃ w0, w0 = w1.alloc (.cells #[.int .i64 p, .int .i64 s.v, .int .i64 s.h, .slice A s.rows.length cap, .slice none 0 0] 109) := ⟨_, rfl⟩
 have hb0 : Below w1.heap.size w1 w0 := by rw [hw0]; exact (Below.refl _ _).alloc (Nat.le_refl _) _
 have hqb : w0.heap[w.heap.size + 1]? = some (.cells #[.int .i64 p, .int .i64 s.v, .int .i64 s.h, .slice A s.rows.length cap, .slice none 0 0] 109 (0, 0)) := by rw [hw0]; exact heap_at _ _ hz1.symm
 have HH := (show RedAt 109 w1 w0 (w.heap.size + 1) p s [] from ⟨by omega, hb0, A, cap, none, 0, [], hqb, Or.inl (hR.ext hb1), by
  obtain ⟨us, h1⟩ := OwnSteps.nil w0 (w.heap.size + 1 + 1)
  have : us = [] := List.eq_nil_of_length_eq_zero (by have := h1.len; simpa using this)
  subst this
  exact h1⟩)
 have HRD := Lib.hid (implReduce w1 w0 (w.heap.size + 1) p s (hP.ext hb1) HH hok)
 have HB0 := Lib.hid (below_ext hb1 hb0)
 have HW0 := Lib.hid hw0; have HW1 := Lib.hid hw1
 clear hb1 hz1 hb0 hqb HH hP hR hok hw0 hw1
 go_enter Tryz.func67, Tryz.ntmps67
 go_upto_region 2 with (fail)
 rw [← HW1.out, ← HW0.out]
 go_wp2_with (go_at_call 101; refine HRD.out.mono ?_; rintro e w2 ⟨rfl, hr, hb⟩; have HR := Lib.hid hr; have HB := Lib.hid hb; obtain ⟨A8, c8, y4, ho8⟩ : ∃ A8 c8, w2.cell? ⟨w.heap.size + 1, 4, none⟩ = some (.slice A8 (redQ p s).2.length c8) ∧ OwnSteps w2 (w.heap.size + 1 + 1) (.slice A8 (redQ p s).2.length c8) (redQ p s).2 := (by obtain ⟨_, _, A, c, A8, c8, us, hq, _, ho⟩ := hr; obtain ⟨_, _, _, _, y4⟩ := cells_5 hq; exact ⟨A8, c8, y4, us, ho⟩); have HO8 := Lib.hid ho8; clear hr hb ho8)
 go_ret
 exact ⟨_, rfl, HO8.out.mono (by omega), HB0.out.trans (HB.out.mono (by omega))⟩
end Go.Proofs.YtjdbfokbgmbphaaGreatDoor
