/- Slices of steps that a call makes: what is owned; append of a step; store of a step; toStepS, eqStepS. Conditions: lengths of at most 2^20. | The law's copies of steps, and that steps which read alike are told to be equal. Conditions: lengths of at most 2^20. | What the laws keep in hand while arguments and results are marked; results are systems. heldSystem. Conditions: lengths of at most 2^20. -/
import Derived.Test.YtjdbfokbgmbphaaGreatDoorPk23
import Derived.Test.YtjdbfokbgmbphaaGreatDoorPk6
import Derived.Test.YtjdbfokbgmbphaaGreatDoorPk8
namespace Go.Proofs.YtjdbfokbgmbphaaGreatDoor
set_option linter.unusedVariables false
set_option linter.unusedSimpArgs false
open Go.RowKit
theorem infoStp : (Tryz.prog.info? 34).map (fun i => (i.zero, i.size, i.bytes)) = some (some (.agg #[.int .i64 0, .int .i64 0, .int .i64 0, .int .i64 0, .slice none 0 0]), 5, 56) := by kernel_rfl
/-- Rows of different types lie in different blocks. -/
theorem apart_ty {w : World} {B B' s s' n n' : Nat} {v v' : Value} {T T' : TypeId} {xs xs' : List Value} (hne : T ≠ T') (h : w.ownsRow B T s v n xs) (h' : w.ownsRow B' T' s' v' n' xs') : v.ownBlock = none ∨ v.ownBlock ≠ v'.ownBlock := by
 rcases h.2 with ⟨rfl, _⟩ | ⟨g, cap, cur, rfl, _, hg, _⟩
 ·exact Or.inl rfl
 ·right
  rcases h'.2 with ⟨rfl, _⟩ | ⟨g', cap', cur', rfl, _, hg', _⟩
  ·simp [Value.ownBlock]
  ·intro e
   simp only [Value.ownBlock, Option.some.injEq] at e
   subst e
   rw [hg] at hg'
   simp at hg'
   exact hne hg'.2
def stpCells (x : Stp) (u : Value) : List Value := [.int .i64 x.k, .int .i64 x.a, .int .i64 x.b, .int .i64 x.c, u]
def flatS : List Stp → List Value → List Value
 | x :: xs, u :: us => stpCells x u ++ flatS xs us
 | _, _ => []
theorem flatS_len : ∀ {xs : List Stp} {us : List Value}, us.length = xs.length → (flatS xs us).length = xs.length * 5
 | [], us, _ => by simp [flatS]
 | x :: xs, [], h => by simp at h
 | x :: xs, u :: us, h => by
  have := flatS_len (xs := xs) (us := us) (by simpa using h)
  simp [flatS, stpCells, this]; omega
theorem flatS_get {j : Nat} (hj : j < 5) : ∀ {xs : List Stp} {us : List Value} {k : Nat} {x : Stp} {u : Value}, xs[k]? = some x → us[k]? = some u → (flatS xs us)[k * 5 + j]? = (stpCells x u)[j]?
 | [], us, k, x, u, h, _ => by simp at h
 | x :: xs, [], k, _, _, _, h => by simp at h
 | x :: xs, u :: us, 0, y, t, h, h2 => by
  simp at h h2; subst h h2
  rw [flatS, List.getElem?_append_left (by simp [stpCells]; omega)]; simp
 | x :: xs, u :: us, k + 1, y, t, h, h2 => by
  simp only [List.getElem?_cons_succ] at h h2
  have := flatS_get hj h h2
  rw [flatS, List.getElem?_append_right (by simp [stpCells]; omega)]
  rw [← this]; congr 1; simp [stpCells]; omega
theorem flatS_snoc : ∀ {xs : List Stp} {us : List Value} (x : Stp) (u : Value), us.length = xs.length → flatS (xs ++ [x]) (us ++ [u]) = flatS xs us ++ stpCells x u
 | [], us, x, u, h => by
  have : us = [] := List.eq_nil_of_length_eq_zero (by simpa using h)
  subst this; simp [flatS]
 | x :: xs, [], _, _, h => by simp at h
 | x :: xs, u :: us, y, t, h => by
  have := flatS_snoc (xs := xs) (us := us) y t (by simpa using h)
  simp [flatS, this]
theorem flatS_set : ∀ {xs : List Stp} {us : List Value} {k : Nat} (x : Stp) (u : Value), us.length = xs.length → k < xs.length →
  (((((flatS xs us).set (k * 5) (.int .i64 x.k)).set (k * 5 + 1) (.int .i64 x.a)).set (k * 5 + 2) (.int .i64 x.b)).set (k * 5 + 3) (.int .i64 x.c)).set (k * 5 + 4) u = flatS (xs.set k x) (us.set k u)
 | [], us, k, x, u, _, hk => by simp at hk
 | x :: xs, [], _, _, _, h, _ => by simp at h
 | y :: xs, t :: us, 0, x, u, h, hk => by simp [flatS, stpCells]
 | y :: xs, t :: us, k + 1, x, u, h, hk => by
  have := flatS_set (xs := xs) (us := us) (k := k) x u (by simpa using h) (by simpa using hk)
  simp only [flatS, stpCells, List.cons_append, List.nil_append, List.set_cons_succ]
  rw [← this]
  have e : ∀ j, (k + 1) * 5 + j = (k * 5 + j) + 5 := fun j => by omega
  have e0 : (k + 1) * 5 = k * 5 + 5 := by omega
  simp only [e, e0, List.set_cons_succ]
structure OwnStepsW (w : World) (B : Nat) (v : Value) (xs : List Stp) (us : List Value) : Prop where
 len : us.length = xs.length
 outer : w.ownsRow B 34 5 v xs.length (flatS xs us)
 each : ∀ (k : Nat) (u : Value) (x : Stp), us[k]? = some u → xs[k]? = some x → OwnInts w B u x.row
 apart : ∀ (i j : Nat) (u u' : Value) (b : Nat), us[i]? = some u → us[j]? = some u' → u.ownBlock = some b → u'.ownBlock = some b → i = j
def OwnSteps (w : World) (B : Nat) (v : Value) (xs : List Stp) : Prop := ∃ us, OwnStepsW w B v xs us
section
variable {w w' : World} {B : Nat} {v : Value} {xs : List Stp} {us : List Value}
theorem OwnStepsW.get (h : OwnStepsW w B v xs us) {k : Nat} {x : Stp} (hx : xs[k]? = some x) : ∃ u, us[k]? = some u ∧ OwnInts w B u x.row := by
 have : k < us.length := by rw [h.len]; exact (List.getElem?_eq_some_iff.1 hx).1
 obtain ⟨u, hu⟩ := get_of_lt this
 exact ⟨u, hu, h.each k u x hu hx⟩
theorem OwnStepsW.getR (h : OwnStepsW w B v xs us) {k : Nat} {u : Value} (hu : us[k]? = some u) : ∃ x, xs[k]? = some x ∧ OwnInts w B u x.row := by
 have : k < xs.length := by rw [← h.len]; exact (List.getElem?_eq_some_iff.1 hu).1
 obtain ⟨x, hx⟩ := get_of_lt this
 exact ⟨x, hx, h.each k u x hu hx⟩
theorem OwnSteps.view (h : OwnSteps w B v xs) : ∃ A cap, v = .slice A xs.length cap ∧ StepsAt w A xs ∧ xs.length ≤ cap ∧ cap ≤ maxLen := by
 obtain ⟨us, h⟩ := h
 have hc := fun g => World.ownsRow.cells h.outer (g := g)
 rcases h.outer.2 with ⟨rfl, hn⟩ | ⟨g, cap, cur, rfl, hb, hg, hn, hm, hr⟩
 ·exact ⟨none, 0, by rw [hn], Or.inl (List.eq_nil_of_length_eq_zero hn), by omega, by decide⟩
 ·refine ⟨_, cap, rfl, Or.inr ⟨g, 0, rfl, fun k x hk => ?_⟩, hn, hm⟩
  obtain ⟨u, hu, ho⟩ := h.get hk
  obtain ⟨A', c', rfl, hi, _⟩ := ho.view
  have hj : ∀ (j : Nat) (y : Value), j < 5 → (stpCells x (.slice A' x.row.length c'))[j]? = some y → w.cell? ⟨g, 0 + k * 5 + j, none⟩ = some y := fun j y h5 hy => by
   have := hc g rfl (k * 5 + j) y (by rw [flatS_get h5 hk hu]; exact hy)
   rwa [addr_add, ← Nat.add_assoc] at this
  exact ⟨A', c', ⟨hj 0 _ (by decide) rfl, hj 1 _ (by decide) rfl, hj 2 _ (by decide) rfl, hj 3 _ (by decide) rfl, hj 4 _ (by decide) rfl⟩, hi⟩
theorem OwnStepsW.ext (h : OwnStepsW w B v xs us) (hb : Below w.heap.size w w') : OwnStepsW w' B v xs us :=
 ⟨h.len, World.ownsRow.kept h.outer (row := none) ⟨hb.os, hb.tape, hb.output, hb.size, fun k hk _ => hb.block k hk⟩ (by cases v.ownBlock <;> simp), fun k u r hu hr => (h.each k u r hu hr).ext hb, h.apart⟩
theorem OwnSteps.ext (h : OwnSteps w B v xs) (hb : Below w.heap.size w w') : OwnSteps w' B v xs := by
 obtain ⟨us, h⟩ := h
 exact ⟨us, h.ext hb⟩
theorem OwnStepsW.same (h : OwnStepsW w B v xs us) (hs : ∀ k, B ≤ k → w'.heap[k]? = w.heap[k]?) : OwnStepsW w' B v xs us :=
 ⟨h.len, ⟨h.outer.1, h.outer.2.imp id fun ⟨g, cap, cur, a1, a2, a3, a4⟩ => ⟨g, cap, cur, a1, a2, by rw [hs g a2]; exact a3, a4⟩⟩, fun k u r hu hr => (h.each k u r hu hr).same hs, h.apart⟩
theorem OwnSteps.same (h : OwnSteps w B v xs) (hs : ∀ k, B ≤ k → w'.heap[k]? = w.heap[k]?) : OwnSteps w' B v xs := by
 obtain ⟨us, h⟩ := h
 exact ⟨us, h.same hs⟩
theorem OwnStepsW.mono {B' : Nat} (h : OwnStepsW w B v xs us) (hB : B' ≤ B) : OwnStepsW w B' v xs us :=
 ⟨h.len, ⟨h.outer.1, h.outer.2.imp id fun ⟨g, cap, cur, a1, a2, a3⟩ => ⟨g, cap, cur, a1, by omega, a3⟩⟩, fun k u r hu hr => (h.each k u r hu hr).mono hB, h.apart⟩
theorem OwnSteps.mono {B' : Nat} (h : OwnSteps w B v xs) (hB : B' ≤ B) : OwnSteps w B' v xs := by
 obtain ⟨us, h⟩ := h
 exact ⟨us, h.mono hB⟩
theorem OwnSteps.setCell (h : OwnSteps w B v xs) {a : Addr} (ha : a.block < B) (u : Value) : OwnSteps (w.setCell a u) B v xs :=
 h.same fun k hk => Below.heap_setCell _ _ _ _ (by omega)
theorem OwnSteps.nil (w : World) (B : Nat) : OwnSteps w B (.slice none 0 0) [] :=
 ⟨[], rfl, World.ownsRow_nil _ _ _ _, fun k u r hu => by simp at hu, fun i j u u' b hu => by simp at hu⟩
theorem OwnSteps.lit (W : World) (B : Nat) (hB : B ≤ W.heap.size) : OwnSteps (W.alloc (.cells #[] 34)) B (.slice (some ⟨W.heap.size, 0, none⟩) 0 0) [] :=
 ⟨[], rfl, World.ownsRow_lit W #[] 0 hB (by decide) rfl, fun k u r hu => by simp at hu, fun i j u u' b hu => by simp at hu⟩
theorem OwnStepsW.lt (h : OwnStepsW w B v xs us) : ∀ k, v.ownBlock = some k → B ≤ k ∧ k < w.heap.size := World.ownsRow.lt h.outer
/-- One step more, behind the others. -/
theorem OwnStepsW.snoc {v' u : Value} {x : Stp} (h : OwnStepsW w B v xs us) (hu : OwnInts w B u x.row) (hd : ∀ b, u.ownBlock = some b → ∀ u' ∈ us, u'.ownBlock ≠ some b)
  (hown : w'.ownsRow B 34 5 v' (xs.length + 1) (flatS xs us ++ stpCells x u)) (hg : w.grownBy w' v.ownBlock) : OwnStepsW w' B v' (xs ++ [x]) (us ++ [u]) := by
 refine ⟨by simp [h.len], by rw [flatS_snoc _ _ h.len]; simpa using hown, ?_, ?_⟩
 ·intro k u' x' hu' hx'
  by_cases hk : k < us.length
  ·rw [List.getElem?_append_left hk] at hu'
   rw [List.getElem?_append_left (by rw [← h.len]; exact hk)] at hx'
   exact OwnInts.kept (h.each k u' x' hu' hx') hg (apart_ty (by decide) (h.each k u' x' hu' hx') h.outer)
  ·have hk' : k = us.length := by
    have := (List.getElem?_eq_some_iff.1 hu').1
    simp at this; omega
   subst hk'
   simp at hu'
   rw [h.len] at hx'
   simp at hx'
   subst hu' hx'
   exact OwnInts.kept hu hg (apart_ty (by decide) hu h.outer)
 ·intro i j u1 u2 b h1 h2 h3 h4
  have hi := (List.getElem?_eq_some_iff.1 h1).1
  have hj := (List.getElem?_eq_some_iff.1 h2).1
  simp only [List.length_append, List.length_cons, List.length_nil] at hi hj
  by_cases ci : i < us.length <;> by_cases cj : j < us.length
  ·rw [List.getElem?_append_left ci] at h1
   rw [List.getElem?_append_left cj] at h2
   exact h.apart i j u1 u2 b h1 h2 h3 h4
  ·rw [List.getElem?_append_left ci] at h1
   obtain rfl : j = us.length := by omega
   simp at h2; subst h2
   exact absurd h3 (hd b h4 u1 (List.mem_of_getElem? h1))
  ·rw [List.getElem?_append_left cj] at h2
   obtain rfl : i = us.length := by omega
   simp at h1; subst h1
   exact absurd h4 (hd b h3 u2 (List.mem_of_getElem? h2))
  ·omega
/-- A step stored over another one. -/
theorem OwnStepsW.put {g n cap k : Nat} {x : Stp} {u : Value} (hn : n = xs.length) (h : OwnStepsW w B (.slice (some ⟨g, 0, none⟩) n cap) xs us) (hk : k < n) (hu : OwnInts w B u x.row)
  (hd : ∀ b, u.ownBlock = some b → ∀ u' ∈ us, u'.ownBlock ≠ some b) :
  OwnStepsW (((((w.setCell ⟨g, k * 5, none⟩ (.int .i64 x.k)).setCell ⟨g, k * 5 + 1, none⟩ (.int .i64 x.a)).setCell ⟨g, k * 5 + 2, none⟩ (.int .i64 x.b)).setCell ⟨g, k * 5 + 3, none⟩ (.int .i64 x.c)).setCell ⟨g, k * 5 + 4, none⟩ u) B (.slice (some ⟨g, 0, none⟩) n cap) (xs.set k x) (us.set k u) ∧
   w.grownBy (((((w.setCell ⟨g, k * 5, none⟩ (.int .i64 x.k)).setCell ⟨g, k * 5 + 1, none⟩ (.int .i64 x.a)).setCell ⟨g, k * 5 + 2, none⟩ (.int .i64 x.b)).setCell ⟨g, k * 5 + 3, none⟩ (.int .i64 x.c)).setCell ⟨g, k * 5 + 4, none⟩ u) (some g) := by
 subst hn
 have s1 := h.outer.stored (k * 5) (.int .i64 x.k)
 have s2 := s1.1.stored (k * 5 + 1) (.int .i64 x.a)
 have s3 := s2.1.stored (k * 5 + 2) (.int .i64 x.b)
 have s4 := s3.1.stored (k * 5 + 3) (.int .i64 x.c)
 have s5 := s4.1.stored (k * 5 + 4) u
 have hg := grownBy_trans (grownBy_trans (grownBy_trans (grownBy_trans s1.2 s2.2) s3.2) s4.2) s5.2
 refine ⟨⟨by simp [h.len], ?_, ?_, ?_⟩, hg⟩
 ·have := s5.1
  rw [flatS_set x u h.len hk] at this
  simpa using this
 ·intro j u' x' hu' hx'
  by_cases hj : k = j
  ·subst hj
   rw [List.getElem?_set_self (by rw [h.len]; exact hk)] at hu'
   rw [List.getElem?_set_self hk] at hx'
   cases hu'; cases hx'
   exact OwnInts.kept hu hg (apart_ty (by decide) hu h.outer)
  ·rw [List.getElem?_set_ne hj] at hu' hx'
   exact OwnInts.kept (h.each j u' x' hu' hx') hg (apart_ty (by decide) (h.each j u' x' hu' hx') h.outer)
 ·intro i j u1 u2 b h1 h2 h3 h4
  by_cases ci : k = i <;> by_cases cj : k = j
  ·omega
  ·subst ci
   rw [List.getElem?_set_self (by rw [h.len]; exact hk)] at h1
   rw [List.getElem?_set_ne cj] at h2
   cases h1
   exact absurd h4 (hd b h3 u2 (List.mem_of_getElem? h2))
  ·subst cj
   rw [List.getElem?_set_self (by rw [h.len]; exact hk)] at h2
   rw [List.getElem?_set_ne ci] at h1
   cases h2
   exact absurd h3 (hd b h4 u1 (List.mem_of_getElem? h1))
  ·rw [List.getElem?_set_ne ci] at h1
   rw [List.getElem?_set_ne cj] at h2
   exact h.apart i j u1 u2 b h1 h2 h3 h4
/-- A slice that is younger than all others is none of them. -/
theorem OwnStepsW.fresh {u : Value} {r : List Int} (h : OwnStepsW w B v xs us) (hu : OwnInts w' w.heap.size u r) : ∀ b, u.ownBlock = some b → ∀ u' ∈ us, u'.ownBlock ≠ some b := fun b hb u' hu' e => by
 obtain ⟨k, hk⟩ := List.mem_iff_getElem?.1 hu'
 obtain ⟨x, _, ho⟩ := h.getR hk
 have h1 := (ho.lt b e).2
 have h2 := (hu.lt b hb).1
 omega
end
def stp0 : Stp := ⟨0, 0, 0, 0, []⟩
theorem made_steps (n : Nat) : (madeCells (Value.agg #[.int .i64 0, .int .i64 0, .int .i64 0, .int .i64 0, .slice none 0 0]).cells (n * 5)).toList = flatS (List.replicate n stp0) (List.replicate n (.slice none 0 0)) := by
 apply List.ext_getElem?
 intro i
 by_cases hi : i < n * 5
 ·have hk : i / 5 < n := by omega
  have := flatS_get (j := i % 5) (by omega) (xs := List.replicate n stp0) (us := List.replicate n (.slice none 0 0)) (k := i / 5) (x := stp0) (u := .slice none 0 0) (by simp [hk]) (by simp [hk])
  rw [show i / 5 * 5 + i % 5 = i by omega] at this
  rw [this]
  have hm : i % 5 = 0 ∨ i % 5 = 1 ∨ i % 5 = 2 ∨ i % 5 = 3 ∨ i % 5 = 4 := by omega
  rcases hm with h | h | h | h | h <;> simp [madeCells, Value.cells, hi, h, stpCells, stp0]
 ·rw [List.getElem?_eq_none (by simp [madeCells]; omega), List.getElem?_eq_none (by rw [flatS_len (by simp)]; simp; omega)]
theorem OwnStepsW.made {w : World} {B n : Nat} {v : Value} (h : w.ownsRow B 34 5 v n (madeCells (Value.agg #[.int .i64 0, .int .i64 0, .int .i64 0, .int .i64 0, .slice none 0 0]).cells (n * 5)).toList) : OwnStepsW w B v (List.replicate n stp0) (List.replicate n (.slice none 0 0)) := by
 rw [made_steps] at h
 refine ⟨by simp, by simpa using h, ?_, ?_⟩
 ·intro k u r hu hr
  rw [List.getElem?_replicate] at hu hr
  by_cases hk : k < n
  ·rw [if_pos hk] at hu hr
   cases hu; cases hr
   exact OwnInts.nil _ _
  ·rw [if_neg hk] at hu; cases hu
 ·intro i j u u' b hu _ hb
  rw [List.getElem?_replicate] at hu
  by_cases hk : i < n
  ·rw [if_pos hk] at hu; cases hu; cases hb
  ·rw [if_neg hk] at hu; cases hu
theorem OwnStepsW.cells {w : World} {B g n cap k : Nat} {xs : List Stp} {us : List Value} (hn : n = xs.length) (h : OwnStepsW w B (.slice (some ⟨g, 0, none⟩) n cap) xs us) (hk : k < n) :
  ∃ x u, xs[k]? = some x ∧ us[k]? = some u ∧ OwnInts w B u x.row ∧ (w.cell? ⟨g, k * 5, none⟩ = some (.int .i64 x.k) ∧ w.cell? ⟨g, k * 5 + 1, none⟩ = some (.int .i64 x.a) ∧ w.cell? ⟨g, k * 5 + 2, none⟩ = some (.int .i64 x.b) ∧ w.cell? ⟨g, k * 5 + 3, none⟩ = some (.int .i64 x.c) ∧ w.cell? ⟨g, k * 5 + 4, none⟩ = some u) ∧
   (w.frozen? ⟨g, k * 5, none⟩ = false ∧ w.frozen? ⟨g, k * 5 + 1, none⟩ = false ∧ w.frozen? ⟨g, k * 5 + 2, none⟩ = false ∧ w.frozen? ⟨g, k * 5 + 3, none⟩ = false ∧ w.frozen? ⟨g, k * 5 + 4, none⟩ = false) := by
 subst hn
 obtain ⟨x, hx⟩ := get_of_lt hk
 obtain ⟨u, hu, ho⟩ := h.get hx
 have hj : ∀ j, j < 5 → w.cell? ⟨g, k * 5 + j, none⟩ = (stpCells x u)[j]? := fun j h5 => by rw [h.outer.cellAt _ (by omega), flatS_get h5 hx hu]
 have hf := h.outer.frozenAt
 exact ⟨x, u, hx, hu, ho, ⟨hj 0 (by decide), hj 1 (by decide), hj 2 (by decide), hj 3 (by decide), hj 4 (by decide)⟩, ⟨hf _, hf _, hf _, hf _, hf _⟩⟩
set_option maxRecDepth 100000 in
set_option maxHeartbeats 2000000 in
theorem eqStepS_same (A A2 : Option Addr) (cap cap2 : Nat) (xs : List Stp) (w : World) (h : StepsAt w A xs) (h2 : StepsAt w A2 xs) (hm : xs.length ≤ 1048576) (hms : ∀ r ∈ xs, r.row.length ≤ 1048576) :
  Calls Tryz.prog 27 #[.slice A xs.length cap, .slice A2 xs.length cap2] w fun e w' => e = .returned (.bool true) ∧ Below w.heap.size w w' := by
 have hb : ((xs.length : Int) != (xs.length : Int)) = false := by simp
 go_enter Tryz.func27, Tryz.ntmps27
 go_wp2
 go_loopw [5] (fun i wr => ∃ k : Nat, k ≤ xs.length ∧ i = .int .i64 k ∧ Below w.heap.size w wr) (fun i _ => xs.length - (intOf i).toNat)
 case atStart => exact ⟨0, Nat.zero_le _, rfl, Below.refl _ _⟩
 case round =>
  obtain ⟨k, hk, rfl, hbel⟩ := hrel
  by_cases hlt : k < xs.length
  ·obtain ⟨x, hx⟩ := get_of_lt hlt
   obtain ⟨b, o, rfl, hc⟩ := (h.ext hbel).here hlt
   obtain ⟨b2, o2, rfl, hc2⟩ := (h2.ext hbel).here hlt
   obtain ⟨A3, cap3, ⟨c0, c1, c2, c3, c4⟩, hin⟩ := hc k x hx
   obtain ⟨A4, cap4, ⟨d0, d1, d2, d3, d4⟩, hin2⟩ := hc2 k x hx
   have e0 : ∀ W : Ext wr, W.W.cell? ⟨b, o + k * 5, none⟩ = some (.int .i64 x.k) := fun W => W.cell c0
   have e1 : ∀ W : Ext wr, W.W.cell? ⟨b, o + k * 5 + 1, none⟩ = some (.int .i64 x.a) := fun W => W.cell c1
   have e2 : ∀ W : Ext wr, W.W.cell? ⟨b, o + k * 5 + 2, none⟩ = some (.int .i64 x.b) := fun W => W.cell c2
   have e3 : ∀ W : Ext wr, W.W.cell? ⟨b, o + k * 5 + 3, none⟩ = some (.int .i64 x.c) := fun W => W.cell c3
   have e4 : ∀ W : Ext wr, W.W.cell? ⟨b, o + k * 5 + 4, none⟩ = some (.slice A3 x.row.length cap3) := fun W => W.cell c4
   have f0 : ∀ W : Ext wr, W.W.cell? ⟨b2, o2 + k * 5, none⟩ = some (.int .i64 x.k) := fun W => W.cell d0
   have f1 : ∀ W : Ext wr, W.W.cell? ⟨b2, o2 + k * 5 + 1, none⟩ = some (.int .i64 x.a) := fun W => W.cell d1
   have f2 : ∀ W : Ext wr, W.W.cell? ⟨b2, o2 + k * 5 + 2, none⟩ = some (.int .i64 x.b) := fun W => W.cell d2
   have f3 : ∀ W : Ext wr, W.W.cell? ⟨b2, o2 + k * 5 + 3, none⟩ = some (.int .i64 x.c) := fun W => W.cell d3
   have f4 : ∀ W : Ext wr, W.W.cell? ⟨b2, o2 + k * 5 + 4, none⟩ = some (.slice A4 x.row.length cap4) := fun W => W.cell d4
   have HX := Lib.hid (fun W : Ext wr => hin.ext W.ok); have HY := Lib.hid (fun W : Ext wr => hin2.ext W.ok)
   have M1 := Lib.hid (show x.row.length ≤ maxLen by have := hms x (List.mem_of_getElem? hx); unfold maxLen; omega)
   clear hx hc hc2 h h2 hms hin hin2 c0 c1 c2 c3 c4 d0 d1 d2 d3 d4
   go_wp2
   refine wp_region_ext_lit (by kernel_rfl) (by kernel_rfl) ?_
   repeat (go_big_quiet_step ((go_at_call 19; exact Calls.ext_of (eqStep_same _ _ _ _ _ _ _ _ _ _ (HX.out _) (HY.out _) M1.out))))
   refine wpQuiet_nil ?_
   rintro _ ⟨W, rfl⟩
   go_wp2
   go_roundw
   case rel => exact ⟨k+1, by omega, by go_num, below_ext hbel W.ok⟩
   case measure => simp [intOf]; omega
  ·go_wp2
   go_ret
   exact ⟨rfl, hbel⟩
/-- The result of the reference (box 8), the system (10), the step (11), the program's result (12): each in a box and in slices of blocks of its own. Results are systems. -/
structure UA (w2 : World) (E8 E10 E11 E12 : Array Value) (v8 v10 v11 v12 : Value) (R8 R10 : List (List Int)) (r11 : List Int) (R12 : List (List Int)) (l8 h8 b8 l10 h10 b10 l11 h11 b11 l12 h12 b12 : Nat) (W : World) : Prop where
 base : Below w2.heap.size w2 W
 ord : w2.heap.size ≤ b8 ∧ w2.heap.size ≤ l8 ∧ l8 ≤ h8 ∧ (b8 < l8 ∨ h8 ≤ b8) ∧ b8 < l10 ∧ h8 ≤ l10 ∧ l10 ≤ h10 ∧ h10 ≤ b10 ∧ b10 < l11 ∧ l11 ≤ h11 ∧ h11 ≤ b11 ∧ b11 < l12 ∧ l12 ≤ h12 ∧ h12 ≤ b12
 x8 : W.heap[b8]? = some (.cells E8 30 (0, 0))
 x10 : W.heap[b10]? = some (.cells E10 30 (0, 0))
 x11 : W.heap[b11]? = some (.cells E11 34 (0, 0))
 x12 : W.heap[b12]? = some (.cells E12 30 (0, 0))
 o8 : Has W l8 h8 v8 R8
 o10 : Has W l10 h10 v10 R10
 o11 : HasI W l11 h11 v11 r11
 o12 : Has W l12 h12 v12 R12
section
variable {w2 : World} {E8 E10 E11 E12 : Array Value} {v8 v10 v11 v12 : Value} {R8 R10 : List (List Int)} {r11 : List Int} {R12 : List (List Int)} {l8 h8 b8 l10 h10 b10 l11 h11 b11 l12 h12 b12 : Nat} {W W' : World}
theorem UA.ext (h : UA w2 E8 E10 E11 E12 v8 v10 v11 v12 R8 R10 r11 R12 l8 h8 b8 l10 h10 b10 l11 h11 b11 l12 h12 b12 W) (hb : Below W.heap.size W W') : UA w2 E8 E10 E11 E12 v8 v10 v11 v12 R8 R10 r11 R12 l8 h8 b8 l10 h10 b10 l11 h11 b11 l12 h12 b12 W' :=
 ⟨below_ext h.base hb, h.ord, box_at h.x8 hb, box_at h.x10 hb, box_at h.x11 hb, box_at h.x12 hb, h.o8.ext hb, h.o10.ext hb, h.o11.ext hb, h.o12.ext hb⟩
end
theorem below_set3' {B : Nat} {w w' : World} (h : Below B w w') {b : Nat} (hb : B ≤ b) (v0 v1 v2 : Value) : Below B w (((w'.setCell ⟨b, 0, none⟩ v0).setCell ⟨b, 1, none⟩ v1).setCell ⟨b, 2, none⟩ v2) := ((h.setCell hb _).setCell hb _).setCell hb _
theorem set3_block {w : World} {b : Nat} {z0 z1 z2 v0 v1 v2 : Value} {t : TypeId} (h : w.heap[b]? = some (.cells #[z0, z1, z2] t (0, 0))) :
  (((w.setCell ⟨b, 0, none⟩ v0).setCell ⟨b, 1, none⟩ v1).setCell ⟨b, 2, none⟩ v2).heap[b]? = some (.cells #[v0, v1, v2] t (0, 0)) := by
 have e1 := heap_setCell_same w b 0 _ _ v0 h
 have e2 := heap_setCell_same _ b 1 _ _ v1 e1
 have e3 := heap_setCell_same _ b 2 _ _ v2 e2
 simpa using e3
end Go.Proofs.YtjdbfokbgmbphaaGreatDoor
