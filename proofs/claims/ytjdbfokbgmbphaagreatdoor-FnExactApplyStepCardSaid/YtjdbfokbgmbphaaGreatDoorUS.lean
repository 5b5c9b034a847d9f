/- What the laws keep in hand while arguments and results are marked. No conditions. -/
import Derived.Test.YtjdbfokbgmbphaaGreatDoorMarkR
namespace Go.Proofs.YtjdbfokbgmbphaaGreatDoor
set_option linter.unusedVariables false
set_option linter.unusedSimpArgs false
open Go.RowKit

theorem len_max {n : Nat} (h : n ≤ 1048576) : n ≤ maxLen := by unfold maxLen; omega
theorem LeftRows.le {r : Int} {rows : List (List Int)} (h : LeftRows 1048576 r rows) : r ≤ 1048576 := by
  rcases h with h | h <;> omega
theorem ints_at {w : World} {B n c : Nat} {A : Option Addr} {xs : List Int} (h : OwnInts w B (.slice A n c) xs) : IntsAt w A xs := by
  obtain ⟨A', c', h1, h2, _⟩ := h.view
  simp only [Value.slice.injEq] at h1
  obtain ⟨rfl, _, _⟩ := h1
  exact h2
theorem rows_at {w : World} {B n c : Nat} {A : Option Addr} {rows : List (List Int)} (h : OwnRows w B (.slice A n c) rows) : RowsAt w A rows := by
  obtain ⟨A', c', h1, h2, _⟩ := h.view
  simp only [Value.slice.injEq] at h1
  obtain ⟨rfl, _, _⟩ := h1
  exact h2
theorem box_at {w w' : World} {b : Nat} {o : Obj} (h : w.heap[b]? = some o) (hb : Below w.heap.size w w') : w'.heap[b]? = some o := (hb.block b (Array.getElem?_eq_some_iff.1 h).1).trans h
theorem box_in {w w' : World} {b lo hi : Nat} {o : Obj} (h : w.heap[b]? = some o) (hw : Within lo hi w w') (hd : b < lo ∨ hi ≤ b) : w'.heap[b]? = some o := (hw.block b (Array.getElem?_eq_some_iff.1 h).1 hd).trans h
theorem cells_3 {w : World} {b : Nat} {x y z : Value} {t : TypeId} (h : w.heap[b]? = some (.cells #[x, y, z] t (0, 0))) : w.cell? ⟨b, 0, none⟩ = some x ∧ w.cell? ⟨b, 1, none⟩ = some y ∧ w.cell? ⟨b, 2, none⟩ = some z := by
  obtain ⟨h1, h2, h3, _⟩ := box3 (Below.refl _ _) h; exact ⟨h1, h2, h3⟩
theorem cells_5 {w : World} {b : Nat} {x y z u v : Value} {t : TypeId} (h : w.heap[b]? = some (.cells #[x, y, z, u, v] t (0, 0))) : w.cell? ⟨b, 0, none⟩ = some x ∧ w.cell? ⟨b, 1, none⟩ = some y ∧ w.cell? ⟨b, 2, none⟩ = some z ∧ w.cell? ⟨b, 3, none⟩ = some u ∧ w.cell? ⟨b, 4, none⟩ = some v := by
  obtain ⟨h1, _⟩ := box5 (Below.refl _ _) h; exact h1

/-- The result of the reference (box 8), the system (10), the step (11), the program's result (12): each in a box and in slices of blocks of its own. Results are steps. -/
structure US (w2 : World) (E8 E10 E11 E12 : Array Value) (v8 v10 v11 v12 : Value) (r8 : List Int) (R10 : List (List Int)) (r11 r12 : List Int) (l8 h8 b8 l10 h10 b10 l11 h11 b11 l12 h12 b12 : Nat) (W : World) : Prop where
  base : Below w2.heap.size w2 W
  ord : w2.heap.size ≤ b8 ∧ w2.heap.size ≤ l8 ∧ l8 ≤ h8 ∧ (b8 < l8 ∨ h8 ≤ b8) ∧ b8 < l10 ∧ h8 ≤ l10 ∧ l10 ≤ h10 ∧ h10 ≤ b10 ∧ b10 < l11 ∧ l11 ≤ h11 ∧ h11 ≤ b11 ∧ b11 < l12 ∧ l12 ≤ h12 ∧ h12 ≤ b12
  x8 : W.heap[b8]? = some (.cells E8 34 (0, 0))
  x10 : W.heap[b10]? = some (.cells E10 30 (0, 0))
  x11 : W.heap[b11]? = some (.cells E11 34 (0, 0))
  x12 : W.heap[b12]? = some (.cells E12 34 (0, 0))
  o8 : HasI W l8 h8 v8 r8
  o10 : Has W l10 h10 v10 R10
  o11 : HasI W l11 h11 v11 r11
  o12 : HasI W l12 h12 v12 r12
section
variable {w2 : World} {E8 E10 E11 E12 : Array Value} {v8 v10 v11 v12 : Value} {r8 : List Int} {R10 : List (List Int)} {r11 r12 : List Int} {l8 h8 b8 l10 h10 b10 l11 h11 b11 l12 h12 b12 : Nat} {W W' : World}
theorem US.ext (h : US w2 E8 E10 E11 E12 v8 v10 v11 v12 r8 R10 r11 r12 l8 h8 b8 l10 h10 b10 l11 h11 b11 l12 h12 b12 W) (hb : Below W.heap.size W W') : US w2 E8 E10 E11 E12 v8 v10 v11 v12 r8 R10 r11 r12 l8 h8 b8 l10 h10 b10 l11 h11 b11 l12 h12 b12 W' :=
  ⟨below_ext h.base hb, h.ord, box_at h.x8 hb, box_at h.x10 hb, box_at h.x11 hb, box_at h.x12 hb, h.o8.ext hb, h.o10.ext hb, h.o11.ext hb, h.o12.ext hb⟩
theorem US.mark10 (h : US w2 E8 E10 E11 E12 v8 v10 v11 v12 r8 R10 r11 r12 l8 h8 b8 l10 h10 b10 l11 h11 b11 l12 h12 b12 W) (hw : Within l10 h10 W W') {R : List (List Int)} (ho : Has W' l10 h10 v10 R) : US w2 E8 E10 E11 E12 v8 v10 v11 v12 r8 R r11 r12 l8 h8 b8 l10 h10 b10 l11 h11 b11 l12 h12 b12 W' := by
  obtain ⟨a1, a2, a3, a4, a5, a6, a7, a8, a9, a10, a11, a12, a13, a14⟩ := h.ord
  exact ⟨h.base.trans (hw.below (by omega) h.base.size), h.ord, box_in h.x8 hw (by omega), box_in h.x10 hw (by omega), box_in h.x11 hw (by omega), box_in h.x12 hw (by omega), h.o8.within hw (by omega), ho, h.o11.within hw (by omega), h.o12.within hw (by omega)⟩
theorem US.mark11 (h : US w2 E8 E10 E11 E12 v8 v10 v11 v12 r8 R10 r11 r12 l8 h8 b8 l10 h10 b10 l11 h11 b11 l12 h12 b12 W) (hw : Within l11 h11 W W') {r : List Int} (ho : HasI W' l11 h11 v11 r) : US w2 E8 E10 E11 E12 v8 v10 v11 v12 r8 R10 r r12 l8 h8 b8 l10 h10 b10 l11 h11 b11 l12 h12 b12 W' := by
  obtain ⟨a1, a2, a3, a4, a5, a6, a7, a8, a9, a10, a11, a12, a13, a14⟩ := h.ord
  exact ⟨h.base.trans (hw.below (by omega) h.base.size), h.ord, box_in h.x8 hw (by omega), box_in h.x10 hw (by omega), box_in h.x11 hw (by omega), box_in h.x12 hw (by omega), h.o8.within hw (by omega), h.o10.within hw (by omega), ho, h.o12.within hw (by omega)⟩
theorem US.mark12 (h : US w2 E8 E10 E11 E12 v8 v10 v11 v12 r8 R10 r11 r12 l8 h8 b8 l10 h10 b10 l11 h11 b11 l12 h12 b12 W) (hw : Within l12 h12 W W') {r : List Int} (ho : HasI W' l12 h12 v12 r) : US w2 E8 E10 E11 E12 v8 v10 v11 v12 r8 R10 r11 r l8 h8 b8 l10 h10 b10 l11 h11 b11 l12 h12 b12 W' := by
  obtain ⟨a1, a2, a3, a4, a5, a6, a7, a8, a9, a10, a11, a12, a13, a14⟩ := h.ord
  exact ⟨h.base.trans (hw.below (by omega) h.base.size), h.ord, box_in h.x8 hw (by omega), box_in h.x10 hw (by omega), box_in h.x11 hw (by omega), box_in h.x12 hw (by omega), h.o8.within hw (by omega), h.o10.within hw (by omega), h.o11.within hw (by omega), ho⟩
end

theorem below_set5 {B : Nat} {w w' : World} (h : Below B w w') {b : Nat} (hb : B ≤ b) (v0 v1 v2 v3 v4 : Value) :
    Below B w (((((w'.setCell ⟨b, 0, none⟩ v0).setCell ⟨b, 1, none⟩ v1).setCell ⟨b, 2, none⟩ v2).setCell ⟨b, 3, none⟩ v3).setCell ⟨b, 4, none⟩ v4) :=
  ((((h.setCell hb _).setCell hb _).setCell hb _).setCell hb _).setCell hb _
theorem set5_cell {w' : World} {b : Nat} {v0 v1 v2 v3 v4 : Value} {p : Addr} (h : p.block ≠ b) :
    (((((w'.setCell ⟨b, 0, none⟩ v0).setCell ⟨b, 1, none⟩ v1).setCell ⟨b, 2, none⟩ v2).setCell ⟨b, 3, none⟩ v3).setCell ⟨b, 4, none⟩ v4).cell? p = w'.cell? p := by
  rw [cell_set_ne h, cell_set_ne h, cell_set_ne h, cell_set_ne h, cell_set_ne h]
theorem set5_block {w : World} {b : Nat} {z0 z1 z2 z3 z4 v0 v1 v2 v3 v4 : Value} {t : TypeId} (h : w.heap[b]? = some (.cells #[z0, z1, z2, z3, z4] t (0, 0))) :
    (((((w.setCell ⟨b, 0, none⟩ v0).setCell ⟨b, 1, none⟩ v1).setCell ⟨b, 2, none⟩ v2).setCell ⟨b, 3, none⟩ v3).setCell ⟨b, 4, none⟩ v4).heap[b]? = some (.cells #[v0, v1, v2, v3, v4] t (0, 0)) := by
  have e1 := heap_setCell_same w b 0 _ _ v0 h
  have e2 := heap_setCell_same _ b 1 _ _ v1 e1
  have e3 := heap_setCell_same _ b 2 _ _ v2 e2
  have e4 := heap_setCell_same _ b 3 _ _ v3 e3
  have e5 := heap_setCell_same _ b 4 _ _ v4 e4
  simpa using e5

/-- A step that a call has answered, stored in a box: the box, and the slice, in blocks that are younger than the world w2. -/
def ResP (w2 : World) (k' a' b' c' : Int) (r' : List Int) (ok : Bool) (s8 s9 : Value) (W : World) : Prop :=
  ∃ (b8 l8 h8 : Nat) (A8 : Option Addr) (c8 : Nat), s8 = .pointer (some ⟨b8, 0, none⟩) ∧ s9 = .bool ok ∧ Below w2.heap.size w2 W ∧
    (w2.heap.size ≤ b8 ∧ w2.heap.size ≤ l8 ∧ l8 ≤ h8 ∧ (b8 < l8 ∨ h8 ≤ b8) ∧ b8 < W.heap.size ∧ h8 ≤ W.heap.size) ∧
    W.heap[b8]? = some (.cells #[.int .i64 k', .int .i64 a', .int .i64 b', .int .i64 c', .slice A8 r'.length c8] 34 (0, 0)) ∧ HasI W l8 h8 (.slice A8 r'.length c8) r'
theorem ResP.late {w2 w4 w5 : World} {k' a' b' c' : Int} {r' : List Int} {ok : Bool} {A8 : Option Addr} {c8 : Nat} (hb : Below w2.heap.size w2 w5) (hu : OwnInts w5 w4.heap.size (.slice A8 r'.length c8) r') (h4 : w2.heap.size ≤ w4.heap.size) (h5 : w4.heap.size ≤ w5.heap.size) :
    ResP w2 k' a' b' c' r' ok (.pointer (some ⟨w5.heap.size, 0, none⟩)) (.bool ok) (w5.alloc (.cells #[.int .i64 k', .int .i64 a', .int .i64 b', .int .i64 c', .slice A8 r'.length c8] 34)) :=
  ⟨_, w4.heap.size, w5.heap.size, A8, c8, rfl, rfl, hb.alloc hb.size _, ⟨hb.size, h4, h5, Or.inr (Nat.le_refl _), by simp, by simp⟩, heap_at _ _ rfl, (HasI.of hu).ext ((Below.refl _ _).alloc (Nat.le_refl _) _)⟩
theorem ResP.early {w2 w5 : World} {k' a' b' c' : Int} {r' : List Int} {ok : Bool} {A8 : Option Addr} {c8 b8 l8 : Nat} {z0 z1 z2 z3 z4 : Value} (hb : Below w2.heap.size w2 w5) (hu : OwnInts w5 l8 (.slice A8 r'.length c8) r') (hq : w5.heap[b8]? = some (.cells #[z0, z1, z2, z3, z4] 34 (0, 0)))
    (h8 : w2.heap.size ≤ b8 ∧ b8 + 1 ≤ l8) (h5 : l8 ≤ w5.heap.size) :
    ResP w2 k' a' b' c' r' ok (.pointer (some ⟨b8, 0, none⟩)) (.bool ok) (((((w5.setCell ⟨b8, 0, none⟩ (.int .i64 k')).setCell ⟨b8, 1, none⟩ (.int .i64 a')).setCell ⟨b8, 2, none⟩ (.int .i64 b')).setCell ⟨b8, 3, none⟩ (.int .i64 c')).setCell ⟨b8, 4, none⟩ (.slice A8 r'.length c8)) :=
  ⟨b8, l8, w5.heap.size, A8, c8, rfl, rfl, below_set5 hb h8.1 _ _ _ _ _, ⟨h8.1, by omega, h5, Or.inl (by omega), by have := (Array.getElem?_eq_some_iff.1 hq).1; simp; omega, by simp⟩, set5_block hq,
    ⟨((((hu.setCell (by simp <;> omega) _).setCell (by simp <;> omega) _).setCell (by simp <;> omega) _).setCell (by simp <;> omega) _).setCell (by simp <;> omega) _, (HasI.of hu).up⟩⟩
end Go.Proofs.YtjdbfokbgmbphaaGreatDoor
