/- What a call may change: blocks of a range alone. Slices of the call's own whose blocks lie in a range. No conditions. -/
import Derived.Test.YtjdbfokbgmbphaaGreatDoorUpd
namespace Go.Proofs.YtjdbfokbgmbphaaGreatDoor
set_option linter.unusedVariables false
set_option linter.unusedSimpArgs false
open Go.RowKit

/-- Of what was there, at most the blocks from lo to hi have turned. -/
structure Within (lo hi : Nat) (w w' : World) : Prop where
  os : w'.os = w.os
  tape : w'.tape = w.tape
  output : w'.output = w.output
  size : w.heap.size ≤ w'.heap.size
  block : ∀ k, k < w.heap.size → (k < lo ∨ hi ≤ k) → w'.heap[k]? = w.heap[k]?

theorem Within.refl (lo hi : Nat) (w : World) : Within lo hi w w := ⟨rfl, rfl, rfl, Nat.le_refl _, fun _ _ _ => rfl⟩
theorem Within.trans {lo hi : Nat} {a b c : World} (h : Within lo hi a b) (k : Within lo hi b c) : Within lo hi a c :=
  ⟨k.os.trans h.os, k.tape.trans h.tape, k.output.trans h.output, Nat.le_trans h.size k.size, fun i h1 h2 => (k.block i (Nat.lt_of_lt_of_le h1 h.size) h2).trans (h.block i h1 h2)⟩
theorem Within.of_below {lo hi : Nat} {w w' : World} (h : Below w.heap.size w w') : Within lo hi w w' := ⟨h.os, h.tape, h.output, h.size, fun k h1 _ => h.block k h1⟩
theorem Within.of_grown {lo hi b : Nat} {w w' : World} (h : w.grownBy w' (some b)) (h1 : lo ≤ b) (h2 : b < hi) : Within lo hi w w' :=
  ⟨h.os, h.tape, h.output, h.size, fun k hk hr => h.block k hk (fun e => by cases e; omega)⟩
theorem Within.mono {lo hi lo' hi' : Nat} {w w' : World} (h : Within lo hi w w') (h1 : lo' ≤ lo) (h2 : hi ≤ hi') : Within lo' hi' w w' :=
  ⟨h.os, h.tape, h.output, h.size, fun k hk hr => h.block k hk (by omega)⟩
theorem Within.below {lo hi B : Nat} {w w' : World} (h : Within lo hi w w') (hB : B ≤ lo) (hw : B ≤ w.heap.size) : Below B w w' :=
  ⟨h.os, h.tape, h.output, h.size, fun k hk => h.block k (by omega) (by omega)⟩
theorem Within.cell {lo hi : Nat} {w w' : World} (h : Within lo hi w w') {p : Addr} {v : Value} (hc : w.cell? p = some v) (hp : p.block < lo ∨ hi ≤ p.block) : w'.cell? p = some v := by
  rw [← hc]; exact World.cell?_of_block (w := w) (h.block _ (World.block_lt_of_cell? w p hc) hp)

/-- The integers xs in a slice of the call's own, its block from lo to hi. -/
structure HasI (w : World) (lo hi : Nat) (v : Value) (xs : List Int) : Prop where
  own : OwnInts w lo v xs
  up : ∀ b, v.ownBlock = some b → b < hi
/-- Rows in slices of the call's own, their blocks from lo to hi. -/
structure HasW (w : World) (lo hi : Nat) (v : Value) (rows : List (List Int)) (us : List Value) : Prop where
  own : OwnRowsW w lo v rows us
  up : ∀ b, v.ownBlock = some b → b < hi
  ups : ∀ u ∈ us, ∀ b, u.ownBlock = some b → b < hi
def Has (w : World) (lo hi : Nat) (v : Value) (rows : List (List Int)) : Prop := ∃ us, HasW w lo hi v rows us

theorem HasI.of {w : World} {B : Nat} {v : Value} {xs : List Int} (h : OwnInts w B v xs) : HasI w B w.heap.size v xs := ⟨h, fun b hb => (h.lt b hb).2⟩
theorem Has.of {w : World} {B : Nat} {v : Value} {rows : List (List Int)} (h : OwnRows w B v rows) : Has w B w.heap.size v rows := by
  obtain ⟨us, h⟩ := h
  refine ⟨us, h, fun b hb => (World.ownsRow.lt h.outer b hb).2, fun u hu b hb => ?_⟩
  obtain ⟨k, hk⟩ := List.mem_iff_getElem?.1 hu
  obtain ⟨r, _, ho⟩ := h.getR hk
  exact (ho.lt b hb).2
theorem HasI.mono {w : World} {lo hi lo' hi' : Nat} {v : Value} {xs : List Int} (h : HasI w lo hi v xs) (h1 : lo' ≤ lo) (h2 : hi ≤ hi') : HasI w lo' hi' v xs :=
  ⟨h.own.mono h1, fun b hb => by have := h.up b hb; omega⟩
theorem OwnInts.within {w w' : World} {B lo hi hv : Nat} {v : Value} {xs : List Int} (h : OwnInts w B v xs) (up : ∀ b, v.ownBlock = some b → b < hv) (hw : Within lo hi w w') (hd : hv ≤ lo ∨ hi ≤ B) : OwnInts w' B v xs := by
  refine ⟨h.1, h.2.imp id fun ⟨g, cap, cur, a1, a2, a3, a4⟩ => ⟨g, cap, cur, a1, a2, ?_, a4⟩⟩
  have := up g (by rw [a1]; rfl)
  exact (hw.block g (Array.getElem?_eq_some_iff.1 a3).1 (by omega)).trans a3
theorem HasI.within {w w' : World} {lo hi lo' hi' : Nat} {v : Value} {xs : List Int} (h : HasI w lo hi v xs) (hw : Within lo' hi' w w') (hd : hi ≤ lo' ∨ hi' ≤ lo) : HasI w' lo hi v xs :=
  ⟨h.own.within h.up hw hd, h.up⟩
theorem HasW.within {w w' : World} {lo hi lo' hi' : Nat} {v : Value} {rows : List (List Int)} {us : List Value} (h : HasW w lo hi v rows us) (hw : Within lo' hi' w w') (hd : hi ≤ lo' ∨ hi' ≤ lo) : HasW w' lo hi v rows us := by
  refine ⟨⟨⟨h.own.outer.1, h.own.outer.2.imp id fun ⟨g, cap, cur, a1, a2, a3, a4⟩ => ⟨g, cap, cur, a1, a2, (hw.block g (Array.getElem?_eq_some_iff.1 a3).1 (by have := h.up g (by rw [a1]; rfl); omega)).trans a3, a4⟩⟩, fun k u r hu hr => ?_, h.own.apart⟩, h.up, h.ups⟩
  exact (h.own.each k u r hu hr).within (h.ups u (List.mem_of_getElem? hu)) hw hd
theorem Has.within {w w' : World} {lo hi lo' hi' : Nat} {v : Value} {rows : List (List Int)} (h : Has w lo hi v rows) (hw : Within lo' hi' w w') (hd : hi ≤ lo' ∨ hi' ≤ lo) : Has w' lo hi v rows := by
  obtain ⟨us, h⟩ := h; exact ⟨us, h.within hw hd⟩
theorem HasI.ext {w w' : World} {lo hi : Nat} {v : Value} {xs : List Int} (h : HasI w lo hi v xs) (hb : Below w.heap.size w w') : HasI w' lo hi v xs := ⟨h.own.ext hb, h.up⟩
theorem HasW.ext {w w' : World} {lo hi : Nat} {v : Value} {rows : List (List Int)} {us : List Value} (h : HasW w lo hi v rows us) (hb : Below w.heap.size w w') : HasW w' lo hi v rows us := ⟨h.own.ext hb, h.up, h.ups⟩
theorem Has.ext {w w' : World} {lo hi : Nat} {v : Value} {rows : List (List Int)} (h : Has w lo hi v rows) (hb : Below w.heap.size w w') : Has w' lo hi v rows := by
  obtain ⟨us, h⟩ := h; exact ⟨us, h.ext hb⟩
theorem Has.own {w : World} {lo hi : Nat} {v : Value} {rows : List (List Int)} (h : Has w lo hi v rows) : OwnRows w lo v rows := by
  obtain ⟨us, h⟩ := h; exact ⟨us, h.own⟩
theorem Has.nil (w : World) (lo hi : Nat) : Has w lo hi (.slice none 0 0) [] :=
  ⟨[], ⟨World.ownsRow_nil _ _ _ _, fun k u r hu => by simp at hu, fun i j u u' b hu => by simp at hu⟩, fun b hb => by simp [Value.ownBlock] at hb, fun u hu => by cases hu⟩
end Go.Proofs.YtjdbfokbgmbphaaGreatDoor
