/- impl.run: it makes steps up to the first one that is not possible. Conditions: the system is valid, there are at most 3000 steps, the table of primes is laid. | Slices of systems that a call makes, and appends of steps and of systems. Conditions: lengths of at most 2^20. -/
import Derived.Test.YtjdbfokbgmbphaaGreatDoorPk22
import Derived.Test.YtjdbfokbgmbphaaGreatDoorPk24
import Derived.Deep.AppendLies
namespace Go.Proofs.YtjdbfokbgmbphaaGreatDoor
set_option linter.unusedVariables false
set_option linter.unusedSimpArgs false
open Go.RowKit
/-- makeStep where the step is possible, and where it is not. -/
theorem mkS_yes (p : Int) (s : Sy) (x : Stp) (A : Option Addr) (cap : Nat) (w : World) (XA : Option Addr) (xcap : Nat) (hP : Primes w) (hR : RowsAt w A s.rows) (hX : IntsAt w XA x.row) (hrow : x.row.length ≤ 1048576) (hs : s.Ok p) (ho : okTo p s x = true) :
  Calls Tryz.prog 53 #[.int .i64 p, .agg #[.int .i64 s.v, .int .i64 s.h, .slice A s.rows.length cap], .agg #[.int .i64 x.k, .int .i64 x.a, .int .i64 x.b, .int .i64 x.c, .slice XA x.row.length xcap]] w fun e w' =>
   ∃ A2 c2, e = .returned (.tuple #[.agg #[.int .i64 (stepTo p s x).v, .int .i64 (stepTo p s x).h, .slice A2 (stepTo p s x).rows.length c2], .bool true]) ∧ OwnRows w' w.heap.size (.slice A2 (stepTo p s x).rows.length c2) (stepTo p s x).rows ∧ Below w.heap.size w w' := by
 have := mk_any p s.v s.h x.k x.a x.b x.c A cap s.rows w XA x.row xcap hP hR hX hrow hs
 refine this.mono fun e w' he => ?_
 obtain ⟨v2, h2, A2, n2, c2, e1, e2, e3, e4⟩ := he
 unfold okTo at ho
 rw [ho] at e1
 obtain ⟨a1, a2, a3⟩ := e2 ho
 obtain ⟨A3, c3, e5, _⟩ := a3.view
 simp only [Value.slice.injEq] at e5
 obtain ⟨rfl, rfl, rfl⟩ := e5
 subst a1 a2
 exact ⟨A2, c2, e1, a3, e4⟩
theorem infoSy : (Tryz.prog.info? 30).map (fun i => (i.zero, i.size, i.bytes)) = some (some (.agg #[.int .i64 0, .int .i64 0, .slice none 0 0]), 3, 40) := by kernel_rfl
theorem OwnRows.keptT {w w' : World} {B B' s n : Nat} {T : TypeId} {u v : Value} {rows : List (List Int)} {xs : List Value} (h : OwnRows w B u rows) (h1 : 25 ≠ T) (h2 : 3 ≠ T) (hv : w.ownsRow B' T s v n xs) (hg : w.grownBy w' v.ownBlock) : OwnRows w' B u rows := by
 obtain ⟨us, h⟩ := h
 exact ⟨us, World.ownsRow.kept h.outer hg (apart_ty h1 h.outer hv), fun k u' r hu hr => OwnInts.kept (h.each k u' r hu hr) hg (apart_ty h2 (h.each k u' r hu hr) hv), h.apart⟩
def syCells (x : Sy) (u : Value) : List Value := [.int .i64 x.v, .int .i64 x.h, u]
def flatY : List Sy → List Value → List Value
 | x :: xs, u :: us => syCells x u ++ flatY xs us
 | _, _ => []
theorem flatY_get {j : Nat} (hj : j < 3) : ∀ {xs : List Sy} {us : List Value} {k : Nat} {x : Sy} {u : Value}, xs[k]? = some x → us[k]? = some u → (flatY xs us)[k * 3 + j]? = (syCells x u)[j]?
 | [], us, k, x, u, h, _ => by simp at h
 | x :: xs, [], k, _, _, _, h => by simp at h
 | x :: xs, u :: us, 0, y, t, h, h2 => by
  simp at h h2; subst h h2
  rw [flatY, List.getElem?_append_left (by simp [syCells]; omega)]; simp
 | x :: xs, u :: us, k + 1, y, t, h, h2 => by
  simp only [List.getElem?_cons_succ] at h h2
  have := flatY_get hj h h2
  rw [flatY, List.getElem?_append_right (by simp [syCells]; omega)]
  rw [← this]; congr 1; simp [syCells]; omega
theorem flatY_snoc : ∀ {xs : List Sy} {us : List Value} (x : Sy) (u : Value), us.length = xs.length → flatY (xs ++ [x]) (us ++ [u]) = flatY xs us ++ syCells x u
 | [], us, x, u, h => by
  have : us = [] := List.eq_nil_of_length_eq_zero (by simpa using h)
  subst this; simp [flatY]
 | x :: xs, [], _, _, h => by simp at h
 | x :: xs, u :: us, y, t, h => by
  have := flatY_snoc (xs := xs) (us := us) y t (by simpa using h)
  simp [flatY, this]
structure OwnSyW (w : World) (B : Nat) (v : Value) (xs : List Sy) (us : List Value) : Prop where
 len : us.length = xs.length
 outer : w.ownsRow B 30 3 v xs.length (flatY xs us)
 each : ∀ (k : Nat) (u : Value) (x : Sy), us[k]? = some u → xs[k]? = some x → OwnRows w B u x.rows
def OwnSy (w : World) (B : Nat) (v : Value) (xs : List Sy) : Prop := ∃ us, OwnSyW w B v xs us
/-- The address A holds systems that read as xs. -/
def SysAt (w : World) (A : Option Addr) (xs : List Sy) : Prop :=
 xs = [] ∨ ∃ b o, A = some ⟨b, o, none⟩ ∧ ∀ (k : Nat) (x : Sy), xs[k]? = some x → ∃ A' cap, (w.cell? ⟨b, o + k * 3, none⟩ = some (.int .i64 x.v) ∧ w.cell? ⟨b, o + k * 3 + 1, none⟩ = some (.int .i64 x.h) ∧ w.cell? ⟨b, o + k * 3 + 2, none⟩ = some (.slice A' x.rows.length cap)) ∧ RowsAt w A' x.rows
section
variable {w w' : World} {B : Nat} {v : Value} {xs : List Sy} {us : List Value}
theorem OwnSyW.get (h : OwnSyW w B v xs us) {k : Nat} {x : Sy} (hx : xs[k]? = some x) : ∃ u, us[k]? = some u ∧ OwnRows w B u x.rows := by
 have : k < us.length := by rw [h.len]; exact (List.getElem?_eq_some_iff.1 hx).1
 obtain ⟨u, hu⟩ := get_of_lt this
 exact ⟨u, hu, h.each k u x hu hx⟩
theorem OwnSy.view (h : OwnSy w B v xs) : ∃ A cap, v = .slice A xs.length cap ∧ SysAt w A xs ∧ xs.length ≤ cap ∧ cap ≤ maxLen := by
 obtain ⟨us, h⟩ := h
 have hc := fun g => World.ownsRow.cells h.outer (g := g)
 rcases h.outer.2 with ⟨rfl, hn⟩ | ⟨g, cap, cur, rfl, hb, hg, hn, hm, hr⟩
 ·exact ⟨none, 0, by rw [hn], Or.inl (List.eq_nil_of_length_eq_zero hn), by omega, by decide⟩
 ·refine ⟨_, cap, rfl, Or.inr ⟨g, 0, rfl, fun k x hk => ?_⟩, hn, hm⟩
  obtain ⟨u, hu, ho⟩ := h.get hk
  obtain ⟨A', c', rfl, hi, _⟩ := ho.view
  have hj : ∀ (j : Nat) (y : Value), j < 3 → (syCells x (.slice A' x.rows.length c'))[j]? = some y → w.cell? ⟨g, 0 + k * 3 + j, none⟩ = some y := fun j y h5 hy => by
   have := hc g rfl (k * 3 + j) y (by rw [flatY_get h5 hk hu]; exact hy)
   rwa [addr_add, ← Nat.add_assoc] at this
  exact ⟨A', c', ⟨hj 0 _ (by decide) rfl, hj 1 _ (by decide) rfl, hj 2 _ (by decide) rfl⟩, hi⟩
theorem OwnSyW.ext (h : OwnSyW w B v xs us) (hb : Below w.heap.size w w') : OwnSyW w' B v xs us :=
 ⟨h.len, World.ownsRow.kept h.outer (row := none) ⟨hb.os, hb.tape, hb.output, hb.size, fun k hk _ => hb.block k hk⟩ (by cases v.ownBlock <;> simp), fun k u r hu hr => (h.each k u r hu hr).ext hb⟩
theorem OwnSy.ext (h : OwnSy w B v xs) (hb : Below w.heap.size w w') : OwnSy w' B v xs := by
 obtain ⟨us, h⟩ := h
 exact ⟨us, h.ext hb⟩
theorem OwnSyW.mono {B' : Nat} (h : OwnSyW w B v xs us) (hB : B' ≤ B) : OwnSyW w B' v xs us :=
 ⟨h.len, ⟨h.outer.1, h.outer.2.imp id fun ⟨g, cap, cur, a1, a2, a3⟩ => ⟨g, cap, cur, a1, by omega, a3⟩⟩, fun k u r hu hr => (h.each k u r hu hr).mono hB⟩
theorem OwnSy.mono {B' : Nat} (h : OwnSy w B v xs) (hB : B' ≤ B) : OwnSy w B' v xs := by
 obtain ⟨us, h⟩ := h
 exact ⟨us, h.mono hB⟩
theorem OwnSy.nil (w : World) (B : Nat) : OwnSy w B (.slice none 0 0) [] := ⟨[], rfl, World.ownsRow_nil _ _ _ _, fun k u r hu => by simp at hu⟩
theorem OwnSy.lit (W : World) (B : Nat) (hB : B ≤ W.heap.size) : OwnSy (W.alloc (.cells #[] 30)) B (.slice (some ⟨W.heap.size, 0, none⟩) 0 0) [] :=
 ⟨[], rfl, World.ownsRow_lit W #[] 0 hB (by decide) rfl, fun k u r hu => by simp at hu⟩
theorem OwnSy.one (W : World) (B : Nat) (x : Sy) (u : Value) (hB : B ≤ W.heap.size) (hu : OwnRows W B u x.rows) : OwnSy (W.alloc (.cells #[.int .i64 x.v, .int .i64 x.h, u] 30)) B (.slice (some ⟨W.heap.size, 0, none⟩) 1 1) [x] := by
 refine ⟨[u], rfl, ?_, fun k u' x' hu' hx' => ?_⟩
 ·exact ⟨rfl, Or.inr ⟨W.heap.size, 1, #[.int .i64 x.v, .int .i64 x.h, u], rfl, hB, heap_at _ _ rfl, Nat.le_refl _, by decide, rfl, rfl⟩⟩
 ·cases k with
  | zero => simp at hu' hx'; subst hu' hx'; exact hu.ext ((Below.refl _ _).alloc (Nat.le_refl _) _)
  | succ k => simp at hu'
theorem OwnSyW.snoc {v' u : Value} {x : Sy} (h : OwnSyW w B v xs us) (hu : OwnRows w B u x.rows)
  (hown : w'.ownsRow B 30 3 v' (xs.length + 1) (flatY xs us ++ syCells x u)) (hg : w.grownBy w' v.ownBlock) : OwnSyW w' B v' (xs ++ [x]) (us ++ [u]) := by
 refine ⟨by simp [h.len], by rw [flatY_snoc _ _ h.len]; simpa using hown, ?_⟩
 intro k u' x' hu' hx'
 by_cases hk : k < us.length
 ·rw [List.getElem?_append_left hk] at hu'
  rw [List.getElem?_append_left (by rw [← h.len]; exact hk)] at hx'
  exact OwnRows.keptT (h.each k u' x' hu' hx') (by decide) (by decide) h.outer hg
 ·have hk' : k = us.length := by
   have := (List.getElem?_eq_some_iff.1 hu').1
   simp at this; omega
  subst hk'
  simp at hu'
  rw [h.len] at hx'
  simp at hx'
  subst hu' hx'
  exact OwnRows.keptT hu (by decide) (by decide) h.outer hg
end
/-- 'append(out, x)' of one system that lies in a block just made, as one step of a region that draws. -/
theorem step_appendSy {ops : Array Oper} {o : Oper} {a : Act} {K : Act → World → Prop} {Q : Exit → Act → World → Prop} {E : Prop} (hgd : o.guard = none) (s x : Operand)
  (ho : o.op = .call { callee := .builtin .append, args := #[s, x], argTypes := #[72, 72] }) (B : Nat) (W : World) (v u : Value) (xs : List Sy) (y : Sy)
  (hown : OwnSy W B v xs) (hu : OwnRows W B u y.rows) (hlen : xs.length + 1 ≤ 1048576) (hB : B ≤ W.heap.size) (hs : a.eval s = v) (hx : a.eval x = .slice (some ⟨W.heap.size, 0, none⟩) 1 1)
  (h : ∀ g cap w', OwnSy w' B (.slice (some ⟨g, 0, none⟩) (xs.length + 1) cap) (xs ++ [y]) → W.grownBy w' v.ownBlock → Below B W w' → K (a.put o.dst (.slice (some ⟨g, 0, none⟩) (xs.length + 1) cap)) w') :
  if Region.wanted o (yielded ops a.tmps) = true then Oper.wp Tryz.prog o a (W.alloc (.cells #[.int .i64 y.v, .int .i64 y.h, u] 30)) K Q else E := by
 obtain ⟨i0, hi, hz0, hz1, hz2⟩ := info_parts infoSy
 obtain ⟨us, hW⟩ := hown
 obtain ⟨A', c', rfl, _⟩ := hu.view
 have ho1 := World.ownsRow.alloc hW.outer (.cells #[.int .i64 y.v, .int .i64 y.h, .slice A' y.rows.length c'] 30)
 refine step_append_lies _ hgd s x 72 ho B 30 i0 (.agg #[.int .i64 0, .int .i64 0, .slice none 0 0]) 3 40 Tryz.underlying72 hi hz0 hz1 hz2 rfl (by decide) v _ _ hs ho1 ⟨W.heap.size, 0, none⟩ 1 1 (syCells y (.slice A' y.rows.length c')) hx rfl ?_ ?_ (by decide) ?_ ?_ ?_ _ rfl ?_
 ·intro j u' hj
  match j, hj with
  | 0, hj => simp [syCells] at hj; subst hj; simp [Addr.add]
  | 1, hj => simp [syCells] at hj; subst hj; simp [Addr.add]
  | 2, hj => simp [syCells] at hj; subst hj; simp [Addr.add]
  | j + 3, hj => simp [syCells] at hj
 ·intro u' hu'; simp [syCells] at hu'; rcases hu' with rfl | rfl | rfl <;> rfl
 ·unfold maxLen; omega
 ·omega
 ·simp; omega
 ·intro g cap w' hown' hgrow _ _
  have hg : W.grownBy w' v.ownBlock := ⟨hgrow.os, hgrow.tape, hgrow.output, by have := hgrow.size; simp at this; omega, fun k hk hne => (hgrow.block k (by simp; omega) hne).trans (heap_alloc_old W _ hk)⟩
  exact h g cap w' ⟨_, hW.snoc hu hown' hg⟩ hg ((Below.refl _ _).grown hg hB fun k hk => (World.ownsRow.lt hW.outer k hk).1)
/-- The same of a step. -/
theorem step_appendStp {ops : Array Oper} {o : Oper} {a : Act} {K : Act → World → Prop} {Q : Exit → Act → World → Prop} {E : Prop} (hgd : o.guard = none) (s x : Operand)
  (ho : o.op = .call { callee := .builtin .append, args := #[s, x], argTypes := #[45, 45] }) (B : Nat) (W : World) (v u : Value) (xs : List Stp) (us : List Value) (y : Stp)
  (hW : OwnStepsW W B v xs us) (hu : OwnInts W B u y.row) (hd : ∀ b, u.ownBlock = some b → ∀ u' ∈ us, u'.ownBlock ≠ some b) (hlen : xs.length + 1 ≤ 1048576) (hB : B ≤ W.heap.size) (hs : a.eval s = v) (hx : a.eval x = .slice (some ⟨W.heap.size, 0, none⟩) 1 1)
  (h : ∀ g cap w', OwnStepsW w' B (.slice (some ⟨g, 0, none⟩) (xs.length + 1) cap) (xs ++ [y]) (us ++ [u]) → W.grownBy w' v.ownBlock → Below B W w' → K (a.put o.dst (.slice (some ⟨g, 0, none⟩) (xs.length + 1) cap)) w') :
  if Region.wanted o (yielded ops a.tmps) = true then Oper.wp Tryz.prog o a (W.alloc (.cells #[.int .i64 y.k, .int .i64 y.a, .int .i64 y.b, .int .i64 y.c, u] 34)) K Q else E := by
 obtain ⟨i0, hi, hz0, hz1, hz2⟩ := info_parts infoStp
 obtain ⟨A', c', rfl, _⟩ := hu.view
 have ho1 := World.ownsRow.alloc hW.outer (.cells #[.int .i64 y.k, .int .i64 y.a, .int .i64 y.b, .int .i64 y.c, .slice A' y.row.length c'] 34)
 refine step_append_lies _ hgd s x 45 ho B 34 i0 (.agg #[.int .i64 0, .int .i64 0, .int .i64 0, .int .i64 0, .slice none 0 0]) 5 56 Tryz.underlying45 hi hz0 hz1 hz2 rfl (by decide) v _ _ hs ho1 ⟨W.heap.size, 0, none⟩ 1 1 (stpCells y (.slice A' y.row.length c')) hx rfl ?_ ?_ (by decide) ?_ ?_ ?_ _ rfl ?_
 ·intro j u' hj
  match j, hj with
  | 0, hj => simp [stpCells] at hj; subst hj; simp [Addr.add]
  | 1, hj => simp [stpCells] at hj; subst hj; simp [Addr.add]
  | 2, hj => simp [stpCells] at hj; subst hj; simp [Addr.add]
  | 3, hj => simp [stpCells] at hj; subst hj; simp [Addr.add]
  | 4, hj => simp [stpCells] at hj; subst hj; simp [Addr.add]
  | j + 5, hj => simp [stpCells] at hj
 ·intro u' hu'; simp [stpCells] at hu'; rcases hu' with rfl | rfl | rfl | rfl | rfl <;> rfl
 ·unfold maxLen; omega
 ·omega
 ·simp; omega
 ·intro g cap w' hown' hgrow _ _
  have hg : W.grownBy w' v.ownBlock := ⟨hgrow.os, hgrow.tape, hgrow.output, by have := hgrow.size; simp at this; omega, fun k hk hne => (hgrow.block k (by simp; omega) hne).trans (heap_alloc_old W _ hk)⟩
  exact h g cap w' (hW.snoc hu hd hown' hg) hg ((Below.refl _ _).grown hg hB fun k hk => (World.ownsRow.lt hW.outer k hk).1)
/-- The same in a region of the text's own order. -/
theorem wp_appendStp {ops : Array Oper} {rest : List Oper} {o : Oper} {a : Act} {Q : Exit → Act → World → Prop} (hgd : o.guard = none) (s x : Operand)
  (ho : o.op = .call { callee := .builtin .append, args := #[s, x], argTypes := #[45, 45] }) (B : Nat) (W : World) (v u : Value) (xs : List Stp) (us : List Value) (y : Stp)
  (hW : OwnStepsW W B v xs us) (hu : OwnInts W B u y.row) (hd : ∀ b, u.ownBlock = some b → ∀ u' ∈ us, u'.ownBlock ≠ some b) (hlen : xs.length + 1 ≤ 1048576) (hB : B ≤ W.heap.size) (hs : a.eval s = v) (hx : a.eval x = .slice (some ⟨W.heap.size, 0, none⟩) 1 1)
  (h : ∀ g cap w', OwnStepsW w' B (.slice (some ⟨g, 0, none⟩) (xs.length + 1) cap) (xs ++ [y]) (us ++ [u]) → W.grownBy w' v.ownBlock → Below B W w' → wpList Tryz.prog ops Q rest (a.put o.dst (.slice (some ⟨g, 0, none⟩) (xs.length + 1) cap)) w') :
  wpList Tryz.prog ops Q (o :: rest) a (W.alloc (.cells #[.int .i64 y.k, .int .i64 y.a, .int .i64 y.b, .int .i64 y.c, u] 34)) := by
 obtain ⟨i0, hi, hz0, hz1, hz2⟩ := info_parts infoStp
 obtain ⟨A', c', rfl, _⟩ := hu.view
 have ho1 := World.ownsRow.alloc hW.outer (.cells #[.int .i64 y.k, .int .i64 y.a, .int .i64 y.b, .int .i64 y.c, .slice A' y.row.length c'] 34)
 refine wpList_append_lies _ hgd s x 45 ho B 34 i0 (.agg #[.int .i64 0, .int .i64 0, .int .i64 0, .int .i64 0, .slice none 0 0]) 5 56 Tryz.underlying45 hi hz0 hz1 hz2 rfl (by decide) v _ _ hs ho1 ⟨W.heap.size, 0, none⟩ 1 1 (stpCells y (.slice A' y.row.length c')) hx rfl ?_ ?_ (by decide) ?_ ?_ ?_ _ rfl ?_
 ·intro j u' hj
  match j, hj with
  | 0, hj => simp [stpCells] at hj; subst hj; simp [Addr.add]
  | 1, hj => simp [stpCells] at hj; subst hj; simp [Addr.add]
  | 2, hj => simp [stpCells] at hj; subst hj; simp [Addr.add]
  | 3, hj => simp [stpCells] at hj; subst hj; simp [Addr.add]
  | 4, hj => simp [stpCells] at hj; subst hj; simp [Addr.add]
  | j + 5, hj => simp [stpCells] at hj
 ·intro u' hu'; simp [stpCells] at hu'; rcases hu' with rfl | rfl | rfl | rfl | rfl <;> rfl
 ·unfold maxLen; omega
 ·omega
 ·simp; omega
 ·intro g cap w' hown' hgrow _ _
  have hg : W.grownBy w' v.ownBlock := ⟨hgrow.os, hgrow.tape, hgrow.output, by have := hgrow.size; simp at this; omega, fun k hk hne => (hgrow.block k (by simp; omega) hne).trans (heap_alloc_old W _ hk)⟩
  exact h g cap w' (hW.snoc hu hd hown' hg) hg ((Below.refl _ _).grown hg hB fun k hk => (World.ownsRow.lt hW.outer k hk).1)
end Go.Proofs.YtjdbfokbgmbphaaGreatDoor
