/- Slices of slices of integers that a call makes: what is owned; append of a row; store of a row; clones and toIntSS. Conditions: lengths of at most 2^30. -/
import Derived.Test.YtjdbfokbgmbphaaGreatDoorOwn2
namespace Go.Proofs.YtjdbfokbgmbphaaGreatDoor
set_option linter.unusedVariables false
set_option linter.unusedSimpArgs false
open Go.RowKit

theorem infoRow : (Tryz.prog.info? 25).map (fun i => (i.zero, i.size, i.bytes)) = some (some (.slice none 0 0), 1, 24) := by kernel_rfl

/-- The slice v is the call's own from block B on; its elements us are slices of the call's own, each in a block of its own; they read as the rows. -/
structure OwnRowsW (w : World) (B : Nat) (v : Value) (rows : List (List Int)) (us : List Value) : Prop where
  outer : w.ownsRow B 25 1 v rows.length us
  each : ∀ (k : Nat) (u : Value) (r : List Int), us[k]? = some u → rows[k]? = some r → OwnInts w B u r
  apart : ∀ (i j : Nat) (u u' : Value) (b : Nat), us[i]? = some u → us[j]? = some u' → u.ownBlock = some b → u'.ownBlock = some b → i = j
def OwnRows (w : World) (B : Nat) (v : Value) (rows : List (List Int)) : Prop := ∃ us, OwnRowsW w B v rows us

theorem OwnRowsW.len {w : World} {B : Nat} {v : Value} {rows : List (List Int)} {us : List Value} (h : OwnRowsW w B v rows us) : us.length = rows.length := by
  simpa using h.outer.1
theorem OwnRowsW.get {w : World} {B : Nat} {v : Value} {rows : List (List Int)} {us : List Value} (h : OwnRowsW w B v rows us) {k : Nat} {r : List Int} (hr : rows[k]? = some r) :
    ∃ u, us[k]? = some u ∧ OwnInts w B u r := by
  have : k < us.length := by rw [h.len]; exact (List.getElem?_eq_some_iff.1 hr).1
  obtain ⟨u, hu⟩ := get_of_lt this
  exact ⟨u, hu, h.each k u r hu hr⟩
theorem OwnRowsW.getR {w : World} {B : Nat} {v : Value} {rows : List (List Int)} {us : List Value} (h : OwnRowsW w B v rows us) {k : Nat} {u : Value} (hu : us[k]? = some u) :
    ∃ r, rows[k]? = some r ∧ OwnInts w B u r := by
  have : k < rows.length := by rw [← h.len]; exact (List.getElem?_eq_some_iff.1 hu).1
  obtain ⟨r, hr⟩ := get_of_lt this
  exact ⟨r, hr, h.each k u r hu hr⟩

theorem OwnInts.lt {w : World} {B : Nat} {v : Value} {xs : List Int} (h : OwnInts w B v xs) : ∀ k, v.ownBlock = some k → B ≤ k ∧ k < w.heap.size := World.ownsRow.lt h

/-- An owned row of slices and an owned row of numbers lie in different blocks. -/
theorem apart_types {w : World} {B B' : Nat} {v u : Value} {n : Nat} {us : List Value} {xs : List Int} (hO : w.ownsRow B 25 1 v n us) (h : OwnInts w B' u xs) : u.ownBlock = none ∨ u.ownBlock ≠ v.ownBlock := by
  rcases h.2 with ⟨rfl, _⟩ | ⟨g, cap, cur, rfl, _, hg, _⟩
  · exact Or.inl rfl
  · right
    rcases hO.2 with ⟨rfl, _⟩ | ⟨g', cap', cur', rfl, _, hg', _⟩
    · simp [Value.ownBlock]
    · intro e
      simp only [Value.ownBlock, Option.some.injEq] at e
      rw [e, hg'] at hg
      simp at hg

theorem OwnInts.kept {w w' : World} {B : Nat} {u : Value} {xs : List Int} {row : Option Nat} (h : OwnInts w B u xs) (hg : w.grownBy w' row) (hne : u.ownBlock = none ∨ u.ownBlock ≠ row) : OwnInts w' B u xs := World.ownsRow.kept h hg hne

theorem OwnRowsW.ext {w w' : World} {B : Nat} {v : Value} {rows : List (List Int)} {us : List Value} (h : OwnRowsW w B v rows us) (hb : Below w.heap.size w w') : OwnRowsW w' B v rows us :=
  ⟨World.ownsRow.kept h.outer (row := none) ⟨hb.os, hb.tape, hb.output, hb.size, fun k hk _ => hb.block k hk⟩ (by cases v.ownBlock <;> simp), fun k u r hu hr => (h.each k u r hu hr).ext hb, h.apart⟩
theorem OwnRows.ext {w w' : World} {B : Nat} {v : Value} {rows : List (List Int)} (h : OwnRows w B v rows) (hb : Below w.heap.size w w') : OwnRows w' B v rows := by
  obtain ⟨us, h⟩ := h
  exact ⟨us, h.ext hb⟩

theorem OwnRows.view {w : World} {B : Nat} {v : Value} {rows : List (List Int)} (h : OwnRows w B v rows) : ∃ A cap, v = .slice A rows.length cap ∧ RowsAt w A rows ∧ rows.length ≤ cap ∧ cap ≤ maxLen := by
  obtain ⟨us, h⟩ := h
  have hc := fun g => World.ownsRow.cells h.outer (g := g)
  rcases h.outer.2 with ⟨rfl, hn⟩ | ⟨g, cap, cur, rfl, hb, hg, hn, hm, hr⟩
  · exact ⟨none, 0, by rw [hn], Or.inl (List.eq_nil_of_length_eq_zero hn), by omega, by decide⟩
  · refine ⟨_, cap, rfl, Or.inr ⟨g, 0, rfl, fun k r hk => ?_⟩, hn, hm⟩
    obtain ⟨u, hu, ho⟩ := h.get hk
    obtain ⟨A', c', rfl, hi, _⟩ := ho.view
    have := hc g rfl k _ hu
    rw [addr_add] at this
    exact ⟨A', c', this, hi⟩

theorem OwnInts.same {w w' : World} {B : Nat} {v : Value} {xs : List Int} (h : OwnInts w B v xs) (hs : ∀ k, B ≤ k → w'.heap[k]? = w.heap[k]?) : OwnInts w' B v xs :=
  ⟨h.1, h.2.imp id fun ⟨g, cap, cur, a1, a2, a3, a4⟩ => ⟨g, cap, cur, a1, a2, by rw [hs g a2]; exact a3, a4⟩⟩
theorem OwnRows.same {w w' : World} {B : Nat} {v : Value} {rows : List (List Int)} (h : OwnRows w B v rows) (hs : ∀ k, B ≤ k → w'.heap[k]? = w.heap[k]?) : OwnRows w' B v rows := by
  obtain ⟨us, h⟩ := h
  exact ⟨us, ⟨h.outer.1, h.outer.2.imp id fun ⟨g, cap, cur, a1, a2, a3, a4⟩ => ⟨g, cap, cur, a1, a2, by rw [hs g a2]; exact a3, a4⟩⟩, fun k u r hu hr => (h.each k u r hu hr).same hs, h.apart⟩
theorem OwnInts.mono {w : World} {B B' : Nat} {v : Value} {xs : List Int} (h : OwnInts w B v xs) (hB : B' ≤ B) : OwnInts w B' v xs :=
  ⟨h.1, h.2.imp id fun ⟨g, cap, cur, a1, a2, a3⟩ => ⟨g, cap, cur, a1, by omega, a3⟩⟩
theorem OwnRows.mono {w : World} {B B' : Nat} {v : Value} {rows : List (List Int)} (h : OwnRows w B v rows) (hB : B' ≤ B) : OwnRows w B' v rows := by
  obtain ⟨us, h⟩ := h
  exact ⟨us, ⟨h.outer.1, h.outer.2.imp id fun ⟨g, cap, cur, a1, a2, a3⟩ => ⟨g, cap, cur, a1, by omega, a3⟩⟩, fun k u r hu hr => (h.each k u r hu hr).mono hB, h.apart⟩
/-- Cells below the owned blocks are written. -/
theorem OwnRows.setCell {w : World} {B : Nat} {v : Value} {rows : List (List Int)} (h : OwnRows w B v rows) {a : Addr} (ha : a.block < B) (u : Value) : OwnRows (w.setCell a u) B v rows :=
  h.same fun k hk => Below.heap_setCell _ _ _ _ (by omega)
theorem OwnInts.setCell {w : World} {B : Nat} {v : Value} {xs : List Int} (h : OwnInts w B v xs) {a : Addr} (ha : a.block < B) (u : Value) : OwnInts (w.setCell a u) B v xs :=
  h.same fun k hk => Below.heap_setCell _ _ _ _ (by omega)

/-- 'append(s, r)' of one slice that lies in a block just made. -/
theorem wp_appendRow {ops : Array Oper} {rest : List Oper} {o : Oper} {a : Act} {Q : Exit → Act → World → Prop} (hgd : o.guard = none) (s x : Operand)
    (ho : o.op = .call { callee := .builtin .append, args := #[s, x], argTypes := #[22, 22] }) (B : Nat) (W0 W : World) (v u : Value) (rows : List (List Int)) (r : List Int)
    (hown : OwnRows W0 B v rows) (hbel : Below W0.heap.size W0 W) (hu : OwnInts W W0.heap.size u r) (hlen : rows.length + 1 ≤ 1073741824) (hB : B ≤ W0.heap.size) (hs : a.eval s = v) (hx : a.eval x = .slice (some ⟨W.heap.size, 0, none⟩) 1 1)
    (h : ∀ v' w', OwnRows w' B v' (rows ++ [r]) → Below B W0 w' → wpList Tryz.prog ops Q rest (a.put o.dst v') w') :
    wpList Tryz.prog ops Q (o :: rest) a (W.alloc (.cells #[u] 25)) := by
  obtain ⟨i0, hi, hz0, hz1, hz2⟩ := info_parts infoRow
  obtain ⟨us, hown⟩ := hown
  have hW := hown.ext hbel
  have ho1 := World.ownsRow.alloc hW.outer (.cells #[u] 25)
  have hsz := hbel.size
  refine wpList_append_own _ hgd s x 22 ho B 25 i0 (.slice none 0 0) 1 24 Tryz.underlying22 hi hz0 hz1 hz2 rfl (by decide) v _ _ hs ho1 ⟨W.heap.size, 0, none⟩ 1 1 [u] hx rfl ?_ ?_ ?_ ?_ ?_ ?_
  · intro j u' hj
    match j, hj with
    | 0, hj => simp at hj; subst hj; simp [Addr.add]
    | j + 1, hj => simp at hj
  · intro u' hu'; simp at hu'; subst hu'; obtain ⟨A', c', rfl, _⟩ := hu.view; rfl
  · unfold maxLen; omega
  · omega
  · simp; omega
  · intro v' w' hown' hgrow _
    have hg : W.grownBy w' v.ownBlock := ⟨hgrow.os, hgrow.tape, hgrow.output, by have := hgrow.size; simp at this; omega, fun k hk hne => (hgrow.block k (by simp; omega) hne).trans (heap_alloc_old W _ hk)⟩
    refine h v' w' ⟨us ++ [u], ?_, ?_, ?_⟩ (hbel.mono hB |>.trans ((Below.refl _ _).grown hg (by omega) fun k hk => (World.ownsRow.lt hW.outer k hk).1))
    · simpa using hown'
    · intro k u' r' hu' hr'
      by_cases hk : k < us.length
      · rw [List.getElem?_append_left hk] at hu'
        rw [List.getElem?_append_left (by rw [← hown.len]; exact hk)] at hr'
        exact OwnInts.kept (hW.each k u' r' hu' hr') hg (apart_types hW.outer (hW.each k u' r' hu' hr'))
      · have hk' : k = us.length := by
          have := (List.getElem?_eq_some_iff.1 hu').1
          simp at this; omega
        subst hk'
        simp at hu'
        rw [hown.len] at hr'
        simp at hr'
        subst hu' hr'
        have hkept := OwnInts.kept hu hg (apart_types hW.outer hu)
        exact ⟨hkept.1, hkept.2.imp id fun ⟨g, cap, cur, a1, a2, a3⟩ => ⟨g, cap, cur, a1, by omega, a3⟩⟩
    · have new : ∀ (i : Nat) (u' : Value) (b : Nat), i < us.length → us[i]? = some u' → u'.ownBlock = some b → u.ownBlock = some b → False := fun i u' b _ h1 h2 h3 => by
        obtain ⟨r', _, ho'⟩ := hown.getR h1
        have a1 := (ho'.lt b h2).2
        have a2 := (hu.lt b h3).1
        omega
      intro i j u1 u2 b h1 h2 h3 h4
      have hi := (List.getElem?_eq_some_iff.1 h1).1
      have hj := (List.getElem?_eq_some_iff.1 h2).1
      simp only [List.length_append, List.length_cons, List.length_nil] at hi hj
      by_cases ci : i < us.length <;> by_cases cj : j < us.length
      · rw [List.getElem?_append_left ci] at h1
        rw [List.getElem?_append_left cj] at h2
        exact hown.apart i j u1 u2 b h1 h2 h3 h4
      · rw [List.getElem?_append_left ci] at h1
        obtain rfl : j = us.length := by omega
        simp at h2; subst h2
        exact (new i u1 b ci h1 h3 h4).elim
      · rw [List.getElem?_append_left cj] at h2
        obtain rfl : i = us.length := by omega
        simp at h1; subst h1
        exact (new j u2 b cj h2 h4 h3).elim
      · omega

/-- A slice of the call's own is stored into an owned slice of slices. -/
theorem OwnRowsW.set {W0 W : World} {B g n cap k : Nat} {rows : List (List Int)} {us : List Value} {u : Value} {r : List Int} (hn : n = rows.length) (h : OwnRowsW W0 B (.slice (some ⟨g, 0, none⟩) n cap) rows us)
    (hb : Below W0.heap.size W0 W) (hu : OwnInts W W0.heap.size u r) (hB : B ≤ W0.heap.size) (hk : k < n) :
    OwnRowsW (W.setCell ⟨g, k, none⟩ u) B (.slice (some ⟨g, 0, none⟩) n cap) (rows.set k r) (us.set k u) ∧ Below B W0 (W.setCell ⟨g, k, none⟩ u) ∧ (∃ v0, W.cell? ⟨g, k, none⟩ = some v0) ∧ W.frozen? ⟨g, k, none⟩ = false := by
  subst hn
  have hW := h.ext hb
  have hsz := hb.size
  have hst := hW.outer.stored k u
  have hlt := World.ownsRow.lt hW.outer g rfl
  refine ⟨⟨by simpa using hst.1, ?_, ?_⟩, (hb.mono hB).trans ((Below.refl _ _).setCell hlt.1 u), ?_, hW.outer.frozenAt k⟩
  · intro j u' r' hu' hr'
    by_cases hj : k = j
    · subst hj
      rw [List.getElem?_set_self (by rw [h.len]; exact hk)] at hu'
      rw [List.getElem?_set_self hk] at hr'
      cases hu'; cases hr'
      have hkept := OwnInts.kept hu hst.2 (apart_types hW.outer hu)
      exact ⟨hkept.1, hkept.2.imp id fun ⟨g, cap, cur, a1, a2, a3⟩ => ⟨g, cap, cur, a1, by omega, a3⟩⟩
    · rw [List.getElem?_set_ne hj] at hu' hr'
      exact OwnInts.kept (hW.each j u' r' hu' hr') hst.2 (apart_types hW.outer (hW.each j u' r' hu' hr'))
  · have new : ∀ (i : Nat) (u' : Value) (b : Nat), us[i]? = some u' → u'.ownBlock = some b → u.ownBlock = some b → False := fun i u' b h1 h2 h3 => by
      obtain ⟨r', _, ho'⟩ := h.getR h1
      have a1 := (ho'.lt b h2).2
      have a2 := (hu.lt b h3).1
      omega
    intro i j u1 u2 b h1 h2 h3 h4
    by_cases ci : k = i <;> by_cases cj : k = j
    · omega
    · subst ci
      rw [List.getElem?_set_self (by rw [h.len]; exact hk)] at h1
      rw [List.getElem?_set_ne cj] at h2
      cases h1
      exact (new j u2 b h2 h4 h3).elim
    · subst cj
      rw [List.getElem?_set_self (by rw [h.len]; exact hk)] at h2
      rw [List.getElem?_set_ne ci] at h1
      cases h2
      exact (new i u1 b h1 h3 h4).elim
    · rw [List.getElem?_set_ne ci] at h1
      rw [List.getElem?_set_ne cj] at h2
      exact h.apart i j u1 u2 b h1 h2 h3 h4
  · obtain ⟨u0, hu0⟩ := get_of_lt (show k < us.length by rw [h.len]; exact hk)
    exact ⟨u0, by rw [hW.outer.cellAt k (by omega)]; exact hu0⟩
end Go.Proofs.YtjdbfokbgmbphaaGreatDoor
