/- An owned slice of slices: one of its slices is changed, taken out, put in. -/
import Derived.Test.YtjdbfokbgmbphaaGreatDoorSwap
namespace Go.Proofs.YtjdbfokbgmbphaaGreatDoor
set_option linter.unusedVariables false
set_option linter.unusedSimpArgs false
open Go.RowKit

theorem apart_types' {w : World} {B B' : Nat} {v u : Value} {n : Nat} {us : List Value} {xs : List Int} (hO : w.ownsRow B 25 1 v n us) (h : OwnInts w B' u xs) : v.ownBlock = none ∨ v.ownBlock ≠ u.ownBlock := by
  rcases apart_types hO h with h1 | h1
  · rw [h1]; cases v.ownBlock <;> simp
  · exact Or.inr (Ne.symm h1)

/-- One slice changed in place (or made anew), not stored yet. -/
theorem OwnRowsW.mod {w w' : World} {B : Nat} {v : Value} {rows : List (List Int)} {us : List Value} {k : Nat} {u u' : Value} {r' : List Int} (h : OwnRowsW w B v rows us) (hk : us[k]? = some u)
    (hgr : w.grownBy w' u.ownBlock) (hu' : OwnInts w' B u' r') (hblk : ∀ b, u'.ownBlock = some b → u.ownBlock = some b ∨ w.heap.size ≤ b) :
    w'.ownsRow B 25 1 v rows.length us ∧ (∀ (j : Nat) (x : Value) (r : List Int), (us.set k u')[j]? = some x → (rows.set k r')[j]? = some r → OwnInts w' B x r) ∧
    (∀ (i j : Nat) (x y : Value) (b : Nat), (us.set k u')[i]? = some x → (us.set k u')[j]? = some y → x.ownBlock = some b → y.ownBlock = some b → i = j) := by
  obtain ⟨r0, hr0, ho⟩ := h.getR hk
  have hkl := (List.getElem?_eq_some_iff.1 hk).1
  have other : ∀ (i : Nat) (x : Value) (b : Nat), i ≠ k → us[i]? = some x → x.ownBlock = some b → u'.ownBlock = some b → False := fun i x b hi hx hb hb' => by
    obtain ⟨rx, _, hox⟩ := h.getR hx
    rcases hblk b hb' with h1 | h1
    · exact hi (h.apart i k x u b hx hk hb h1)
    · have := (hox.lt b hb).2; omega
  refine ⟨World.ownsRow.kept h.outer hgr (apart_types' h.outer ho), fun j x r hx hr => ?_, fun i j x y b hx hy hb hb' => ?_⟩
  · by_cases hj : k = j
    · subst hj
      rw [List.getElem?_set_self hkl] at hx
      rw [List.getElem?_set_self (by rw [← h.len]; exact hkl)] at hr
      cases hx; cases hr; exact hu'
    · rw [List.getElem?_set_ne hj] at hx hr
      have hox := h.each j x r hx hr
      refine hox.kept hgr ?_
      rcases hb : x.ownBlock with _ | b
      · exact Or.inl rfl
      · refine Or.inr fun e => hj (h.apart k j u x b hk hx e.symm hb)
  · by_cases hi : k = i <;> by_cases hj : k = j
    · omega
    · subst hi
      rw [List.getElem?_set_self hkl] at hx
      rw [List.getElem?_set_ne hj] at hy
      cases hx
      exact (other j y b (Ne.symm hj) hy hb' hb).elim
    · subst hj
      rw [List.getElem?_set_self hkl] at hy
      rw [List.getElem?_set_ne hi] at hx
      cases hy
      exact (other i x b (Ne.symm hi) hx hb hb').elim
    · rw [List.getElem?_set_ne hi] at hx
      rw [List.getElem?_set_ne hj] at hy
      exact h.apart i j x y b hx hy hb hb'

theorem set_same {α : Type} {l : List α} {k : Nat} {x : α} (h : l[k]? = some x) : l.set k x = l := by
  apply List.ext_getElem?
  intro j
  by_cases hj : k = j
  · subst hj; rw [List.getElem?_set_self (List.getElem?_eq_some_iff.1 h).1, h]
  · rw [List.getElem?_set_ne hj]

/-- One slice changed in place. -/
theorem OwnRowsW.inner {w w' : World} {B : Nat} {v : Value} {rows : List (List Int)} {us : List Value} {k : Nat} {u : Value} {r' : List Int} (h : OwnRowsW w B v rows us) (hk : us[k]? = some u)
    (hgr : w.grownBy w' u.ownBlock) (hu' : OwnInts w' B u r') : OwnRowsW w' B v (rows.set k r') us := by
  obtain ⟨a1, a2, a3⟩ := h.mod hk hgr hu' fun b hb => Or.inl hb
  rw [set_same hk] at a2 a3
  exact ⟨by simpa using a1, a2, a3⟩

/-- One slice changed, and stored. -/
theorem OwnRowsW.put {w w' : World} {B g n cap : Nat} {rows : List (List Int)} {us : List Value} {k : Nat} {u u' : Value} {r' : List Int} (hn : n = rows.length) (h : OwnRowsW w B (.slice (some ⟨g, 0, none⟩) n cap) rows us) (hk : us[k]? = some u)
    (hgr : w.grownBy w' u.ownBlock) (hu' : OwnInts w' B u' r') (hblk : ∀ b, u'.ownBlock = some b → u.ownBlock = some b ∨ w.heap.size ≤ b) :
    OwnRowsW (w'.setCell ⟨g, k, none⟩ u') B (.slice (some ⟨g, 0, none⟩) n cap) (rows.set k r') (us.set k u') := by
  subst hn
  obtain ⟨a1, a2, a3⟩ := h.mod hk hgr hu' hblk
  have hst := a1.stored k u'
  exact ⟨by simpa using hst.1, fun j x r hx hr => (a2 j x r hx hr).kept hst.2 (apart_types a1 (a2 j x r hx hr)), a3⟩

theorem erase_get {α : Type} (l : List α) (k j : Nat) : (l.eraseIdx k)[j]? = l[if j < k then j else j + 1]? := by
  rw [List.getElem?_eraseIdx]; split <;> rfl

/-- One slice taken out. -/
theorem OwnRowsW.erase {w w' : World} {B g n k cap cap' : Nat} {rows : List (List Int)} {us : List Value} (h : OwnRowsW w B (.slice (some ⟨g, 0, none⟩) n cap) rows us) (hk : k < rows.length)
    (hO : w'.ownsRow B 25 1 (.slice (some ⟨g, 0, none⟩) (rows.length - 1) cap') (rows.length - 1) (us.eraseIdx k)) (hgr : w.grownBy w' (some g)) :
    OwnRowsW w' B (.slice (some ⟨g, 0, none⟩) (rows.length - 1) cap') (rows.eraseIdx k) (us.eraseIdx k) := by
  refine ⟨by rw [List.length_eraseIdx_of_lt hk]; exact hO, fun j x r hx hr => ?_, fun i j x y b hx hy hb hb' => ?_⟩
  · rw [erase_get] at hx hr
    exact (h.each _ x r hx hr).kept hgr (apart_types h.outer (h.each _ x r hx hr))
  · rw [erase_get] at hx hy
    have := h.apart _ _ x y b hx hy hb hb'
    split at this <;> split at this <;> omega

theorem insAt_len {α : Type} (l : List α) (k : Nat) (x : α) (h : k ≤ l.length) : (l.take k ++ x :: l.drop k).length = l.length + 1 := by simp <;> omega
theorem insAt_get {α : Type} (l : List α) (k j : Nat) (x : α) (h : k ≤ l.length) : (l.take k ++ x :: l.drop k)[j]? = if j < k then l[j]? else if j = k then some x else l[j - 1]? := by
  by_cases h1 : j < k
  · rw [if_pos h1, List.getElem?_append_left (by simp <;> omega), List.getElem?_take_of_lt h1]
  · rw [if_neg h1, List.getElem?_append_right (by simp <;> omega)]
    by_cases h2 : j = k
    · subst h2; rw [if_pos rfl]; simp [Nat.min_eq_left h]
    · rw [if_neg h2]
      obtain ⟨m, rfl⟩ : ∃ m, j = k + 1 + m := ⟨j - (k + 1), by omega⟩
      have e1 : k + 1 + m - (l.take k).length = m + 1 := by simp [Nat.min_eq_left h]; omega
      have e2 : k + 1 + m - 1 = k + m := by omega
      rw [e1, e2, List.getElem?_cons_succ, List.getElem?_drop]

/-- A slice put in. -/
theorem OwnRowsW.insert {w0 w w' : World} {B k : Nat} {v v' u : Value} {r : List Int} {rows : List (List Int)} {us : List Value} (h : OwnRowsW w0 B v rows us) (hb : Below w0.heap.size w0 w) (hu : OwnInts w w0.heap.size u r) (hB : B ≤ w0.heap.size) (hk : k ≤ rows.length)
    (hO : w'.ownsRow B 25 1 v' (rows.length + 1) (insAt us k u)) (hgr : w.grownBy w' v.ownBlock) : OwnRowsW w' B v' (rows.take k ++ r :: rows.drop k) (insAt us k u) := by
  have hW := h.ext hb
  have hku : k ≤ us.length := by rw [h.len]; exact hk
  have new : ∀ (i : Nat) (x : Value) (b : Nat), us[i]? = some x → x.ownBlock = some b → u.ownBlock = some b → False := fun i x b hx hb hb' => by
    obtain ⟨rx, _, hox⟩ := h.getR hx
    have := (hox.lt b hb).2
    have := (hu.lt b hb').1
    omega
  refine ⟨by rw [insAt_len _ _ _ hk]; exact hO, fun j x rx hx hr => ?_, fun i j x y b hx hy hb hb' => ?_⟩
  · rw [insAt, insAt_get _ _ _ _ hku] at hx
    rw [insAt_get _ _ _ _ hk] at hr
    by_cases h1 : j < k
    · rw [if_pos h1] at hx hr
      exact (hW.each _ x rx hx hr).kept hgr (apart_types hW.outer (hW.each _ x rx hx hr))
    · rw [if_neg h1] at hx hr
      by_cases h2 : j = k
      · rw [if_pos h2] at hx hr
        cases hx; cases hr
        exact (hu.kept hgr (apart_types hW.outer hu)).mono hB
      · rw [if_neg h2] at hx hr
        exact (hW.each _ x rx hx hr).kept hgr (apart_types hW.outer (hW.each _ x rx hx hr))
  · rw [insAt, insAt_get _ _ _ _ hku] at hx hy
    by_cases h1 : i < k <;> by_cases h2 : j < k
    · rw [if_pos h1] at hx; rw [if_pos h2] at hy
      exact h.apart _ _ x y b hx hy hb hb'
    · rw [if_pos h1] at hx; rw [if_neg h2] at hy
      by_cases h3 : j = k
      · rw [if_pos h3] at hy; cases hy; exact (new i x b hx hb hb').elim
      · rw [if_neg h3] at hy
        have := h.apart _ _ x y b hx hy hb hb'
        omega
    · rw [if_neg h1] at hx; rw [if_pos h2] at hy
      by_cases h3 : i = k
      · rw [if_pos h3] at hx; cases hx; exact (new j y b hy hb' hb).elim
      · rw [if_neg h3] at hx
        have := h.apart _ _ x y b hx hy hb hb'
        omega
    · rw [if_neg h1] at hx; rw [if_neg h2] at hy
      by_cases h3 : i = k <;> by_cases h4 : j = k
      · omega
      · rw [if_pos h3] at hx; rw [if_neg h4] at hy; cases hx; exact (new _ y b hy hb' hb).elim
      · rw [if_neg h3] at hx; rw [if_pos h4] at hy; cases hy; exact (new _ x b hx hb hb').elim
      · rw [if_neg h3] at hx; rw [if_neg h4] at hy
        have := h.apart _ _ x y b hx hy hb hb'
        omega
theorem own_at {w : World} {B n cap : Nat} {A : Option Addr} {rows : List (List Int)} {us : List Value} (h : OwnRowsW w B (.slice A n cap) rows us) (hn : 0 < rows.length) : ∃ g, A = some ⟨g, 0, none⟩ ∧ B ≤ g ∧ g < w.heap.size := by
  obtain ⟨g, cap', e, h1, h2⟩ := h.outer.form hn
  simp only [Value.slice.injEq] at e
  exact ⟨g, e.1, h1, h2⟩
theorem own_at1 {w : World} {B n cap : Nat} {A : Option Addr} {xs : List Int} (h : OwnInts w B (.slice A n cap) xs) (hn : 0 < xs.length) : ∃ g, A = some ⟨g, 0, none⟩ ∧ B ≤ g ∧ g < w.heap.size := by
  obtain ⟨g, cap', e, h1, h2⟩ := World.ownsRow.form h hn
  simp only [Value.slice.injEq] at e
  exact ⟨g, e.1, h1, h2⟩
end Go.Proofs.YtjdbfokbgmbphaaGreatDoor
