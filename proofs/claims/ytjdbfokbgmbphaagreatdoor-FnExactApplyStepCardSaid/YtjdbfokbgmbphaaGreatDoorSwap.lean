/- Two elements of an owned slice of slices change places. -/
import Derived.Test.YtjdbfokbgmbphaaGreatDoorHeld
namespace Go.Proofs.YtjdbfokbgmbphaaGreatDoor
set_option linter.unusedVariables false
set_option linter.unusedSimpArgs false
open Go.RowKit

def sw (i j k : Nat) : Nat := if k = j then i else if k = i then j else k
theorem sw_inj {i j k l : Nat} (h : sw i j k = sw i j l) : k = l := by unfold sw at h; split at h <;> split at h <;> (try split at h) <;> (try split at h) <;> omega
theorem swap_get {α : Type} {l : List α} {i j : Nat} {x y : α} (hi : l[i]? = some x) (hj : l[j]? = some y) (k : Nat) : ((l.set i y).set j x)[k]? = l[sw i j k]? := by
  have hi' := (List.getElem?_eq_some_iff.1 hi).1
  have hj' := (List.getElem?_eq_some_iff.1 hj).1
  unfold sw
  by_cases h1 : k = j
  · subst h1; rw [if_pos rfl, List.getElem?_set_self (by simpa using hj'), hi]
  · rw [if_neg h1, List.getElem?_set_ne (Ne.symm h1)]
    by_cases h2 : k = i
    · subst h2; rw [if_pos rfl, List.getElem?_set_self hi', hj]
    · rw [if_neg h2, List.getElem?_set_ne (Ne.symm h2)]

theorem OwnRowsW.mono {w : World} {B B' : Nat} {v : Value} {rows : List (List Int)} {us : List Value} (h : OwnRowsW w B v rows us) (hB : B' ≤ B) : OwnRowsW w B' v rows us :=
  ⟨⟨h.outer.1, h.outer.2.imp id fun ⟨g, cap, cur, a1, a2, a3⟩ => ⟨g, cap, cur, a1, by omega, a3⟩⟩, fun k u r hu hr => (h.each k u r hu hr).mono hB, h.apart⟩
theorem OwnRowsW.swap {w : World} {B g n cap i j : Nat} {rows : List (List Int)} {us : List Value} {ui uj : Value} {ri rj : List Int} (hn : n = rows.length) (h : OwnRowsW w B (.slice (some ⟨g, 0, none⟩) n cap) rows us)
    (hi : us[i]? = some ui) (hj : us[j]? = some uj) (hri : rows[i]? = some ri) (hrj : rows[j]? = some rj) :
    OwnRowsW ((w.setCell ⟨g, i, none⟩ uj).setCell ⟨g, j, none⟩ ui) B (.slice (some ⟨g, 0, none⟩) n cap) ((rows.set i rj).set j ri) ((us.set i uj).set j ui) := by
  subst hn
  have h1 := h.outer.stored i uj
  have h2 := h1.1.stored j ui
  refine ⟨by simpa using h2.1, fun k u r hu hr => ?_, fun k l u u' b hu hu' hb hb' => ?_⟩
  · rw [swap_get hi hj] at hu
    rw [swap_get hri hrj] at hr
    have ho := h.each _ u r hu hr
    have hap := apart_types h.outer ho
    exact OwnInts.kept (OwnInts.kept ho h1.2 hap) h2.2 hap
  · rw [swap_get hi hj] at hu hu'
    exact sw_inj (h.apart _ _ u u' b hu hu' hb hb')
end Go.Proofs.YtjdbfokbgmbphaaGreatDoor
