/- The readings of the laws' arguments turned into the walks' own facts. No conditions. | The reading of a law's argument that is a slice of steps turned into the walks' own facts. No conditions. -/
import Derived.Test.YtjdbfokbgmbphaaGreatDoorPk1
import Derived.ProofKit
import Derived.Deep.Matrix
import Derived.Lib.SmallJoins
import Derived.Lib.LaidTab
import Derived.Test.YtjdbfokbgmbphaaGreatDoorPk23
import Derived.Deep.Slices
namespace Go.Proofs.YtjdbfokbgmbphaaGreatDoor
set_option linter.unusedVariables false
set_option linter.unusedSimpArgs false
open Go.ChangeShapes Go.WideShapes Go.ChangeAt Go.RowKit Go.Deep Go.Joins
theorem own : ownKnob Tryz.prog.godebug = none := by kernel_rfl
theorem laidOut : laidOutB Tryz.prog = true := by kernel_rfl
theorem cellsInt : Tryz.prog.cellsOf 3 = 1 := by kernel_rfl
theorem cellsInts : Tryz.prog.cellsOf 25 = 1 := by kernel_rfl
theorem cellsSys : Tryz.prog.cellsOf 24 = 3 := by kernel_rfl
section
variable {H : Type} {enc : TypeId × Value → H} {W : World}
theorem rows_of {fuel : Nat} {v : Value} {x : DataW H × List MemPlace} (h : DataW.trod enc Tryz.prog W 0 (fun _ => true) true fuel 22 [v] = some x) :
  ∃ A rows cap, v = .slice A rows.length cap ∧ RowsAt W A rows ∧ rows.length ≤ maxLen ∧ ∀ r ∈ rows, r.length ≤ maxLen := by
 rcases open_int_rows Tryz.underlying22 Tryz.underlying25 Tryz.underlying3 cellsInts cellsInt h with ⟨hcs, _⟩ | ⟨a, len, cap, A, L, C, Z, hcs, _, hl, hm, _, hrows⟩
 ·obtain rfl : v = .slice none 0 0 := by simpa using hcs
  exact ⟨none, [], 0, rfl, Or.inl rfl, Nat.zero_le _, fun r hr => by cases hr⟩
 ·obtain rfl : v = .slice (some a) len cap := by simpa using hcs
  have hlen : ((List.range len).map fun k => (Z k).take (L k)).length = len := by simp
  have hL : ∀ k, k < len → ((Z k).take (L k)).length = L k := fun k hk => by
   obtain ⟨_, h1, _, h2, _⟩ := hrows k (by omega)
   simp; omega
  refine ⟨some a, (List.range len).map fun k => (Z k).take (L k), cap, by rw [hlen], ?_, by omega, fun r hr => ?_⟩
  ·by_cases h0 : len = 0
   ·subst h0; exact Or.inl rfl
   ·obtain ⟨b, o, spot⟩ := a
    have hspot : spot = none := by simpa [Addr.add] using World.cell?_spot (hrows 0 (by omega)).1
    subst hspot
    refine Or.inr ⟨b, o, rfl, fun k r hk => ?_⟩
    have hk1 : k < len := by have := (List.getElem?_eq_some_iff.1 hk).1; omega
    have hr : r = (Z k).take (L k) := by simpa [hk1] using hk.symm
    subst hr
    obtain ⟨c0, h1, h2, h3, _, _, h6⟩ := hrows k (by omega)
    refine ⟨A k, C k, ?_, ?_⟩
    ·rw [hL k hk1]; rwa [add_plain] at c0
    ·by_cases hz : L k = 0
     ·rw [hz]; exact Or.inl rfl
     ·cases hA : A k with
      | none => have := (hrows k (by omega)).2.2.2.2.2.1 hA; omega
      | some a' =>
       obtain ⟨_, hc⟩ := h6 a' hA
       obtain ⟨b', o', spot⟩ := a'
       have hspot : spot = none := by simpa [Addr.add] using World.cell?_spot (hc 0 (by omega))
       subst hspot
       refine Or.inr ⟨b', o', rfl, fun j y hj => ?_⟩
       obtain ⟨hj1, hj2⟩ := List.getElem?_eq_some_iff.1 hj
       rw [hL k hk1] at hj1
       have hj3 : j < (Z k).length := by omega
       have := hc j (by omega)
       have e : (Z k).getD j 0 = y := by
        rw [List.getD_eq_getElem?_getD, List.getElem?_eq_getElem hj3]
        rw [← hj2]; simp
       rw [e] at this
       rwa [add_plain] at this
  ·obtain ⟨k, hk, rfl⟩ := List.mem_map.1 hr
   have hk1 : k < len := List.mem_range.1 hk
   obtain ⟨_, h1, h2, _⟩ := hrows k (by omega)
   rw [hL k hk1]; omega
set_option maxRecDepth 100000 in
theorem sys_of {base : Nat} {v : Value} {d : DataW H} {p : List MemPlace} (hv : Value.okWide Tryz.prog W .any base 24 v) (h : DataW.Trod enc Tryz.prog W 0 (fun _ => true) true 24 v d p) :
  ∃ (a b : Int) (A : Option Addr) (rows : List (List Int)) (cap : Nat), v = .agg #[.int .i64 a, .int .i64 b, .slice A rows.length cap] ∧ RowsAt W A rows ∧ rows.length ≤ maxLen ∧ ∀ r ∈ rows, r.length ≤ maxLen := by
 obtain ⟨v0, v1, v2, y0, y1, y2, n, rfl, _, _, h0, h1, h2⟩ := open_agg3 Tryz.underlying24 (by kernel_rfl) cellsSys hv h
 obtain ⟨a, e0, _, _⟩ := DataW.trod_int Tryz.underlying3 h0
 obtain ⟨b, e1, _, _⟩ := DataW.trod_int Tryz.underlying3 h1
 obtain ⟨A, rows, cap, rfl, hr⟩ := rows_of h2
 simp at e0 e1
 subst e0 e1
 exact ⟨a, b, A, rows, cap, rfl, hr⟩
end
section
variable {H : Type} {enc : TypeId × Value → H} {W : World}
end
end Go.Proofs.YtjdbfokbgmbphaaGreatDoor
