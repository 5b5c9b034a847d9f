/- The readings of the laws' arguments turned into the walks' own facts. No conditions. | The reading of a law's argument that is a slice of steps turned into the walks' own facts. No conditions. -/
import Derived.Test.YtjdbfokbgmbphaaGreatDoorPk1
import Derived.ProofKit
import Derived.Deep.Matrix
import Derived.Lib.SmallJoins
import Derived.Lib.LaidTab
import Derived.Test.YtjdbfokbgmbphaaGreatDoorPk23
import Derived.Deep.Slices
namespace Go.Proofs.YtjdbfokbgmbphaaGreatDoor
set_option linter.unusedVariables false
set_option linter.unusedSimpArgs false
open Go.ChangeShapes Go.WideShapes Go.ChangeAt Go.RowKit Go.Deep Go.Joins

theorem own : ownKnob Tryz.prog.godebug = none := by kernel_rfl
theorem laidOut : laidOutB Tryz.prog = true := by kernel_rfl
theorem cellsInt : Tryz.prog.cellsOf 3 = 1 := by kernel_rfl
theorem cellsInts : Tryz.prog.cellsOf 25 = 1 := by kernel_rfl
theorem cellsSys : Tryz.prog.cellsOf 24 = 3 := by kernel_rfl
theorem cellsStep : Tryz.prog.cellsOf 27 = 5 := by kernel_rfl

section
variable {H : Type} {enc : TypeId × Value → H} {W : World}

theorem ints_of {fuel : Nat} {v : Value} {x : DataW H × List MemPlace} (h : DataW.trod enc Tryz.prog W 0 (fun _ => true) true fuel 25 [v] = some x) :
    ∃ A xs cap, v = .slice A xs.length cap ∧ IntsAt W A xs ∧ xs.length ≤ maxLen := by
  rcases open_ints Tryz.underlying25 Tryz.underlying3 cellsInt h with ⟨hcs, _⟩ | ⟨a, len, cap, zs, hcs, _, hl, hm, hz, _, hcell, _⟩
  · obtain rfl : v = .slice none 0 0 := by simpa using hcs
    exact ⟨none, [], 0, rfl, Or.inl rfl, Nat.zero_le _⟩
  · obtain rfl : v = .slice (some a) len cap := by simpa using hcs
    simp only [if_true] at hz
    have hlen : (zs.take len).length = len := by simp; omega
    refine ⟨some a, zs.take len, cap, by rw [hlen], ?_, by omega⟩
    by_cases h0 : len = 0
    · subst h0; exact Or.inl rfl
    · obtain ⟨b, o, spot⟩ := a
      have hc := hcell 0 (by omega)
      have hspot : spot = none := by simpa [Addr.add] using World.cell?_spot hc
      subst hspot
      refine Or.inr ⟨b, o, rfl, fun k y hk => ?_⟩
      obtain ⟨hk1, hk2⟩ := List.getElem?_eq_some_iff.1 hk
      have hk3 : k < zs.length := by omega
      have := hcell k hk3
      have e : zs.getD k 0 = y := by
        rw [List.getD_eq_getElem?_getD, List.getElem?_eq_getElem hk3]
        rw [← hk2]; simp
      rw [e] at this
      rwa [add_plain] at this

theorem rows_of {fuel : Nat} {v : Value} {x : DataW H × List MemPlace} (h : DataW.trod enc Tryz.prog W 0 (fun _ => true) true fuel 22 [v] = some x) :
    ∃ A rows cap, v = .slice A rows.length cap ∧ RowsAt W A rows ∧ rows.length ≤ maxLen ∧ ∀ r ∈ rows, r.length ≤ maxLen := by
  rcases open_int_rows Tryz.underlying22 Tryz.underlying25 Tryz.underlying3 cellsInts cellsInt h with ⟨hcs, _⟩ | ⟨a, len, cap, A, L, C, Z, hcs, _, hl, hm, _, hrows⟩
  · obtain rfl : v = .slice none 0 0 := by simpa using hcs
    exact ⟨none, [], 0, rfl, Or.inl rfl, Nat.zero_le _, fun r hr => by cases hr⟩
  · obtain rfl : v = .slice (some a) len cap := by simpa using hcs
    have hlen : ((List.range len).map fun k => (Z k).take (L k)).length = len := by simp
    have hL : ∀ k, k < len → ((Z k).take (L k)).length = L k := fun k hk => by
      obtain ⟨_, h1, _, h2, _⟩ := hrows k (by omega)
      simp; omega
    refine ⟨some a, (List.range len).map fun k => (Z k).take (L k), cap, by rw [hlen], ?_, by omega, fun r hr => ?_⟩
    · by_cases h0 : len = 0
      · subst h0; exact Or.inl rfl
      · obtain ⟨b, o, spot⟩ := a
        have hspot : spot = none := by simpa [Addr.add] using World.cell?_spot (hrows 0 (by omega)).1
        subst hspot
        refine Or.inr ⟨b, o, rfl, fun k r hk => ?_⟩
        have hk1 : k < len := by have := (List.getElem?_eq_some_iff.1 hk).1; omega
        have hr : r = (Z k).take (L k) := by simpa [hk1] using hk.symm
        subst hr
        obtain ⟨c0, h1, h2, h3, _, _, h6⟩ := hrows k (by omega)
        refine ⟨A k, C k, ?_, ?_⟩
        · rw [hL k hk1]; rwa [add_plain] at c0
        · by_cases hz : L k = 0
          · rw [hz]; exact Or.inl rfl
          · cases hA : A k with
            | none => have := (hrows k (by omega)).2.2.2.2.2.1 hA; omega
            | some a' =>
              obtain ⟨_, hc⟩ := h6 a' hA
              obtain ⟨b', o', spot⟩ := a'
              have hspot : spot = none := by simpa [Addr.add] using World.cell?_spot (hc 0 (by omega))
              subst hspot
              refine Or.inr ⟨b', o', rfl, fun j y hj => ?_⟩
              obtain ⟨hj1, hj2⟩ := List.getElem?_eq_some_iff.1 hj
              rw [hL k hk1] at hj1
              have hj3 : j < (Z k).length := by omega
              have := hc j (by omega)
              have e : (Z k).getD j 0 = y := by
                rw [List.getD_eq_getElem?_getD, List.getElem?_eq_getElem hj3]
                rw [← hj2]; simp
              rw [e] at this
              rwa [add_plain] at this
    · obtain ⟨k, hk, rfl⟩ := List.mem_map.1 hr
      have hk1 : k < len := List.mem_range.1 hk
      obtain ⟨_, h1, h2, _⟩ := hrows k (by omega)
      rw [hL k hk1]; omega

set_option maxRecDepth 100000 in
theorem sys_of {base : Nat} {v : Value} {d : DataW H} {p : List MemPlace} (hv : Value.okWide Tryz.prog W .any base 24 v) (h : DataW.Trod enc Tryz.prog W 0 (fun _ => true) true 24 v d p) :
    ∃ (a b : Int) (A : Option Addr) (rows : List (List Int)) (cap : Nat), v = .agg #[.int .i64 a, .int .i64 b, .slice A rows.length cap] ∧ RowsAt W A rows ∧ rows.length ≤ maxLen ∧ ∀ r ∈ rows, r.length ≤ maxLen := by
  obtain ⟨v0, v1, v2, y0, y1, y2, n, rfl, _, _, h0, h1, h2⟩ := open_agg3 Tryz.underlying24 (by kernel_rfl) cellsSys hv h
  obtain ⟨a, e0, _, _⟩ := DataW.trod_int Tryz.underlying3 h0
  obtain ⟨b, e1, _, _⟩ := DataW.trod_int Tryz.underlying3 h1
  obtain ⟨A, rows, cap, rfl, hr⟩ := rows_of h2
  simp at e0 e1
  subst e0 e1
  exact ⟨a, b, A, rows, cap, rfl, hr⟩

set_option maxRecDepth 100000 in
theorem step_of {base : Nat} {v : Value} {d : DataW H} {p : List MemPlace} (hv : Value.okWide Tryz.prog W .any base 27 v) (h : DataW.Trod enc Tryz.prog W 0 (fun _ => true) true 27 v d p) :
    ∃ (k a b c : Int) (A : Option Addr) (row : List Int) (cap : Nat), v = .agg #[.int .i64 k, .int .i64 a, .int .i64 b, .int .i64 c, .slice A row.length cap] ∧ IntsAt W A row ∧ row.length ≤ maxLen := by
  obtain ⟨⟨l⟩, rfl, hsz⟩ := okWide_struct Tryz.underlying27 hv
  obtain ⟨fuel, hf⟩ := h
  obtain ⟨v0, v1, v2, v3, v4, rfl⟩ : ∃ v0 v1 v2 v3 v4, l = [v0, v1, v2, v3, v4] := by
    match l, hsz.trans cellsStep with
    | [v0, v1, v2, v3, v4], _ => exact ⟨v0, v1, v2, v3, v4, rfl⟩
  obtain ⟨xs, n, _, _, _, hl, hg⟩ := DataW.trod_struct Tryz.underlying27 hf
  obtain ⟨y0, y1, y2, y3, y4, rfl⟩ : ∃ y0 y1 y2 y3 y4, xs = [y0, y1, y2, y3, y4] := by
    match xs, hl with
    | [y0, y1, y2, y3, y4], _ => exact ⟨y0, y1, y2, y3, y4, rfl⟩
  have h0 := hg 0 _ rfl
  have h1 := hg 1 _ rfl
  have h2 := hg 2 _ rfl
  have h3 := hg 3 _ rfl
  have h4 := hg 4 _ rfl
  simp only [cellsInt, cellsInts, Value.cells, List.drop_zero, List.drop_succ_cons, List.take_succ_cons, List.take_zero, List.getElem?_cons_zero, List.getElem?_cons_succ] at h0 h1 h2 h3 h4
  obtain ⟨k, e0, _, _⟩ := DataW.trod_int Tryz.underlying3 h0
  obtain ⟨a, e1, _, _⟩ := DataW.trod_int Tryz.underlying3 h1
  obtain ⟨b, e2, _, _⟩ := DataW.trod_int Tryz.underlying3 h2
  obtain ⟨c, e3, _, _⟩ := DataW.trod_int Tryz.underlying3 h3
  obtain ⟨A, row, cap, rfl, hr⟩ := ints_of h4
  simp [cellsInt] at e0 e1 e2 e3
  subst e0 e1 e2 e3
  exact ⟨k, a, b, c, A, row, cap, rfl, hr⟩
end
end Go.Proofs.YtjdbfokbgmbphaaGreatDoor

namespace Go.Proofs.YtjdbfokbgmbphaaGreatDoor
set_option linter.unusedVariables false
set_option linter.unusedSimpArgs false
open Go.ChangeShapes Go.WideShapes Go.ChangeAt Go.RowKit Go.Deep Go.Joins

section
variable {H : Type} {enc : TypeId × Value → H} {W : World}

set_option maxRecDepth 100000 in
theorem stp_of {fuel : Nat} {cs : List Value} {y : DataW H × List MemPlace} (h : DataW.trod enc Tryz.prog W 0 (fun _ => true) true fuel 27 cs = some y) :
    ∃ (x : Stp) (A : Option Addr) (cap : Nat), cs = [.int .i64 x.k, .int .i64 x.a, .int .i64 x.b, .int .i64 x.c, .slice A x.row.length cap] ∧ IntsAt W A x.row ∧ x.row.length ≤ maxLen := by
  obtain ⟨xs, n, _, _, hcl, hl, hg⟩ := DataW.trod_struct Tryz.underlying27 h
  obtain ⟨v0, v1, v2, v3, v4, rfl⟩ : ∃ v0 v1 v2 v3 v4, cs = [v0, v1, v2, v3, v4] := by
    match cs, hcl.trans cellsStep with
    | [v0, v1, v2, v3, v4], _ => exact ⟨v0, v1, v2, v3, v4, rfl⟩
  obtain ⟨y0, y1, y2, y3, y4, rfl⟩ : ∃ y0 y1 y2 y3 y4, xs = [y0, y1, y2, y3, y4] := by
    match xs, hl with
    | [y0, y1, y2, y3, y4], _ => exact ⟨y0, y1, y2, y3, y4, rfl⟩
  have h0 := hg 0 _ rfl
  have h1 := hg 1 _ rfl
  have h2 := hg 2 _ rfl
  have h3 := hg 3 _ rfl
  have h4 := hg 4 _ rfl
  simp only [cellsInt, cellsInts, Value.cells, List.drop_zero, List.drop_succ_cons, List.take_succ_cons, List.take_zero, List.getElem?_cons_zero, List.getElem?_cons_succ] at h0 h1 h2 h3 h4
  obtain ⟨k, e0, _, _⟩ := DataW.trod_int Tryz.underlying3 h0
  obtain ⟨a, e1, _, _⟩ := DataW.trod_int Tryz.underlying3 h1
  obtain ⟨b, e2, _, _⟩ := DataW.trod_int Tryz.underlying3 h2
  obtain ⟨c, e3, _, _⟩ := DataW.trod_int Tryz.underlying3 h3
  obtain ⟨A, row, cap, rfl, hr⟩ := ints_of h4
  simp [cellsInt] at e0 e1 e2 e3
  subst e0 e1 e2 e3
  exact ⟨⟨k, a, b, c, row⟩, A, cap, rfl, hr⟩

theorem steps_of {fuel : Nat} {v : Value} {x : DataW H × List MemPlace} (h : DataW.trod enc Tryz.prog W 0 (fun _ => true) true fuel 41 [v] = some x) :
    ∃ (A : Option Addr) (xs : List Stp) (cap : Nat), v = .slice A xs.length cap ∧ StepsAt W A xs ∧ xs.length ≤ maxLen ∧ ∀ x ∈ xs, x.row.length ≤ maxLen := by
  rcases open_slice Tryz.underlying41 h with ⟨hcs, _⟩ | ⟨a, len, cap, m, n, D, Pl, hcs, _, hl, hm, hmm, _, hi⟩
  · obtain rfl : v = .slice none 0 0 := by simpa using hcs
    exact ⟨none, [], 0, rfl, Or.inl rfl, Nat.zero_le _, fun r hr => by cases hr⟩
  · obtain rfl : v = .slice (some a) len cap := by simpa using hcs
    have hlm : len ≤ m := by rw [hmm]; split <;> omega
    have hx : ∀ i, ∃ x : Stp, i < len → ∃ A c, (∀ (j : Nat) (y : Value), [Value.int .i64 x.k, .int .i64 x.a, .int .i64 x.b, .int .i64 x.c, .slice A x.row.length c][j]? = some y → W.cell? (a.add (i * 5 + j)) = some y) ∧ IntsAt W A x.row ∧ x.row.length ≤ maxLen := fun i => by
      by_cases hil : i < len
      · obtain ⟨cs, hc, ht⟩ := hi i (by omega)
        rw [cellsStep] at hc
        obtain ⟨x, A, c, rfl, h1, h2⟩ := stp_of ht
        obtain ⟨_, _, hat⟩ := World.cells?_some hc
        refine ⟨x, fun _ => ⟨A, c, fun j y hy => ?_, h1, h2⟩⟩
        have hj : j < 5 := (List.getElem?_eq_some_iff.1 hy).1
        rw [← Go.Deep.add_add, hat j hj, hy]
      · exact ⟨⟨0, 0, 0, 0, []⟩, fun h => absurd h hil⟩
    obtain ⟨X, hX⟩ : ∃ X : Nat → Stp, ∀ i, i < len → ∃ A c, (∀ (j : Nat) (y : Value), [Value.int .i64 (X i).k, .int .i64 (X i).a, .int .i64 (X i).b, .int .i64 (X i).c, .slice A (X i).row.length c][j]? = some y → W.cell? (a.add (i * 5 + j)) = some y) ∧ IntsAt W A (X i).row ∧ (X i).row.length ≤ maxLen :=
      ⟨fun i => Classical.choose (hx i), fun i => Classical.choose_spec (hx i)⟩
    have hlen : ((List.range len).map X).length = len := by simp
    refine ⟨some a, (List.range len).map X, cap, by rw [hlen], ?_, by omega, fun r hr => ?_⟩
    · by_cases h0 : len = 0
      · subst h0; exact Or.inl rfl
      · obtain ⟨b, o, spot⟩ := a
        have hspot : spot = none := by
          obtain ⟨A, c, h1, _⟩ := hX 0 (by omega)
          have := h1 0 _ rfl
          simpa [Addr.add] using World.cell?_spot this
        subst hspot
        refine Or.inr ⟨b, o, rfl, fun k x hk => ?_⟩
        have hk1 : k < len := by have := (List.getElem?_eq_some_iff.1 hk).1; omega
        have hx : x = X k := by simpa [hk1] using hk.symm
        subst hx
        obtain ⟨A, c, h1, h2, _⟩ := hX k hk1
        have hj : ∀ (j : Nat) (y : Value), [Value.int .i64 (X k).k, .int .i64 (X k).a, .int .i64 (X k).b, .int .i64 (X k).c, .slice A (X k).row.length c][j]? = some y → W.cell? ⟨b, o + k * 5 + j, none⟩ = some y := fun j y hy => by
          have := h1 j y hy
          rwa [add_plain, ← Nat.add_assoc] at this
        exact ⟨A, c, ⟨hj 0 _ rfl, hj 1 _ rfl, hj 2 _ rfl, hj 3 _ rfl, hj 4 _ rfl⟩, h2⟩
    · obtain ⟨k, hk, rfl⟩ := List.mem_map.1 hr
      obtain ⟨_, _, _, _, h3⟩ := hX k (List.mem_range.1 hk)
      exact h3
set_option maxRecDepth 100000 in
theorem steps_arg {base : Nat} {v : Value} {d : DataW H} {p : List MemPlace} (hv : Value.okWide Tryz.prog W .any base 41 v) (h : DataW.Trod enc Tryz.prog W 0 (fun _ => true) true 41 v d p) :
    ∃ (A : Option Addr) (xs : List Stp) (cap : Nat), v = .slice A xs.length cap ∧ StepsAt W A xs ∧ xs.length ≤ maxLen ∧ ∀ x ∈ xs, x.row.length ≤ maxLen := by
  obtain ⟨a, len, cap, rfl⟩ := okWide_slice Tryz.underlying41 hv
  obtain ⟨fuel, hf⟩ := h
  exact steps_of hf
end
end Go.Proofs.YtjdbfokbgmbphaaGreatDoor
