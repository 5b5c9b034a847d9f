/- slices.Reverse at steps: an owned slice of steps turned round. Conditions: a length of at most 2^20. | Inverses and negatives in a field: the program's by squaring, the reference's by search: the same. Conditions: a prime of at most 97, an element that is not 0. | The program's methods 'undo': the step that leads back. Conditions: those under which the step is possible. -/
import Derived.Test.YtjdbfokbgmbphaaGreatDoorPk24
import Derived.Test.YtjdbfokbgmbphaaGreatDoorPk7
import Derived.Test.YtjdbfokbgmbphaaGreatDoorPk16
import Derived.Test.YtjdbfokbgmbphaaGreatDoorPk8
namespace Go.Proofs.YtjdbfokbgmbphaaGreatDoor
set_option linter.unusedVariables false
set_option linter.unusedSimpArgs false
open Go.RowKit
def revTo {α : Type} (xs : List α) : Nat → List α
 | 0 => xs
 | k + 1 => match (revTo xs k)[k]?, (revTo xs k)[xs.length - 1 - k]? with
  | some x, some y => ((revTo xs k).set k y).set (xs.length - 1 - k) x
  | _, _ => revTo xs k
theorem revTo_len {α : Type} (xs : List α) : ∀ k, (revTo xs k).length = xs.length
 | 0 => rfl
 | k + 1 => by
  have := revTo_len xs k
  unfold revTo
  split <;> simp [this]
theorem revTo_get {α : Type} (xs : List α) : ∀ (k : Nat), 2 * k ≤ xs.length → ∀ i, i < xs.length → (revTo xs k)[i]? = if i < k ∨ xs.length - 1 - i < k then xs[xs.length - 1 - i]? else xs[i]?
 | 0, _, i, _ => by simp [revTo]
 | k + 1, h, i, hi => by
  have ih := revTo_get xs k (by omega)
  have hl := revTo_len xs k
  obtain ⟨x, hx⟩ := get_of_lt (show k < (revTo xs k).length by omega)
  obtain ⟨y, hy⟩ := get_of_lt (show xs.length - 1 - k < (revTo xs k).length by omega)
  have e : revTo xs (k + 1) = ((revTo xs k).set k y).set (xs.length - 1 - k) x := by
   show (match (revTo xs k)[k]?, (revTo xs k)[xs.length - 1 - k]? with | some x, some y => ((revTo xs k).set k y).set (xs.length - 1 - k) x | _, _ => revTo xs k) = _
   rw [hx, hy]
  rw [e, swap_get hx hy]
  unfold sw
  by_cases h1 : i = xs.length - 1 - k
  ·rw [if_pos h1, ih k (by omega), if_neg (by omega), if_pos (by omega)]
   congr 1; omega
  ·rw [if_neg h1]
   by_cases h2 : i = k
   ·rw [if_pos h2, ih _ (by omega), if_neg (by omega), if_pos (by omega)]
    congr 1; omega
   ·rw [if_neg h2, ih i hi]
    by_cases h3 : i < k ∨ xs.length - 1 - i < k
    ·rw [if_pos h3, if_pos (by omega)]
    ·rw [if_neg h3, if_neg (by omega)]
theorem revTo_all {α : Type} (xs : List α) (k : Nat) (h : 2 * k ≤ xs.length) (h2 : xs.length ≤ 2 * k + 1) : revTo xs k = xs.reverse := by
 apply List.ext_getElem?
 intro i
 by_cases hi : i < xs.length
 ·rw [revTo_get xs k h i hi, List.getElem?_reverse hi]
  by_cases h3 : i < k ∨ xs.length - 1 - i < k
  ·rw [if_pos h3]
  ·rw [if_neg h3]; congr 1; omega
 ·rw [List.getElem?_eq_none (by rw [revTo_len]; omega), List.getElem?_eq_none (by simp; omega)]
theorem revTo_succ {α : Type} {xs : List α} {k : Nat} {x y : α} (hx : (revTo xs k)[k]? = some x) (hy : (revTo xs k)[xs.length - 1 - k]? = some y) : revTo xs (k + 1) = ((revTo xs k).set k y).set (xs.length - 1 - k) x := by
 show (match (revTo xs k)[k]?, (revTo xs k)[xs.length - 1 - k]? with | some x, some y => ((revTo xs k).set k y).set (xs.length - 1 - k) x | _, _ => revTo xs k) = _
 rw [hx, hy]
/-- The five cells of a step stored at a place. -/
def setStp (w : World) (g o : Nat) (x : Stp) (u : Value) : World :=
 ((((w.setCell ⟨g, o, none⟩ (.int .i64 x.k)).setCell ⟨g, o + 1, none⟩ (.int .i64 x.a)).setCell ⟨g, o + 2, none⟩ (.int .i64 x.b)).setCell ⟨g, o + 3, none⟩ (.int .i64 x.c)).setCell ⟨g, o + 4, none⟩ u
theorem setStp_own {w : World} {B g n cap k : Nat} {xs : List Stp} {us : List Value} (hn : n = xs.length) (hl : us.length = xs.length) (h : w.ownsRow B 34 5 (.slice (some ⟨g, 0, none⟩) n cap) n (flatS xs us)) (hk : k < n) (x : Stp) (u : Value) :
  (setStp w g (k * 5) x u).ownsRow B 34 5 (.slice (some ⟨g, 0, none⟩) n cap) n (flatS (xs.set k x) (us.set k u)) ∧ w.grownBy (setStp w g (k * 5) x u) (some g) := by
 subst hn
 have s1 := h.stored (k * 5) (.int .i64 x.k)
 have s2 := s1.1.stored (k * 5 + 1) (.int .i64 x.a)
 have s3 := s2.1.stored (k * 5 + 2) (.int .i64 x.b)
 have s4 := s3.1.stored (k * 5 + 3) (.int .i64 x.c)
 have s5 := s4.1.stored (k * 5 + 4) u
 have hg := grownBy_trans (grownBy_trans (grownBy_trans (grownBy_trans s1.2 s2.2) s3.2) s4.2) s5.2
 refine ⟨?_, hg⟩
 have := s5.1
 rw [flatS_set x u hl hk] at this
 exact this
theorem flat_cells {w : World} {B g n cap k : Nat} {xs : List Stp} {us : List Value} {x : Stp} {u : Value} (h : w.ownsRow B 34 5 (.slice (some ⟨g, 0, none⟩) n cap) n (flatS xs us)) (hk : k < n) (hx : xs[k]? = some x) (hu : us[k]? = some u) :
  (w.cell? ⟨g, k * 5, none⟩ = some (.int .i64 x.k) ∧ w.cell? ⟨g, k * 5 + 1, none⟩ = some (.int .i64 x.a) ∧ w.cell? ⟨g, k * 5 + 2, none⟩ = some (.int .i64 x.b) ∧ w.cell? ⟨g, k * 5 + 3, none⟩ = some (.int .i64 x.c) ∧ w.cell? ⟨g, k * 5 + 4, none⟩ = some u) ∧
   (w.frozen? ⟨g, k * 5, none⟩ = false ∧ w.frozen? ⟨g, k * 5 + 1, none⟩ = false ∧ w.frozen? ⟨g, k * 5 + 2, none⟩ = false ∧ w.frozen? ⟨g, k * 5 + 3, none⟩ = false ∧ w.frozen? ⟨g, k * 5 + 4, none⟩ = false) := by
 have hj : ∀ j, j < 5 → w.cell? ⟨g, k * 5 + j, none⟩ = (stpCells x u)[j]? := fun j h5 => by rw [h.cellAt _ (by omega), flatS_get h5 hx hu]
 have hf := h.frozenAt
 exact ⟨⟨hj 0 (by decide), hj 1 (by decide), hj 2 (by decide), hj 3 (by decide), hj 4 (by decide)⟩, ⟨hf _, hf _, hf _, hf _, hf _⟩⟩
/-- Two steps change places. -/
theorem OwnStepsW.swap {w : World} {B g n cap i j : Nat} {xs : List Stp} {us : List Value} {ui uj : Value} {xi xj : Stp} (hn : n = xs.length) (h : OwnStepsW w B (.slice (some ⟨g, 0, none⟩) n cap) xs us)
  (hi : us[i]? = some ui) (hj : us[j]? = some uj) (hxi : xs[i]? = some xi) (hxj : xs[j]? = some xj) :
  OwnStepsW (setStp (setStp w g (i * 5) xj uj) g (j * 5) xi ui) B (.slice (some ⟨g, 0, none⟩) n cap) ((xs.set i xj).set j xi) ((us.set i uj).set j ui) ∧ w.grownBy (setStp (setStp w g (i * 5) xj uj) g (j * 5) xi ui) (some g) := by
 subst hn
 have hil := (List.getElem?_eq_some_iff.1 hxi).1
 have hjl := (List.getElem?_eq_some_iff.1 hxj).1
 have h1 := setStp_own rfl h.len h.outer hil xj uj
 have h2 := setStp_own (xs := xs.set i xj) (us := us.set i uj) (by simp) (by simp [h.len]) h1.1 hjl xi ui
 refine ⟨⟨by simp [h.len], by simpa using h2.1, fun k u r hu hr => ?_, fun k l u u' b hu hu' hb hb' => ?_⟩, grownBy_trans h1.2 h2.2⟩
 ·rw [swap_get hi hj] at hu
  rw [swap_get hxi hxj] at hr
  have ho := h.each _ u r hu hr
  have hap := apart_ty (by decide) ho h.outer
  exact OwnInts.kept (OwnInts.kept ho h1.2 hap) h2.2 hap
 ·rw [swap_get hi hj] at hu hu'
  exact sw_inj (h.apart _ _ u u' b hu hu' hb hb')
def RevPost (B : Nat) (A : Option Addr) (cap : Nat) (xs : List Stp) (w : World) (e : Ending) (w' : World) : Prop :=
 e = .returned (.tuple #[]) ∧ OwnSteps w' B (.slice A xs.length cap) xs.reverse ∧ w.grownBy w' (Value.slice A xs.length cap).ownBlock
def RevRel (B g cap : Nat) (xs : List Stp) (w : World) (k : Nat) (wr : World) : Prop :=
 2 * k ≤ xs.length ∧ (∃ us, OwnStepsW wr B (.slice (some ⟨g, 0, none⟩) xs.length cap) (revTo xs k) us) ∧ w.grownBy wr (some g)
set_option maxRecDepth 100000 in
set_option maxHeartbeats 4000000 in
theorem reverseS_any (B : Nat) (A : Option Addr) (cap : Nat) (xs : List Stp) (w : World) (h : OwnSteps w B (.slice A xs.length cap) xs) (hn : xs.length ≤ 1048576) :
  Calls Tryz.prog 104 #[.slice A xs.length cap] w (RevPost B A cap xs w) := by
 by_cases h1 : xs.length ≤ 1
 ·have HR := Lib.hid (show xs.reverse = xs by
   match xs, h1 with
   | [], _ => rfl
   | [x], _ => rfl)
  have HH := Lib.hid h
  clear h
  go_enter Tryz.func104, Tryz.ntmps104
  go_wp2
  go_loopw [2, 3] (fun i j wr => i = .int .i64 0 ∧ j = .int .i64 ((xs.length : Int) - 1) ∧ wr = w) (fun _ _ _ => 0)
  case atStart => exact ⟨rfl, rfl, rfl⟩
  case round =>
   obtain ⟨rfl, rfl, rfl⟩ := hrel
   go_wp2
   go_end0
   exact ⟨rfl, by rw [HR.out]; exact HH.out, grown_refl _ _⟩
 ·obtain ⟨us, hus⟩ := h
  obtain ⟨g, cap', hv, hg1, hg2⟩ := World.ownsRow.form hus.outer (by omega)
  simp only [Value.slice.injEq] at hv
  obtain ⟨rfl, -, rfl⟩ := hv
  have HU := Lib.hid hus
  clear hus
  go_enter Tryz.func104, Tryz.ntmps104
  go_wp2
  go_loopw [2, 3] (fun i j wr => ∃ (k : Nat) (q : Int), i = .int .i64 k ∧ j = .int .i64 q ∧ Hid (q = (xs.length : Int) - 1 - k) ∧ RevRel B g cap xs w k wr) (fun i _ _ => xs.length - (intOf i).toNat)
  case atStart => exact ⟨0, _, rfl, rfl, Lib.hid (by simp), by omega, ⟨us, HU.out⟩, grown_refl _ _⟩
  case round =>
   obtain ⟨k, q, rfl, rfl, HQ, hk2, ⟨vs, hown⟩, hgr⟩ := hrel
   clear HU
   have HO := Lib.hid hown; have HG := Lib.hid hgr
   clear hown hgr
   by_cases hlt : (k : Int) < q
   ·obtain ⟨j, hj⟩ : ∃ j : Nat, j = xs.length - 1 - k := ⟨_, rfl⟩
    have hqj : q = (j : Int) := by have := HQ.out; omega
    subst hqj
    have hkj : k < j := by omega
    have hjn : j < xs.length := by omega
    have hkn : k < xs.length := by omega
    have HJ := Lib.hid hj
    clear hj
    have hlen := Lib.hid (revTo_len xs k)
    obtain ⟨xi, hxi⟩ := get_of_lt (show k < (revTo xs k).length by rw [hlen.out]; exact hkn)
    obtain ⟨xj, hxj⟩ := get_of_lt (show j < (revTo xs k).length by rw [hlen.out]; exact hjn)
    obtain ⟨ui, hui, hoi⟩ := HO.out.get hxi
    obtain ⟨uj, huj, hoj⟩ := HO.out.get hxj
    obtain ⟨Ai, ci, rfl, _⟩ := hoi.view
    obtain ⟨Aj, cj, rfl, _⟩ := hoj.view
    have HXI := Lib.hid hxi; have HXJ := Lib.hid hxj; have HUI := Lib.hid hui; have HUJ := Lib.hid huj
    clear hxi hxj hui huj hoi hoj
    go_wp2
    refine wp_region_held_drew (S := fun _ => True) (by kernel_rfl) trivial (fun hHeld => ?_)
    obtain ⟨W0, hW0⟩ : ∃ W0, W0 = wr.drew := ⟨_, rfl⟩
    rw [← hW0]
    have hb0 : Below wr.heap.size wr W0 := by rw [hW0]; exact (Below.refl _ _).drew
    have HO0 := Lib.hid (HO.out.ext hb0)
    have HG0 := Lib.hid (grownBy_trans HG.out ((⟨hb0.os, hb0.tape, hb0.output, hb0.size, fun k hk _ => hb0.block k hk⟩ : World.grownBy wr W0 (some g))))
    clear hb0 hW0
    have hou0 := HO0.out.outer
    rw [hlen.out] at hou0
    obtain ⟨⟨a0, a1, a2, a3, a4⟩, ⟨f0, f1, f2, f3, f4⟩⟩ := flat_cells hou0 hkn HXI.out HUI.out
    obtain ⟨⟨b0, b1, b2, b3, b4⟩, _⟩ := flat_cells hou0 hjn HXJ.out HUJ.out
    have hst := setStp_own hlen.out.symm HO0.out.len hou0 hkn xj (.slice Aj xj.row.length cj)
    have HST := Lib.hid hst.1
    have hsw := HO0.out.swap hlen.out.symm HUI.out HUJ.out HXI.out HXJ.out
    have HSW := Lib.hid hsw.1; have HSG := Lib.hid hsw.2
    clear hou0 hst hsw
    refine takeHQ 0 (v := ?_) rfl (Or.inl ⟨by rfl, ?_⟩) ?_
    rotate_left
    ·intro w h; (try dsimp only at h); go_simp; (try with_reducible rfl)
    simp only [Act.put, List.setIfInBounds_toArray, List.set_cons_zero, List.set_cons_succ]
    refine takeHQ 1 (v := ?_) rfl (Or.inl ⟨by rfl, ?_⟩) ?_
    rotate_left
    ·intro w h; (try dsimp only at h); go_simp; (try with_reducible rfl)
    simp only [Act.put, List.setIfInBounds_toArray, List.set_cons_zero, List.set_cons_succ]
    refine takeHQ 2 (v := ?_) rfl (Or.inl ⟨by rfl, ?_⟩) ?_
    rotate_left
    ·intro w h; (try dsimp only at h); go_simp; (try with_reducible rfl)
    simp only [Act.put, List.setIfInBounds_toArray, List.set_cons_zero, List.set_cons_succ]
    refine takeHQ 3 (v := ?_) rfl (Or.inl ⟨by rfl, ?_⟩) ?_
    rotate_left
    ·intro w h; (try dsimp only at h); go_simp; (try with_reducible rfl)
    simp only [Act.put, List.setIfInBounds_toArray, List.set_cons_zero, List.set_cons_succ]
    refine takeHQ 4 (v := ?_) rfl (Or.inl ⟨by rfl, ?_⟩) ?_
    rotate_left
    ·intro w h; (try dsimp only at h); go_simp; (try with_reducible rfl)
    simp only [Act.put, List.setIfInBounds_toArray, List.set_cons_zero, List.set_cons_succ]
    refine takeHQ 5 (v := ?_) rfl (Or.inl ⟨by rfl, ?_⟩) ?_
    rotate_left
    ·intro w h; (try dsimp only at h); go_simp; (try with_reducible rfl)
    simp only [Act.put, List.setIfInBounds_toArray, List.set_cons_zero, List.set_cons_succ]
    refine takeHQ 6 (v := ?_) rfl (Or.inl ⟨by rfl, ?_⟩) ?_
    rotate_left
    ·intro w h; (try dsimp only at h); go_simp; (try with_reducible rfl)
    simp only [Act.put, List.setIfInBounds_toArray, List.set_cons_zero, List.set_cons_succ]
    refine takeHQ 8 (v := ?_) rfl (Or.inl ⟨by rfl, ?_⟩) ?_
    rotate_left
    ·intro w h; (try dsimp only at h); go_simp; (try with_reducible rfl)
    simp only [Act.put, List.setIfInBounds_toArray, List.set_cons_zero, List.set_cons_succ]
    refine takeHQ 9 (v := ?_) rfl (Or.inl ⟨by rfl, ?_⟩) ?_
    rotate_left
    ·intro w h; (try dsimp only at h); go_simp; (try with_reducible rfl)
    simp only [Act.put, List.setIfInBounds_toArray, List.set_cons_zero, List.set_cons_succ]
    refine takeHQ 10 (v := ?_) rfl (Or.inl ⟨by rfl, ?_⟩) ?_
    rotate_left
    ·intro w h; (try dsimp only at h); go_simp; (try with_reducible rfl)
    simp only [Act.put, List.setIfInBounds_toArray, List.set_cons_zero, List.set_cons_succ]
    refine wpAnyH_ready (rs := [7, 11]) (by kernel_rfl) (by simp) ?_
    refine consH rfl (fun K hK => ?_) (consH rfl (fun K hK => ?_) AllReadyH.nil)
    ·go_simp
     refine hK.out _ _ (by assumption) (fun hHeld => ?_)
     clear hK K
     try simp only [Act.put, List.setIfInBounds_toArray, List.set_cons_zero, List.set_cons_succ]
     refine wpAnyH_ready (rs := [11]) (by kernel_rfl) (by simp) ?_
     refine consH rfl (fun K hK => ?_) AllReadyH.nil
     go_simp
     refine hK.out _ _ (by assumption) (fun hHeld => ?_)
     clear hK K
     try simp only [Act.put, List.setIfInBounds_toArray, List.set_cons_zero, List.set_cons_succ]
     refine takeHQ 12 (v := ?_) rfl (Or.inl ⟨by rfl, ?_⟩) ?_
     rotate_left
     ·intro w h; (try dsimp only at h); go_simp; (try with_reducible rfl)
     simp only [Act.put, List.setIfInBounds_toArray, List.set_cons_zero, List.set_cons_succ]
     refine wpAnyH_ready (rs := [13]) (by kernel_rfl) (by simp) ?_
     refine consH rfl (fun K hK => ?_) AllReadyH.nil
     go_simp
     refine hK.out _ _ (by assumption) (fun hHeld => ?_)
     clear hK K a0 a1 a2 a3 a4 b0 b1 b2 b3 b4 f0 f1 f2 f3 f4
     try simp only [Act.put, List.setIfInBounds_toArray, List.set_cons_zero, List.set_cons_succ]
     obtain ⟨W3, hW3⟩ : ∃ W3, W3 = setStp W0 g (k * 5) xj (.slice Aj xj.row.length cj) := ⟨_, rfl⟩
     have hW3' := hW3
     unfold setStp at hW3'
     rw [← hW3']
     clear hW3'
     rw [← hW3] at HST HSW HSG
     clear hW3
     obtain ⟨⟨b0, b1, b2, b3, b4⟩, ⟨f0, f1, f2, f3, f4⟩⟩ := flat_cells HST.out hjn (x := xj) (u := .slice Aj xj.row.length cj) (by rw [List.getElem?_set_ne (by omega)]; exact HXJ.out) (by rw [List.getElem?_set_ne (by omega)]; exact HUJ.out)
     refine takeHQ 14 (v := ?_) rfl (Or.inl ⟨by rfl, ?_⟩) ?_
     rotate_left
     ·intro w h; (try dsimp only at h); go_simp; (try with_reducible rfl)
     simp only [Act.put, List.setIfInBounds_toArray, List.set_cons_zero, List.set_cons_succ]
     refine wpAnyH_ready (rs := [15]) (by kernel_rfl) (by simp) ?_
     refine consH rfl (fun K hK => ?_) AllReadyH.nil
     go_simp
     refine hK.out _ _ (by assumption) (fun hHeld => ?_)
     clear hK K b0 b1 b2 b3 b4 f0 f1 f2 f3 f4
     refine wpAnyH_done (by kernel_rfl) ?_ _
     clear hHeld
     try dsimp only
     obtain ⟨W5, hW5⟩ : ∃ W5, W5 = setStp W3 g (j * 5) xi (.slice Ai xi.row.length ci) := ⟨_, rfl⟩
     have hW5' := hW5
     unfold setStp at hW5'
     rw [← hW5']
     clear hW5'
     rw [← hW5] at HSW HSG
     clear hW5
     go_wp2
     go_roundw
     case rel =>
      refine ⟨k + 1, _, by go_num, rfl, Lib.hid (by have := HQ.out; omega), by have := HJ.out; omega, ⟨(vs.set k (.slice Aj xj.row.length cj)).set j (.slice Ai xi.row.length ci), ?_⟩, grownBy_trans HG0.out HSG.out⟩
      have e := revTo_succ (xs := xs) HXI.out (by rw [← HJ.out]; exact HXJ.out)
      rw [e, ← HJ.out]
      exact HSW.out
     case measure => simp [intOf]; omega
    ·go_simp
     refine hK.out _ _ (by assumption) (fun hHeld => ?_)
     clear hK K
     try simp only [Act.put, List.setIfInBounds_toArray, List.set_cons_zero, List.set_cons_succ]
     refine wpAnyH_ready (rs := [7]) (by kernel_rfl) (by simp) ?_
     refine consH rfl (fun K hK => ?_) AllReadyH.nil
     go_simp
     refine hK.out _ _ (by assumption) (fun hHeld => ?_)
     clear hK K
     try simp only [Act.put, List.setIfInBounds_toArray, List.set_cons_zero, List.set_cons_succ]
     refine takeHQ 12 (v := ?_) rfl (Or.inl ⟨by rfl, ?_⟩) ?_
     rotate_left
     ·intro w h; (try dsimp only at h); go_simp; (try with_reducible rfl)
     simp only [Act.put, List.setIfInBounds_toArray, List.set_cons_zero, List.set_cons_succ]
     refine wpAnyH_ready (rs := [13]) (by kernel_rfl) (by simp) ?_
     refine consH rfl (fun K hK => ?_) AllReadyH.nil
     go_simp
     refine hK.out _ _ (by assumption) (fun hHeld => ?_)
     clear hK K a0 a1 a2 a3 a4 b0 b1 b2 b3 b4 f0 f1 f2 f3 f4
     try simp only [Act.put, List.setIfInBounds_toArray, List.set_cons_zero, List.set_cons_succ]
     obtain ⟨W3, hW3⟩ : ∃ W3, W3 = setStp W0 g (k * 5) xj (.slice Aj xj.row.length cj) := ⟨_, rfl⟩
     have hW3' := hW3
     unfold setStp at hW3'
     rw [← hW3']
     clear hW3'
     rw [← hW3] at HST HSW HSG
     clear hW3
     obtain ⟨⟨b0, b1, b2, b3, b4⟩, ⟨f0, f1, f2, f3, f4⟩⟩ := flat_cells HST.out hjn (x := xj) (u := .slice Aj xj.row.length cj) (by rw [List.getElem?_set_ne (by omega)]; exact HXJ.out) (by rw [List.getElem?_set_ne (by omega)]; exact HUJ.out)
     refine takeHQ 14 (v := ?_) rfl (Or.inl ⟨by rfl, ?_⟩) ?_
     rotate_left
     ·intro w h; (try dsimp only at h); go_simp; (try with_reducible rfl)
     simp only [Act.put, List.setIfInBounds_toArray, List.set_cons_zero, List.set_cons_succ]
     refine wpAnyH_ready (rs := [15]) (by kernel_rfl) (by simp) ?_
     refine consH rfl (fun K hK => ?_) AllReadyH.nil
     go_simp
     refine hK.out _ _ (by assumption) (fun hHeld => ?_)
     clear hK K b0 b1 b2 b3 b4 f0 f1 f2 f3 f4
     refine wpAnyH_done (by kernel_rfl) ?_ _
     clear hHeld
     try dsimp only
     obtain ⟨W5, hW5⟩ : ∃ W5, W5 = setStp W3 g (j * 5) xi (.slice Ai xi.row.length ci) := ⟨_, rfl⟩
     have hW5' := hW5
     unfold setStp at hW5'
     rw [← hW5']
     clear hW5'
     rw [← hW5] at HSW HSG
     clear hW5
     go_wp2
     go_roundw
     case rel =>
      refine ⟨k + 1, _, by go_num, rfl, Lib.hid (by have := HQ.out; omega), by have := HJ.out; omega, ⟨(vs.set k (.slice Aj xj.row.length cj)).set j (.slice Ai xi.row.length ci), ?_⟩, grownBy_trans HG0.out HSG.out⟩
      have e := revTo_succ (xs := xs) HXI.out (by rw [← HJ.out]; exact HXJ.out)
      rw [e, ← HJ.out]
      exact HSW.out
     case measure => simp [intOf]; omega
   ·have HNL := Lib.hid (show xs.length ≤ 2 * k + 1 by have := HQ.out; omega)
    go_wp2
    go_end0
    have := HO.out
    rw [revTo_all xs k hk2 HNL.out] at this
    exact ⟨rfl, ⟨_, this⟩, HG.out⟩
def powN : Nat → Int → Int → Int → Int → Int
 | 0, _, out, _, _ => out
 | f + 1, p, out, a, n => if 0 < n then powN f p (if n % 2 = 1 then out * a % p else out) (a * a % p) (n / 2) else out
def findN : Nat → Int → Int → Int → Int
 | 0, _, _, _ => 0
 | f + 1, p, a, x => if x < p then (if a * x % p = 1 then x else findN f p a (x + 1)) else 0
/-- The inverse. -/
def invP (p a : Int) : Int := findN 97 p a 1
def expP (p : Int) : Int := p - 2 + (if p = 2 then 1 else 0)
theorem inv_all : ((List.range 98).all fun p => (!fieldB (p : Nat)) || (List.range p).all fun a => decide (a = 0) || decide (powN 7 (p : Nat) (1 % (p : Nat)) (a : Nat) (expP (p : Nat)) = invP (p : Nat) (a : Nat))) = true := by decide +kernel
theorem inv_eq {p a : Int} (h : fieldB p = true) (h1 : 1 ≤ a) (h2 : a < p) : powN 7 p (1 % p) a (expP p) = invP p a := by
 obtain ⟨b1, b2⟩ := fieldB_bd h
 obtain ⟨q, rfl⟩ := Int.eq_ofNat_of_zero_le (show 0 ≤ p by omega)
 obtain ⟨c, rfl⟩ := Int.eq_ofNat_of_zero_le (show 0 ≤ a by omega)
 have h3 := List.all_eq_true.1 inv_all q (List.mem_range.2 (by omega))
 rw [h] at h3
 simp only [Bool.not_true, Bool.false_or, List.all_eq_true, List.mem_range, Bool.or_eq_true, decide_eq_true_eq] at h3
 rcases h3 c (by omega) with h4 | h4
 ·omega
 ·exact h4
theorem bit_any (b : Bool) (w : World) : Calls Tryz.prog 128 #[.bool b] w fun e w' => e = .returned (.int .i64 (if b = true then 1 else 0)) ∧ w = w' := by
 cases b
 all_goals
  go_enter Tryz.func128, Tryz.ntmps128
  go_wp2
  go_ret
  exact ⟨by simp, rfl⟩
theorem fdNeg_any (p a : Int) (w : World) (hp : 2 ≤ p) (hp' : p ≤ 97) (ha : 0 ≤ a) (ha' : a < p) : Calls Tryz.prog 97 #[.int .i64 p, .int .i64 a] w fun e w' => e = .returned (.int .i64 ((p - a) % p)) ∧ w = w' := by
 go_enter Tryz.func97, Tryz.ntmps97
 go_wp2
 go_ret
 exact ⟨rfl, rfl⟩
theorem mul97 {x y : Int} (h1 : 0 ≤ x) (h2 : x ≤ 97) (h3 : 0 ≤ y) (h4 : y ≤ 97) : 0 ≤ x * y ∧ x * y ≤ 9409 := by
 constructor
 ·exact Int.mul_nonneg h1 h3
 ·calc x * y ≤ 97 * y := Int.mul_le_mul_of_nonneg_right h2 h3
   _ ≤ 97 * 97 := Int.mul_le_mul_of_nonneg_left h4 (by omega)
   _ ≤ 9409 := by omega
set_option maxHeartbeats 1000000 in
theorem power_any (p a n : Int) (w : World) (hp : 2 ≤ p) (hp' : p ≤ 97) (ha : 0 ≤ a) (ha' : a ≤ 97) (hn : 0 ≤ n) (hn' : n < 128) :
  Calls Tryz.prog 127 #[.int .i64 p, .int .i64 a, .int .i64 n] w fun e w' => e = .returned (.int .i64 (powN 7 p (1 % p) a n)) ∧ w = w' := by
 have h10 : 0 ≤ 1 % p := Int.emod_nonneg _ (by omega)
 have h11 : 1 % p < p := Int.emod_lt_of_pos _ (by omega)
 obtain ⟨R, hR⟩ : ∃ R, R = powN 7 p (1 % p) a n := ⟨_, rfl⟩
 rw [← hR]
 have HR := Lib.hid hR
 clear hR
 go_enter Tryz.func127, Tryz.ntmps127
 go_wp2
 go_loop [1, 2, 7] (fun x y z => ∃ (f : Nat) (b m o : Int), x = .int .i64 b ∧ y = .int .i64 m ∧ z = .int .i64 o ∧ 0 ≤ b ∧ b ≤ 97 ∧ 0 ≤ o ∧ o ≤ 97 ∧ 0 ≤ m ∧ m < 2 ^ f ∧ m < 128 ∧ R = powN f p o b m) (fun _ y _ => (intOf y).toNat)
 case atStart => exact ⟨7, _, _, _, rfl, rfl, rfl, by omega, by omega, by omega, by omega, by omega, by omega, by omega, HR.out⟩
 case round =>
  obtain ⟨f, b, m, o, rfl, rfl, rfl, hb, hb', ho, ho', hm, hmf, hm2, hr⟩ := hrel
  have HRR := Lib.hid hr; have HF := Lib.hid hmf
  clear hr hmf HR
  by_cases h0 : 0 < m
  ·obtain ⟨e1, e2⟩ := mul97 hb hb' hb hb'
   obtain ⟨e3, e4⟩ := mul97 ho ho' hb hb'
   have g1 : 0 ≤ b * b % p := Int.emod_nonneg _ (by omega)
   have g2 : b * b % p < p := Int.emod_lt_of_pos _ (by omega)
   have g3 : 0 ≤ o * b % p := Int.emod_nonneg _ (by omega)
   have g4 : o * b % p < p := Int.emod_lt_of_pos _ (by omega)
   have fs : ∃ f', f = f' + 1 := by
    cases f with
    | zero => have := HF.out; simp at this; omega
    | succ f => exact ⟨f, rfl⟩
   obtain ⟨f', rfl⟩ := fs
   have HM := Lib.hid (show m / 2 < 2 ^ f' by have := HF.out; rw [Int.pow_succ] at this; omega)
   by_cases hodd : m % 2 = 1
   ·have hob : (m % 2 == 1) = true := by simp [hodd]
    have HO := Lib.hid hodd; clear hodd
    go_wp2
    go_round
    case rel => exact ⟨f', _, _, _, rfl, rfl, rfl, by omega, by omega, by omega, by omega, by omega, HM.out, by omega, by rw [HRR.out, powN, if_pos h0, if_pos HO.out]⟩
    case measure => simp [intOf]; omega
   ·have hob : (m % 2 == 1) = false := by simp [hodd]
    have HO := Lib.hid hodd; clear hodd
    go_wp2
    go_round
    case rel => exact ⟨f', _, _, _, rfl, rfl, rfl, by omega, by omega, by omega, by omega, by omega, HM.out, by omega, by rw [HRR.out, powN, if_pos h0, if_neg HO.out]⟩
    case measure => simp [intOf]; omega
  ·have H0 := Lib.hid h0
   go_wp2
   go_ret
   exact ⟨ret_int (by rw [HRR.out]; cases f with | zero => rfl | succ f => rw [powN, if_neg (by have := H0.out; omega)]), rfl⟩
theorem inverse_any (p a : Int) (w : World) (hf : fieldB p = true) (ha : 1 ≤ a) (ha' : a < p) :
  Calls Tryz.prog 116 #[.int .i64 p, .int .i64 a] w fun e w' => e = .returned (.int .i64 (invP p a)) ∧ w = w' := by
 obtain ⟨hp, hp'⟩ := fieldB_bd hf
 have HF := Lib.hid hf
 clear hf
 by_cases h2 : p = 2
 ·have hb : (p == 2) = true := by simp [h2]
  have HI := Lib.hid (show powN 7 p (1 % p) a (p - 2 + 1) = invP p a by rw [← inv_eq HF.out ha ha', expP, if_pos h2])
  have H2 := Lib.hid h2
  clear h2
  go_enter Tryz.func116, Tryz.ntmps116
  go_wp2_with (first | (go_at_call 128; refine (bit_any true _).mono ?_; rintro e w' ⟨rfl, rfl⟩) | (go_at_call 127; refine (power_any p a _ _ hp hp' (by omega) (by omega) (by omega) (by omega)).mono ?_; rintro e w' ⟨rfl, rfl⟩))
  go_ret
  exact ⟨ret_int (by first | exact HI.out | (simpa using HI.out)), rfl⟩
 ·have hb : (p == 2) = false := by simp [h2]
  have HI := Lib.hid (show powN 7 p (1 % p) a (p - 2) = invP p a by rw [← inv_eq HF.out ha ha', expP, if_neg h2, Int.add_zero])
  have H2 := Lib.hid h2
  clear h2
  go_enter Tryz.func116, Tryz.ntmps116
  go_wp2_with (first | (go_at_call 128; refine (bit_any false _).mono ?_; rintro e w' ⟨rfl, rfl⟩) | (go_at_call 127; refine (power_any p a _ _ hp hp' (by omega) (by omega) (by omega) (by omega)).mono ?_; rintro e w' ⟨rfl, rfl⟩))
  go_ret
  exact ⟨ret_int (by first | exact HI.out | (simpa using HI.out)), rfl⟩
set_option maxHeartbeats 1000000 in
theorem fdInv_any (p a : Int) (w : World) (hp : 2 ≤ p) (hp' : p ≤ 97) (ha : 0 ≤ a) (ha' : a < p) :
  Calls Tryz.prog 96 #[.int .i64 p, .int .i64 a] w fun e w' => e = .returned (.int .i64 (invP p a)) ∧ w = w' := by
 obtain ⟨R, hR⟩ : ∃ R, R = invP p a := ⟨_, rfl⟩
 rw [← hR]
 have HR := Lib.hid hR
 clear hR
 go_enter Tryz.func96, Tryz.ntmps96
 go_wp2
 go_loop [5] (fun x => ∃ (f : Nat) (m : Int), x = .int .i64 m ∧ 1 ≤ m ∧ m ≤ p ∧ p - m < f ∧ R = findN f p a m) (fun x => (p - intOf x).toNat)
 case atStart => exact ⟨97, 1, rfl, by omega, by omega, by omega, HR.out⟩
 case round =>
  obtain ⟨f, m, rfl, hm, hm', hf, hr⟩ := hrel
  have HRR := Lib.hid hr
  clear hr HR
  obtain ⟨e1, e2⟩ := mul97 ha (by omega) (show 0 ≤ m by omega) (by omega)
  obtain ⟨f', rfl⟩ : ∃ f', f = f' + 1 := ⟨f - 1, by omega⟩
  by_cases hlt : m < p
  ·by_cases h1 : a * m % p = 1
   ·have hb : (a * m % p == 1) = true := by simp [h1]
    have H1 := Lib.hid h1; clear h1
    go_wp2
    go_ret
    exact ⟨ret_int (by rw [HRR.out, findN, if_pos hlt, if_pos H1.out]), rfl⟩
   ·have hb : (a * m % p == 1) = false := by simp [h1]
    have H1 := Lib.hid h1; clear h1
    go_wp2
    go_round
    case rel => exact ⟨f', _, rfl, by omega, by omega, by omega, by rw [HRR.out, findN, if_pos hlt, if_neg H1.out]⟩
    case measure => simp [intOf]; omega
  ·go_wp2
   go_ret
   exact ⟨ret_int (by rw [HRR.out, findN, if_neg (by omega)]), rfl⟩
set_option maxHeartbeats 1000000 in
theorem und_swap (a b p v h : Int) (A : Option Addr) (cap : Nat) (rows : List (List Int)) (w : World) :
  Calls Tryz.prog 163 #[.agg #[.int .i64 a, .int .i64 b], .int .i64 p, .agg #[.int .i64 v, .int .i64 h, .slice A rows.length cap]] w fun e w' => ∃ u, e = .returned (.agg #[.int .i64 1, .int .i64 a, .int .i64 b, .int .i64 0, u]) ∧ OwnInts w' w.heap.size u [] ∧ Below w.heap.size w w' := by
 go_enter Tryz.func163, Tryz.ntmps163
 go_wp2
 refine bodyPost_ret (v := .agg #[.int .i64 1, .int .i64 a, .int .i64 b, .int .i64 0, .slice none 0 0]) (by simp [results, Tryz.results163, go_sem]) rfl ⟨_, rfl, OwnInts.nil _ _, ?_⟩
 exact below_alloc3 w _ _ _
set_option maxHeartbeats 1000000 in
theorem und_drop (a p v h : Int) (A : Option Addr) (cap : Nat) (rows : List (List Int)) (w : World) :
  Calls Tryz.prog 173 #[.agg #[.int .i64 a], .int .i64 p, .agg #[.int .i64 v, .int .i64 h, .slice A rows.length cap]] w fun e w' => ∃ u, e = .returned (.agg #[.int .i64 5, .int .i64 a, .int .i64 0, .int .i64 0, u]) ∧ OwnInts w' w.heap.size u [] ∧ Below w.heap.size w w' := by
 go_enter Tryz.func173, Tryz.ntmps173
 go_wp2
 refine bodyPost_ret (v := .agg #[.int .i64 5, .int .i64 a, .int .i64 0, .int .i64 0, .slice none 0 0]) (by simp [results, Tryz.results173, go_sem]) rfl ⟨_, rfl, OwnInts.nil _ _, ?_⟩
 exact below_alloc3 w _ _ _
set_option maxHeartbeats 1000000 in
theorem und_put (a p v h : Int) (A : Option Addr) (cap : Nat) (rows : List (List Int)) (w : World) :
  Calls Tryz.prog 179 #[.agg #[.int .i64 a], .int .i64 p, .agg #[.int .i64 v, .int .i64 h, .slice A rows.length cap]] w fun e w' => ∃ u, e = .returned (.agg #[.int .i64 4, .int .i64 a, .int .i64 0, .int .i64 0, u]) ∧ OwnInts w' w.heap.size u [] ∧ Below w.heap.size w w' := by
 go_enter Tryz.func179, Tryz.ntmps179
 go_wp2
 refine bodyPost_ret (v := .agg #[.int .i64 4, .int .i64 a, .int .i64 0, .int .i64 0, .slice none 0 0]) (by simp [results, Tryz.results179, go_sem]) rfl ⟨_, rfl, OwnInts.nil _ _, ?_⟩
 exact below_alloc3 w _ _ _
set_option maxHeartbeats 1000000 in
theorem und_bring (a b p v h : Int) (A : Option Addr) (cap : Nat) (rows : List (List Int)) (w : World) (XA : Option Addr) (n xcap : Nat) :
  Calls Tryz.prog 194 #[.agg #[.int .i64 a, .int .i64 b, .slice XA n xcap], .int .i64 p, .agg #[.int .i64 v, .int .i64 h, .slice A rows.length cap]] w fun e w' => ∃ u, e = .returned (.agg #[.int .i64 6, .int .i64 a, .int .i64 b, .int .i64 0, u]) ∧ OwnInts w' w.heap.size u [] ∧ Below w.heap.size w w' := by
 go_enter Tryz.func194, Tryz.ntmps194
 go_wp2
 refine bodyPost_ret (v := .agg #[.int .i64 6, .int .i64 a, .int .i64 b, .int .i64 0, .slice none 0 0]) (by simp [results, Tryz.results194, go_sem]) rfl ⟨_, rfl, OwnInts.nil _ _, ?_⟩
 exact below_alloc3 w _ _ _
set_option maxHeartbeats 1000000 in
theorem und_forget (b p v h : Int) (A : Option Addr) (cap : Nat) (rows : List (List Int)) (w : World) :
  Calls Tryz.prog 203 #[.agg #[.int .i64 b], .int .i64 p, .agg #[.int .i64 v, .int .i64 h, .slice A rows.length cap]] w fun e w' => ∃ u, e = .returned (.agg #[.int .i64 9, .int .i64 0, .int .i64 b, .int .i64 0, u]) ∧ OwnInts w' w.heap.size u [] ∧ Below w.heap.size w w' := by
 go_enter Tryz.func203, Tryz.ntmps203
 go_wp2
 refine bodyPost_ret (v := .agg #[.int .i64 9, .int .i64 0, .int .i64 b, .int .i64 0, .slice none 0 0]) (by simp [results, Tryz.results203, go_sem]) rfl ⟨_, rfl, OwnInts.nil _ _, ?_⟩
 exact below_alloc3 w _ _ _
set_option maxHeartbeats 1000000 in
theorem und_invent (b p v h : Int) (A : Option Addr) (cap : Nat) (rows : List (List Int)) (w : World) :
  Calls Tryz.prog 206 #[.agg #[.int .i64 b], .int .i64 p, .agg #[.int .i64 v, .int .i64 h, .slice A rows.length cap]] w fun e w' => ∃ u, e = .returned (.agg #[.int .i64 8, .int .i64 0, .int .i64 b, .int .i64 0, u]) ∧ OwnInts w' w.heap.size u [] ∧ Below w.heap.size w w' := by
 go_enter Tryz.func206, Tryz.ntmps206
 go_wp2
 refine bodyPost_ret (v := .agg #[.int .i64 8, .int .i64 0, .int .i64 b, .int .i64 0, .slice none 0 0]) (by simp [results, Tryz.results206, go_sem]) rfl ⟨_, rfl, OwnInts.nil _ _, ?_⟩
 exact below_alloc3 w _ _ _
set_option maxHeartbeats 2000000 in
theorem und_scale (a c p v h : Int) (A : Option Addr) (cap : Nat) (rows : List (List Int)) (w : World) (hf : fieldB p = true) (hc : 1 ≤ c) (hc' : c < p) :
  Calls Tryz.prog 167 #[.agg #[.int .i64 a, .int .i64 c], .int .i64 p, .agg #[.int .i64 v, .int .i64 h, .slice A rows.length cap]] w fun e w' => ∃ u, e = .returned (.agg #[.int .i64 2, .int .i64 a, .int .i64 0, .int .i64 (invP p c), u]) ∧ OwnInts w' w.heap.size u [] ∧ Below w.heap.size w w' := by
 have HF := Lib.hid hf
 clear hf
 go_enter Tryz.func167, Tryz.ntmps167
 go_wp2
 go_region_held3 (fun W => W.cell? ⟨w.heap.size, 0, none⟩ = some (.int .i64 a) ∧ W.cell? ⟨w.heap.size, 1, none⟩ = some (.int .i64 c)) (go_keep)
  ((go_at_call 116; refine (inverse_any p c _ HF.out hc hc').mono ?_; rintro e w' ⟨rfl, rfl⟩))
 go_wp2
 refine bodyPost_ret (v := .agg #[.int .i64 2, .int .i64 a, .int .i64 0, .int .i64 (invP p c), .slice none 0 0]) (by simp [results, Tryz.results167, go_sem]) rfl ⟨_, rfl, OwnInts.nil _ _, ?_⟩
 exact (below_alloc3 w _ _ _).drew
set_option maxHeartbeats 2000000 in
theorem und_add (a b c p v h : Int) (A : Option Addr) (cap : Nat) (rows : List (List Int)) (w : World) (hp : 2 ≤ p) (hp' : p ≤ 97) (hc : 0 ≤ c) (hc' : c < p) :
  Calls Tryz.prog 170 #[.agg #[.int .i64 a, .int .i64 b, .int .i64 c], .int .i64 p, .agg #[.int .i64 v, .int .i64 h, .slice A rows.length cap]] w fun e w' => ∃ u, e = .returned (.agg #[.int .i64 3, .int .i64 a, .int .i64 b, .int .i64 ((p - c) % p), u]) ∧ OwnInts w' w.heap.size u [] ∧ Below w.heap.size w w' := by
 go_enter Tryz.func170, Tryz.ntmps170
 go_wp2
 have hpc : IntKind.i64.wrap (p - c) = p - c := by rw [IntKind.wrap_i64]; omega
 go_region_held3 (fun W => W.cell? ⟨w.heap.size, 0, none⟩ = some (.int .i64 a) ∧ W.cell? ⟨w.heap.size, 1, none⟩ = some (.int .i64 b) ∧ W.cell? ⟨w.heap.size, 2, none⟩ = some (.int .i64 c)) (go_keep)
  ((go_at_call 126; refine (mod_any p (p - c) _ (by omega) (by omega) (by omega) (by omega)).mono ?_; rintro e w' ⟨rfl, rfl⟩))
 go_wp2
 refine bodyPost_ret (v := .agg #[.int .i64 3, .int .i64 a, .int .i64 b, .int .i64 ((p - c) % p), .slice none 0 0]) (by simp [results, Tryz.results170, go_sem]) rfl ⟨_, rfl, OwnInts.nil _ _, ?_⟩
 exact (below_alloc3 w _ _ _).drew
set_option maxHeartbeats 4000000 in
theorem und_solve (a b p v h : Int) (A : Option Addr) (cap : Nat) (rows : List (List Int)) (w : World) (hR : RowsAt w A rows) (ha : 0 ≤ a) (ha' : a < rows.length) (hms : ∀ r ∈ rows, r.length ≤ 1048576) :
  Calls Tryz.prog 187 #[.agg #[.int .i64 a, .int .i64 b], .int .i64 p, .agg #[.int .i64 v, .int .i64 h, .slice A rows.length cap]] w fun e w' => ∃ u, e = .returned (.agg #[.int .i64 7, .int .i64 a, .int .i64 b, .int .i64 0, u]) ∧ OwnInts w' w.heap.size u (rows.getD a.toNat []) ∧ Below w.heap.size w w' := by
 obtain ⟨r, hr⟩ := get_of_lt (show a.toNat < rows.length by omega)
 obtain ⟨bb, o, rfl, hc⟩ := hR.here (show a.toNat < rows.length by omega)
 obtain ⟨A', cap', hck, hin⟩ := hc _ r hr
 have HG := Lib.hid (show rows.getD a.toNat [] = r by simp [List.getD, hr])
 have HRL := Lib.hid (hms r (List.mem_of_getElem? hr))
 have hB3 := below_alloc3 w (.cells #[.int .i64 a, .int .i64 b] 126) (.cells #[.int .i64 v, .int .i64 h, .slice (some ⟨bb, o, none⟩) rows.length cap] 30) (.cells #[.int .i64 0, .int .i64 0, .int .i64 0, .int .i64 0, .slice none 0 0] 34)
 have hbb : bb < w.heap.size := World.block_lt_of_cell? _ _ hck
 obtain ⟨W3, hW3⟩ : ∃ W3, W3 = ((w.alloc (.cells #[.int .i64 a, .int .i64 b] 126)).alloc (.cells #[.int .i64 v, .int .i64 h, .slice (some ⟨bb, o, none⟩) rows.length cap] 30)).alloc (.cells #[.int .i64 0, .int .i64 0, .int .i64 0, .int .i64 0, .slice none 0 0] 34) := ⟨_, rfl⟩
 obtain ⟨q0, q1, q2⟩ := heap_at3 w (.cells #[.int .i64 a, .int .i64 b] 126) (.cells #[.int .i64 v, .int .i64 h, .slice (some ⟨bb, o, none⟩) rows.length cap] 30) (.cells #[.int .i64 0, .int .i64 0, .int .i64 0, .int .i64 0, .slice none 0 0] 34)
 rw [← hW3] at hB3 q0 q1 q2
 have HS := Lib.hid (show ∀ W, Below W3.heap.size W3 W → W.cell? ⟨w.heap.size, 0, none⟩ = some (.int .i64 a) ∧ W.cell? ⟨w.heap.size, 1, none⟩ = some (.int .i64 b) ∧ W.cell? ⟨w.heap.size + 1, 2, none⟩ = some (.slice (some ⟨bb, o, none⟩) rows.length cap) ∧ W.cell? ⟨bb, o + a.toNat, none⟩ = some (.slice A' r.length cap') from
  fun W hW => ⟨blk_cell (boxb hW q0) 0, blk_cell (boxb hW q0) 1, blk_cell (boxb hW q1) 2, ext_cell (below_ext hB3 hW) hck⟩)
 have HIN := Lib.hid (hin.ext hB3)
 have HB3 := Lib.hid hB3; have Q2 := Lib.hid q2; have HBB := Lib.hid hbb; have HW3 := Lib.hid hW3
 have hsz : W3.heap.size = w.heap.size + 3 := by rw [hW3]; simp
 have HSZ := Lib.hid hsz
 clear hR hc hck hin hr hms hB3 q0 q1 q2 hbb hsz hW3
 go_enter Tryz.func187, Tryz.ntmps187
 go_wp2
 rw [← HW3.out]
 go_region_held3 (fun W => W.cell? ⟨w.heap.size, 0, none⟩ = some (.int .i64 a) ∧ W.cell? ⟨w.heap.size, 1, none⟩ = some (.int .i64 b) ∧ W.cell? ⟨w.heap.size + 1, 2, none⟩ = some (.slice (some ⟨bb, o, none⟩) rows.length cap) ∧ W.cell? ⟨bb, o + a.toNat, none⟩ = some (.slice A' r.length cap')) (first | exact HS.out _ (Below.refl _ _).drew | exact HS.out _ HC.out | exact ⟨(set5_cell (by simp <;> omega)).trans (HS.out _ HC.out).1, (set5_cell (by simp <;> omega)).trans (HS.out _ HC.out).2.1, (set5_cell (by simp <;> omega)).trans (HS.out _ HC.out).2.2.1, (set5_cell (by have := HBB.out; simp <;> omega)).trans (HS.out _ HC.out).2.2.2⟩)
  ((go_at_call 120; refine (clone_any _ _ _ _ (HIN.out.ext ?_) (by have := HRL.out; omega)).mono ?_; exact (Below.refl _ _).drew; rintro e w2 ⟨u, rfl, hu, hb2⟩; obtain ⟨A2, c2, rfl, _⟩ := hu.view; have HC := Lib.hid ((Below.refl W3.heap.size W3).drew.trans hb2); have HU := Lib.hid hu; clear hu hb2; obtain ⟨⟨c0, c1, c2', c3, c4⟩, f0, f1, f2, f3, f4⟩ := box5 HC.out Q2.out))
 have hs3 := HSZ.out
 have HO := HU.out
 simp only [World.size_drew] at HO
 go_wp2
 refine bodyPost_ret (v := .agg #[.int .i64 7, .int .i64 a, .int .i64 b, .int .i64 0, .slice A2 r.length c2]) (by simp [results, Tryz.results187, go_sem, *]) rfl ⟨_, rfl, ?_, ?_⟩
 ·rw [HG.out]
  exact (((((HO.setCell (by simp <;> omega) _).setCell (by simp <;> omega) _).setCell (by simp <;> omega) _).setCell (by simp <;> omega) _).setCell (by simp <;> omega) _).mono (by omega)
 ·exact below_set5 (below_ext HB3.out HC.out) (by omega) _ _ _ _ _
end Go.Proofs.YtjdbfokbgmbphaaGreatDoor
