/- The steps made (methods 'do'): exchange, scale, add. Conditions: a valid system and a possible step. -/
import Derived.Test.YtjdbfokbgmbphaaGreatDoorSwap
namespace Go.Proofs.YtjdbfokbgmbphaaGreatDoor
set_option linter.unusedVariables false
set_option linter.unusedSimpArgs false
open Go.RowKit

/-- An owned slice of slices that is not empty: where it lies. -/
theorem OwnRowsW.form {w : World} {B : Nat} {v : Value} {rows : List (List Int)} {us : List Value} (h : OwnRowsW w B v rows us) (hn : 0 < rows.length) :
    ∃ g cap, v = .slice (some ⟨g, 0, none⟩) rows.length cap ∧ B ≤ g ∧ g < w.heap.size := h.outer.form hn

set_option maxHeartbeats 2000000 in
theorem swapDo_any (a b p v h : Int) (A : Option Addr) (cap : Nat) (rows : List (List Int)) (w : World) (hR : RowsAt w A rows) (hm : rows.length ≤ 160) (hms : ∀ r ∈ rows, r.length ≤ 1000)
    (ha : 0 ≤ a) (ha' : a < rows.length) (hb : 0 ≤ b) (hb' : b < rows.length) (hab : a ≠ b) :
    Calls Tryz.prog 162 #[.agg #[.int .i64 a, .int .i64 b], .int .i64 p, .agg #[.int .i64 v, .int .i64 h, .slice A rows.length cap]] w fun e w' =>
      ∃ u, e = .returned (.agg #[.int .i64 v, .int .i64 h, u]) ∧ OwnRows w' w.heap.size u ((rows.set a.toNat (rows.getD b.toNat [])).set b.toNat (rows.getD a.toNat [])) ∧ Below w.heap.size w w' := by
  obtain ⟨ra, hra⟩ := get_of_lt (show a.toNat < rows.length by omega)
  obtain ⟨rb, hrb⟩ := get_of_lt (show b.toNat < rows.length by omega)
  have HA := Lib.hid (show rows.getD a.toNat [] = ra by simp [List.getD, hra])
  have HB := Lib.hid (show rows.getD b.toNat [] = rb by simp [List.getD, hrb])
  have HM := Lib.hid (show rows.length ≤ 1048576 by omega)
  have HMS := Lib.hid (show ∀ r ∈ rows, r.length ≤ 1048576 from fun r hr => by have := hms r hr; omega)
  clear hms
  go_enter Tryz.func162, Tryz.ntmps162
  go_wp2_with fail
  refine (copy_any _ _ _ _ _ _ (hR.ext (((Below.refl _ _).alloc (by simp) _ |>.alloc (by simp) _).alloc (by simp <;> omega) _)) HM.out HMS.out).mono ?_
  rintro e w1 ⟨u, rfl, ⟨us, hu⟩, hb1⟩
  obtain ⟨g, gcap, rfl, hgB, hgl⟩ := hu.form (by omega)
  simp only [World.size_alloc] at hgB
  obtain ⟨q0, q1, q2⟩ := heap_at3 w (.cells #[.int .i64 a, .int .i64 b] 118) (.cells #[.int .i64 v, .int .i64 h, .slice A rows.length cap] 30) (.cells #[.int .i64 0, .int .i64 0, .slice none 0 0] 30)
  have hsz1 := hb1.size
  simp only [World.size_alloc] at hsz1
  obtain ⟨ua, hua, hoa⟩ := hu.get hra
  obtain ⟨ub, hub, hob⟩ := hu.get hrb
  obtain ⟨Aa, ca, rfl, _⟩ := hoa.view
  obtain ⟨Ab, cb, rfl, _⟩ := hob.view
  go_wp2
  obtain ⟨W2, hW2⟩ : ∃ W2, W2 = w1.alloc (.cells #[.int .i64 v, .int .i64 h, .slice (some ⟨g, 0, none⟩) rows.length gcap] 30) := ⟨_, rfl⟩
  rw [← hW2]
  have hb2 : Below w1.heap.size w1 W2 := by rw [hW2]; exact (Below.refl _ _).alloc (Nat.le_refl _) _
  have hb02 := hb1.trans (hb2.mono hb1.size)
  have hm2 : W2.heap[w1.heap.size]? = some (.cells #[.int .i64 v, .int .i64 h, .slice (some ⟨g, 0, none⟩) rows.length gcap] 30 (0, 0)) := by rw [hW2]; exact heap_at _ _ rfl
  have hu2 := hu.ext hb2
  have y0 := boxc hb02 q0 0
  have y1 := boxc hb02 q0 1
  have x0 := blk_cell hm2 0
  have x1 := blk_cell hm2 1
  have x2 := blk_cell hm2 2
  have r0 := boxc hb02 q2 0
  have r1 := boxc hb02 q2 1
  have r2 := boxc hb02 q2 2
  have s0 := boxf hb02 q2 0
  have s1 := boxf hb02 q2 1
  have s2 := boxf hb02 q2 2
  simp only [List.getElem?_cons_zero, List.getElem?_cons_succ] at y0 y1 x0 x1 x2 r0 r1 r2
  have z0 : W2.cell? ⟨g, a.toNat, none⟩ = some (.slice Aa ra.length ca) := by rw [hu2.outer.cellAt _ (by omega), hua]
  have z1 : W2.cell? ⟨g, b.toNat, none⟩ = some (.slice Ab rb.length cb) := by rw [hu2.outer.cellAt _ (by omega), hub]
  have f0 := hu2.outer.frozenAt a.toNat
  have f1 := hu2.outer.frozenAt b.toNat
  have HU := Lib.hid hu2; have HB1 := Lib.hid hb02; have HRA := Lib.hid hra; have HRB := Lib.hid hrb; have HUA := Lib.hid hua; have HUB := Lib.hid hub; have HOA := Lib.hid hoa; have HOB := Lib.hid hob
  have HW := Lib.hid hW2
  clear hu hb1 hra hrb hua hub hoa hob hR hu2 hb02 hb2 hm2 q0 q1 q2 hW2
  have END : ∀ W5, W5 = ((W2.setCell ⟨g, a.toNat, none⟩ (.slice Ab rb.length cb)).setCell ⟨g, b.toNat, none⟩ (.slice Aa ra.length ca)).drew →
      W5.cell? ⟨w1.heap.size, 0, none⟩ = some (.int .i64 v) ∧ W5.cell? ⟨w1.heap.size, 1, none⟩ = some (.int .i64 h) ∧ W5.cell? ⟨w1.heap.size, 2, none⟩ = some (.slice (some ⟨g, 0, none⟩) rows.length gcap) ∧
      W5.cell? ⟨w.heap.size + 1 + 1, 0, none⟩ = some (.int .i64 0) ∧ W5.cell? ⟨w.heap.size + 1 + 1, 1, none⟩ = some (.int .i64 0) ∧ W5.cell? ⟨w.heap.size + 1 + 1, 2, none⟩ = some (.slice none 0 0) ∧
      W5.frozen? ⟨w.heap.size + 1 + 1, 0, none⟩ = false ∧ W5.frozen? ⟨w.heap.size + 1 + 1, 1, none⟩ = false ∧ W5.frozen? ⟨w.heap.size + 1 + 1, 2, none⟩ = false ∧
      OwnRows W5 (w.heap.size + 3) (.slice (some ⟨g, 0, none⟩) rows.length gcap) ((rows.set a.toNat rb).set b.toNat ra) ∧ Below w.heap.size w W5 := by
    rintro W5 rfl
    have hs := HU.out.swap rfl HUA.out HUB.out HRA.out HRB.out
    refine ⟨?_, ?_, ?_, ?_, ?_, ?_, by simpa using s0, by simpa using s1, by simpa using s2, ⟨_, OwnRowsW.mono (hs.ext (Below.refl _ _).drew) (by simp <;> omega)⟩, ((Below.setCell ((below_alloc3 w _ _ _).trans (HB1.out.mono (B' := w.heap.size) (by simp <;> omega))) (by simp <;> omega) _).setCell (by simp <;> omega) _).drew⟩
    all_goals refine (cell_set_ne (w := W2.setCell _ _) (by simp <;> omega)).trans ((cell_set_ne (by simp <;> omega)).trans ?_)
    all_goals assumption
  refine wp_region_held_drew (S := fun w' => w'.cell? ⟨w.heap.size, 0, none⟩ = some (.int .i64 a) ∧ w'.cell? ⟨w.heap.size, 1, none⟩ = some (.int .i64 b) ∧ w'.cell? ⟨w1.heap.size, 2, none⟩ = some (.slice (some ⟨g, 0, none⟩) rows.length gcap)) (by kernel_rfl) (by simp [*]) (fun hHeld => ?_)
  refine takeH (i := 0) (v := ?_) rfl (by kernel_rfl) (by kernel_rfl) (by kernel_rfl) (Or.inl ⟨by rfl, ?_⟩) (by assumption) ?_
  rotate_left
  · intro w hSw; (try dsimp only at hSw); go_simp; (try with_reducible rfl)
  simp only [Act.put, List.setIfInBounds_toArray, List.set_cons_zero, List.set_cons_succ]
  refine takeH (i := 1) (v := ?_) rfl (by kernel_rfl) (by kernel_rfl) (by kernel_rfl) (Or.inl ⟨by rfl, ?_⟩) (by assumption) ?_
  rotate_left
  · intro w hSw; (try dsimp only at hSw); go_simp; (try with_reducible rfl)
  simp only [Act.put, List.setIfInBounds_toArray, List.set_cons_zero, List.set_cons_succ]
  refine takeH (i := 2) (v := ?_) rfl (by kernel_rfl) (by kernel_rfl) (by kernel_rfl) (Or.inl ⟨by rfl, ?_⟩) (by assumption) ?_
  rotate_left
  · intro w hSw; (try dsimp only at hSw); go_simp; (try with_reducible rfl)
  simp only [Act.put, List.setIfInBounds_toArray, List.set_cons_zero, List.set_cons_succ]
  refine takeH (i := 3) (v := ?_) rfl (by kernel_rfl) (by kernel_rfl) (by kernel_rfl) (Or.inl ⟨by rfl, ?_⟩) (by assumption) ?_
  rotate_left
  · intro w hSw; (try dsimp only at hSw); go_simp; (try with_reducible rfl)
  simp only [Act.put, List.setIfInBounds_toArray, List.set_cons_zero, List.set_cons_succ]
  refine takeH (i := 4) (v := ?_) rfl (by kernel_rfl) (by kernel_rfl) (by kernel_rfl) (Or.inl ⟨by rfl, ?_⟩) (by assumption) ?_
  rotate_left
  · intro w hSw; (try dsimp only at hSw); go_simp; (try with_reducible rfl)
  simp only [Act.put, List.setIfInBounds_toArray, List.set_cons_zero, List.set_cons_succ]
  refine takeH (i := 5) (v := ?_) rfl (by kernel_rfl) (by kernel_rfl) (by kernel_rfl) (Or.inl ⟨by rfl, ?_⟩) (by assumption) ?_
  rotate_left
  · intro w hSw; (try dsimp only at hSw); go_simp; (try with_reducible rfl)
  simp only [Act.put, List.setIfInBounds_toArray, List.set_cons_zero, List.set_cons_succ]
  refine takeH (i := 6) (v := ?_) rfl (by kernel_rfl) (by kernel_rfl) (by kernel_rfl) (Or.inl ⟨by rfl, ?_⟩) (by assumption) ?_
  rotate_left
  · intro w hSw; (try dsimp only at hSw); go_simp; (try with_reducible rfl)
  simp only [Act.put, List.setIfInBounds_toArray, List.set_cons_zero, List.set_cons_succ]
  refine takeH (i := 7) (v := ?_) rfl (by kernel_rfl) (by kernel_rfl) (by kernel_rfl) (Or.inl ⟨by rfl, ?_⟩) (by assumption) ?_
  rotate_left
  · intro w hSw; (try dsimp only at hSw); go_simp; (try with_reducible rfl)
  simp only [Act.put, List.setIfInBounds_toArray, List.set_cons_zero, List.set_cons_succ]
  refine takeH (i := 8) (v := ?_) rfl (by kernel_rfl) (by kernel_rfl) (by kernel_rfl) (Or.inl ⟨by rfl, ?_⟩) (by assumption) ?_
  rotate_left
  · intro w hSw; (try dsimp only at hSw); go_simp; (try with_reducible rfl)
  simp only [Act.put, List.setIfInBounds_toArray, List.set_cons_zero, List.set_cons_succ]
  refine takeH (i := 9) (v := ?_) rfl (by kernel_rfl) (by kernel_rfl) (by kernel_rfl) (Or.inl ⟨by rfl, ?_⟩) (by assumption) ?_
  rotate_left
  · intro w hSw; (try dsimp only at hSw); go_simp; (try with_reducible rfl)
  simp only [Act.put, List.setIfInBounds_toArray, List.set_cons_zero, List.set_cons_succ]
  refine takeH (i := 10) (v := ?_) rfl (by kernel_rfl) (by kernel_rfl) (by kernel_rfl) (Or.inl ⟨by rfl, ?_⟩) (by assumption) ?_
  rotate_left
  · intro w hSw; (try dsimp only at hSw); go_simp; (try with_reducible rfl)
  simp only [Act.put, List.setIfInBounds_toArray, List.set_cons_zero, List.set_cons_succ]
  refine takeH (i := 11) (v := ?_) rfl (by kernel_rfl) (by kernel_rfl) (by kernel_rfl) (Or.inl ⟨by rfl, ?_⟩) (by assumption) ?_
  rotate_left
  · intro w hSw; (try dsimp only at hSw); go_simp; (try with_reducible rfl)
  simp only [Act.put, List.setIfInBounds_toArray, List.set_cons_zero, List.set_cons_succ]
  refine takeH (i := 12) (v := ?_) rfl (by kernel_rfl) (by kernel_rfl) (by kernel_rfl) (Or.inl ⟨by rfl, ?_⟩) (by assumption) ?_
  rotate_left
  · intro w hSw; (try dsimp only at hSw); go_simp; (try with_reducible rfl)
  simp only [Act.put, List.setIfInBounds_toArray, List.set_cons_zero, List.set_cons_succ]
  refine takeH (i := 14) (v := ?_) rfl (by kernel_rfl) (by kernel_rfl) (by kernel_rfl) (Or.inl ⟨by rfl, ?_⟩) (by assumption) ?_
  rotate_left
  · intro w hSw; (try dsimp only at hSw); go_simp; (try with_reducible rfl)
  simp only [Act.put, List.setIfInBounds_toArray, List.set_cons_zero, List.set_cons_succ]
  refine takeH (i := 15) (v := ?_) rfl (by kernel_rfl) (by kernel_rfl) (by kernel_rfl) (Or.inl ⟨by rfl, ?_⟩) (by assumption) ?_
  rotate_left
  · intro w hSw; (try dsimp only at hSw); go_simp; (try with_reducible rfl)
  simp only [Act.put, List.setIfInBounds_toArray, List.set_cons_zero, List.set_cons_succ]
  refine takeH (i := 16) (v := ?_) rfl (by kernel_rfl) (by kernel_rfl) (by kernel_rfl) (Or.inl ⟨by rfl, ?_⟩) (by assumption) ?_
  rotate_left
  · intro w hSw; (try dsimp only at hSw); go_simp; (try with_reducible rfl)
  simp only [Act.put, List.setIfInBounds_toArray, List.set_cons_zero, List.set_cons_succ]
  refine takeH (i := 17) (v := ?_) rfl (by kernel_rfl) (by kernel_rfl) (by kernel_rfl) (Or.inl ⟨by rfl, ?_⟩) (by assumption) ?_
  rotate_left
  · intro w hSw; (try dsimp only at hSw); go_simp; (try with_reducible rfl)
  simp only [Act.put, List.setIfInBounds_toArray, List.set_cons_zero, List.set_cons_succ]
  refine takeH (i := 18) (v := ?_) rfl (by kernel_rfl) (by kernel_rfl) (by kernel_rfl) (Or.inl ⟨by rfl, ?_⟩) (by assumption) ?_
  rotate_left
  · intro w hSw; (try dsimp only at hSw); go_simp; (try with_reducible rfl)
  simp only [Act.put, List.setIfInBounds_toArray, List.set_cons_zero, List.set_cons_succ]
  refine wpAnyH_ready (rs := [13, 19]) (by kernel_rfl) (by simp) ?_
  refine consH rfl (fun K hK => ?_) (consH rfl (fun K hK => ?_) AllReadyH.nil)
  · go_simp
    refine hK.out _ _ (by assumption) (fun hHeld => ?_)
    clear hK K
    try simp only [Act.put, List.setIfInBounds_toArray, List.set_cons_zero, List.set_cons_succ]
    refine wpAnyH_ready (rs := [19]) (by kernel_rfl) (by simp) ?_
    refine consH rfl (fun K hK => ?_) AllReadyH.nil
    go_simp
    refine hK.out _ _ (by assumption) (fun hHeld => ?_)
    clear hK K
    try simp only [Act.put, List.setIfInBounds_toArray, List.set_cons_zero, List.set_cons_succ]
    refine takeH (i := 20) (v := ?_) rfl (by kernel_rfl) (by kernel_rfl) (by kernel_rfl) (Or.inl ⟨by rfl, ?_⟩) (by assumption) ?_
    rotate_left
    · intro w hSw; (try dsimp only at hSw); go_simp; (try with_reducible rfl)
    simp only [Act.put, List.setIfInBounds_toArray, List.set_cons_zero, List.set_cons_succ]
    refine wpAnyH_ready (rs := [21]) (by kernel_rfl) (by simp) ?_
    refine consH rfl (fun K hK => ?_) AllReadyH.nil
    go_simp
    refine hK.out _ _ (by refine ⟨?_, ?_, ?_⟩ <;> (refine (cell_set_ne2 (by simp <;> omega)).trans ?_; assumption)) (fun hHeld => ?_)
    clear hK K
    try simp only [Act.put, List.setIfInBounds_toArray, List.set_cons_zero, List.set_cons_succ]
    refine takeH (i := 22) (v := ?_) rfl (by kernel_rfl) (by kernel_rfl) (by kernel_rfl) (Or.inl ⟨by rfl, ?_⟩) (by assumption) ?_
    rotate_left
    · intro w hSw; (try dsimp only at hSw); go_simp; (try with_reducible rfl)
    simp only [Act.put, List.setIfInBounds_toArray, List.set_cons_zero, List.set_cons_succ]
    refine wpAnyH_ready (rs := [23]) (by kernel_rfl) (by simp) ?_
    refine consH rfl (fun K hK => ?_) AllReadyH.nil
    have z3 : (W2.drew.setCell ⟨g, a.toNat, none⟩ (.slice Ab rb.length cb)).cell? ⟨g, b.toNat, none⟩ = some (.slice Ab rb.length cb) := by rw [World.cell?_setCell_other _ _ _ _ (by simp <;> omega)]; simpa using z1
    have z4 : (W2.drew.setCell ⟨g, a.toNat, none⟩ (.slice Ab rb.length cb)).frozen? ⟨g, b.toNat, none⟩ = false := by simpa using f1
    go_simp
    refine hK.out _ _ (by refine ⟨?_, ?_, ?_⟩ <;> (refine (cell_set_ne (by simp <;> omega)).trans ((cell_set_ne2 (by simp <;> omega)).trans ?_); assumption)) (fun hHeld => ?_)
    clear hK K
    refine wpAnyH_done (by kernel_rfl) ?_ _
    clear hHeld
    try dsimp only
    obtain ⟨W5, hW5⟩ : ∃ W5, W5 = ((W2.setCell ⟨g, a.toNat, none⟩ (.slice Ab rb.length cb)).setCell ⟨g, b.toNat, none⟩ (.slice Aa ra.length ca)).drew := ⟨_, rfl⟩
    rw [← hW5]
    obtain ⟨e0, e1, e2, e3, e4, e5, e6, e7, e8, e9, e10⟩ := END W5 hW5
    have HO := Lib.hid e9; have HE := Lib.hid e10
    clear END e9 e10 hW5 z3 z4 y0 y1 x2 r0 r1 r2 s0 s1 s2 z0 z1 f0 f1
    go_wp2
    refine bodyPost_ret (v := .agg #[.int .i64 v, .int .i64 h, .slice (some ⟨g, 0, none⟩) rows.length gcap]) (by simp [results, Tryz.results162, go_sem, *]) rfl ⟨_, rfl, ?_, ?_⟩
    · rw [HA.out, HB.out]; exact (((HO.out.setCell (by simp <;> omega) _).setCell (by simp <;> omega) _).setCell (by simp <;> omega) _).mono (by omega)
    · exact ((HE.out.setCell (by simp <;> omega) _).setCell (by simp <;> omega) _).setCell (by simp <;> omega) _
  · go_simp
    refine hK.out _ _ (by assumption) (fun hHeld => ?_)
    clear hK K
    try simp only [Act.put, List.setIfInBounds_toArray, List.set_cons_zero, List.set_cons_succ]
    refine wpAnyH_ready (rs := [13]) (by kernel_rfl) (by simp) ?_
    refine consH rfl (fun K hK => ?_) AllReadyH.nil
    go_simp
    refine hK.out _ _ (by assumption) (fun hHeld => ?_)
    clear hK K
    try simp only [Act.put, List.setIfInBounds_toArray, List.set_cons_zero, List.set_cons_succ]
    refine takeH (i := 20) (v := ?_) rfl (by kernel_rfl) (by kernel_rfl) (by kernel_rfl) (Or.inl ⟨by rfl, ?_⟩) (by assumption) ?_
    rotate_left
    · intro w hSw; (try dsimp only at hSw); go_simp; (try with_reducible rfl)
    simp only [Act.put, List.setIfInBounds_toArray, List.set_cons_zero, List.set_cons_succ]
    refine wpAnyH_ready (rs := [21]) (by kernel_rfl) (by simp) ?_
    refine consH rfl (fun K hK => ?_) AllReadyH.nil
    go_simp
    refine hK.out _ _ (by refine ⟨?_, ?_, ?_⟩ <;> (refine (cell_set_ne2 (by simp <;> omega)).trans ?_; assumption)) (fun hHeld => ?_)
    clear hK K
    try simp only [Act.put, List.setIfInBounds_toArray, List.set_cons_zero, List.set_cons_succ]
    refine takeH (i := 22) (v := ?_) rfl (by kernel_rfl) (by kernel_rfl) (by kernel_rfl) (Or.inl ⟨by rfl, ?_⟩) (by assumption) ?_
    rotate_left
    · intro w hSw; (try dsimp only at hSw); go_simp; (try with_reducible rfl)
    simp only [Act.put, List.setIfInBounds_toArray, List.set_cons_zero, List.set_cons_succ]
    refine wpAnyH_ready (rs := [23]) (by kernel_rfl) (by simp) ?_
    refine consH rfl (fun K hK => ?_) AllReadyH.nil
    have z3 : (W2.drew.setCell ⟨g, a.toNat, none⟩ (.slice Ab rb.length cb)).cell? ⟨g, b.toNat, none⟩ = some (.slice Ab rb.length cb) := by rw [World.cell?_setCell_other _ _ _ _ (by simp <;> omega)]; simpa using z1
    have z4 : (W2.drew.setCell ⟨g, a.toNat, none⟩ (.slice Ab rb.length cb)).frozen? ⟨g, b.toNat, none⟩ = false := by simpa using f1
    go_simp
    refine hK.out _ _ (by refine ⟨?_, ?_, ?_⟩ <;> (refine (cell_set_ne (by simp <;> omega)).trans ((cell_set_ne2 (by simp <;> omega)).trans ?_); assumption)) (fun hHeld => ?_)
    clear hK K
    refine wpAnyH_done (by kernel_rfl) ?_ _
    clear hHeld
    try dsimp only
    obtain ⟨W5, hW5⟩ : ∃ W5, W5 = ((W2.setCell ⟨g, a.toNat, none⟩ (.slice Ab rb.length cb)).setCell ⟨g, b.toNat, none⟩ (.slice Aa ra.length ca)).drew := ⟨_, rfl⟩
    rw [← hW5]
    obtain ⟨e0, e1, e2, e3, e4, e5, e6, e7, e8, e9, e10⟩ := END W5 hW5
    have HO := Lib.hid e9; have HE := Lib.hid e10
    clear END e9 e10 hW5 z3 z4 y0 y1 x2 r0 r1 r2 s0 s1 s2 z0 z1 f0 f1
    go_wp2
    refine bodyPost_ret (v := .agg #[.int .i64 v, .int .i64 h, .slice (some ⟨g, 0, none⟩) rows.length gcap]) (by simp [results, Tryz.results162, go_sem, *]) rfl ⟨_, rfl, ?_, ?_⟩
    · rw [HA.out, HB.out]; exact (((HO.out.setCell (by simp <;> omega) _).setCell (by simp <;> omega) _).setCell (by simp <;> omega) _).mono (by omega)
    · exact ((HE.out.setCell (by simp <;> omega) _).setCell (by simp <;> omega) _).setCell (by simp <;> omega) _
end Go.Proofs.YtjdbfokbgmbphaaGreatDoor
