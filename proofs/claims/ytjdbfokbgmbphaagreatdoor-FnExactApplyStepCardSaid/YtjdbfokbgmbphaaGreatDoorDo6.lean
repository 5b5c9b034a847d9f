/- The steps made (methods 'do'): forget, invent, solve. -/
import Derived.Test.YtjdbfokbgmbphaaGreatDoorWi1
import Derived.Test.YtjdbfokbgmbphaaGreatDoorDo4
namespace Go.Proofs.YtjdbfokbgmbphaaGreatDoor
set_option linter.unusedVariables false
set_option linter.unusedSimpArgs false
open Go.RowKit

set_option maxHeartbeats 2000000 in
theorem forgetDo_any (b p v h : Int) (A : Option Addr) (cap : Nat) (rows : List (List Int)) (w : World) (hR : RowsAt w A rows) (hm : rows.length ≤ 160) (hms : ∀ r ∈ rows, r.length ≤ 1000)
    (hv : 0 ≤ v) (hv' : v ≤ 1000) (hb : 0 ≤ b) (hb' : b ≤ 1000) (hh : 1 ≤ h) (hh' : h ≤ 1000) (hlen : ∀ r ∈ rows, v + b < r.length) :
    Calls Tryz.prog 202 #[.agg #[.int .i64 b], .int .i64 p, .agg #[.int .i64 v, .int .i64 h, .slice A rows.length cap]] w fun e w' =>
      ∃ u, e = .returned (.agg #[.int .i64 v, .int .i64 (h - 1), u]) ∧ OwnRows w' w.heap.size u (rows.map (fun r => r.eraseIdx (v + b).toNat)) ∧ Below w.heap.size w w' := by
  have HLEN := Lib.hid hlen
  clear hlen
  have HMS := Lib.hid hms
  go_enter Tryz.func202, Tryz.ntmps202
  go_wp2_with fail
  refine (without_any b v h A cap rows _ (hR.ext (below_alloc3 w _ _ _)) hm HMS.out hv hv' hb hb' hh hh' HLEN.out).mono ?_
  rintro e w1 ⟨u, rfl, hou, hb1⟩
  obtain ⟨gA, gcap, hgv, _, _, _⟩ := OwnRows.view hou
  simp only [List.length_map] at hgv
  subst hgv
  obtain ⟨q0, q1, q2⟩ := heap_at3 w (.cells #[.int .i64 b] 130) (.cells #[.int .i64 v, .int .i64 h, .slice A rows.length cap] 30) (.cells #[.int .i64 0, .int .i64 0, .slice none 0 0] 30)
  have hsz1 := hb1.size
  simp only [World.size_alloc] at hsz1
  have k2w := boxb hb1 q2
  have e3 := blk_cell k2w 0
  have e4 := blk_cell k2w 1
  have e5 := blk_cell k2w 2
  have e6 := blk_free k2w 0
  have e7 := blk_free k2w 1
  have e8 := blk_free k2w 2
  simp only [List.getElem?_cons_zero, List.getElem?_cons_succ] at e3 e4 e5
  have HO := Lib.hid (hou.mono (B' := w.heap.size + 3) (by simp))
  have HE := Lib.hid ((below_alloc3 w _ _ _).trans (hb1.mono (B' := w.heap.size) (by simp <;> omega)))
  clear hou hb1 q0 q1 q2 k2w
  go_wp2
  refine bodyPost_ret (v := .agg #[.int .i64 v, .int .i64 (h - 1), .slice gA rows.length gcap]) (by simp [results, Tryz.results202, go_sem, *]) rfl ⟨_, rfl, ?_, ?_⟩
  · exact (((HO.out.setCell (by simp <;> omega) _).setCell (by simp <;> omega) _).setCell (by simp <;> omega) _).mono (by omega)
  · exact ((HE.out.setCell (by simp <;> omega) _).setCell (by simp <;> omega) _).setCell (by simp <;> omega) _

set_option maxHeartbeats 2000000 in
theorem inventDo_any (b p v h : Int) (A : Option Addr) (cap : Nat) (rows : List (List Int)) (w : World) (hR : RowsAt w A rows) (hm : rows.length ≤ 160) (hms : ∀ r ∈ rows, r.length ≤ 1000)
    (hv : 0 ≤ v) (hv' : v ≤ 1000) (hb : 0 ≤ b) (hb' : b ≤ 1000) (hh : 0 ≤ h) (hh' : h ≤ 1000) (hlen : ∀ r ∈ rows, v + b ≤ r.length) :
    Calls Tryz.prog 205 #[.agg #[.int .i64 b], .int .i64 p, .agg #[.int .i64 v, .int .i64 h, .slice A rows.length cap]] w fun e w' =>
      ∃ u, e = .returned (.agg #[.int .i64 v, .int .i64 (h + 1), u]) ∧ OwnRows w' w.heap.size u (rows.map (fun r => insAt r (v + b).toNat 0)) ∧ Below w.heap.size w w' := by
  have HLEN := Lib.hid hlen
  clear hlen
  have HMS := Lib.hid hms
  go_enter Tryz.func205, Tryz.ntmps205
  go_wp2_with fail
  refine (with_any b v h A cap rows _ (hR.ext (below_alloc3 w _ _ _)) hm HMS.out hv hv' hb hb' hh hh' HLEN.out).mono ?_
  rintro e w1 ⟨u, rfl, hou, hb1⟩
  obtain ⟨gA, gcap, hgv, _, _, _⟩ := OwnRows.view hou
  simp only [List.length_map] at hgv
  subst hgv
  obtain ⟨q0, q1, q2⟩ := heap_at3 w (.cells #[.int .i64 b] 131) (.cells #[.int .i64 v, .int .i64 h, .slice A rows.length cap] 30) (.cells #[.int .i64 0, .int .i64 0, .slice none 0 0] 30)
  have hsz1 := hb1.size
  simp only [World.size_alloc] at hsz1
  have k2w := boxb hb1 q2
  have e3 := blk_cell k2w 0
  have e4 := blk_cell k2w 1
  have e5 := blk_cell k2w 2
  have e6 := blk_free k2w 0
  have e7 := blk_free k2w 1
  have e8 := blk_free k2w 2
  simp only [List.getElem?_cons_zero, List.getElem?_cons_succ] at e3 e4 e5
  have HO := Lib.hid (hou.mono (B' := w.heap.size + 3) (by simp))
  have HE := Lib.hid ((below_alloc3 w _ _ _).trans (hb1.mono (B' := w.heap.size) (by simp <;> omega)))
  clear hou hb1 q0 q1 q2 k2w
  go_wp2
  refine bodyPost_ret (v := .agg #[.int .i64 v, .int .i64 (h + 1), .slice gA rows.length gcap]) (by simp [results, Tryz.results205, go_sem, *]) rfl ⟨_, rfl, ?_, ?_⟩
  · exact (((HO.out.setCell (by simp <;> omega) _).setCell (by simp <;> omega) _).setCell (by simp <;> omega) _).mono (by omega)
  · exact ((HE.out.setCell (by simp <;> omega) _).setCell (by simp <;> omega) _).setCell (by simp <;> omega) _

set_option maxHeartbeats 2000000 in
theorem solveDo_any (a b p v h : Int) (A : Option Addr) (cap : Nat) (rows : List (List Int)) (w : World) (hR : RowsAt w A rows) (hm : rows.length ≤ 160) (hms : ∀ r ∈ rows, r.length ≤ 1000)
    (ha : 0 ≤ a) (ha' : a < rows.length) (hv : 0 ≤ v) (hv' : v ≤ 1000) (hb : 0 ≤ b) (hb' : b ≤ 1000) (hh : 1 ≤ h) (hh' : h ≤ 1000) (hlen : ∀ r ∈ rows, v + b < r.length) :
    Calls Tryz.prog 186 #[.agg #[.int .i64 a, .int .i64 b], .int .i64 p, .agg #[.int .i64 v, .int .i64 h, .slice A rows.length cap]] w fun e w' =>
      ∃ u, e = .returned (.agg #[.int .i64 v, .int .i64 (h - 1), u]) ∧ OwnRows w' w.heap.size u ((rows.map (fun r => r.eraseIdx (v + b).toNat)).eraseIdx a.toNat) ∧ Below w.heap.size w w' := by
  have HLEN := Lib.hid hlen
  clear hlen
  have HMS := Lib.hid hms
  go_enter Tryz.func186, Tryz.ntmps186
  go_wp2_with fail
  refine (without_any b v h A cap rows _ (hR.ext (below_alloc3 w _ _ _)) hm HMS.out hv hv' hb hb' hh hh' HLEN.out).mono ?_
  rintro e w1 ⟨u, rfl, hou, hb1⟩
  obtain ⟨rows1, hr1⟩ : ∃ rows1, rows1 = rows.map (fun r => r.eraseIdx (v + b).toNat) := ⟨_, rfl⟩
  rw [← hr1] at hou
  have HL1 := Lib.hid (show rows1.length = rows.length by rw [hr1]; simp)
  have HR1 := Lib.hid hr1
  clear hr1
  obtain ⟨us, hu⟩ := hou
  obtain ⟨gA, gcap, rfl, _, _, _⟩ := OwnRows.view ⟨us, hu⟩
  obtain ⟨q0, q1, q2⟩ := heap_at3 w (.cells #[.int .i64 a, .int .i64 b] 126) (.cells #[.int .i64 v, .int .i64 h, .slice A rows.length cap] 30) (.cells #[.int .i64 0, .int .i64 0, .slice none 0 0] 30)
  have hsz1 := hb1.size
  simp only [World.size_alloc] at hsz1
  go_upto_region 2 with (fail)
  obtain ⟨W2, hW2⟩ : ∃ W2, W2 = w1.alloc (.cells #[.int .i64 v, .int .i64 (h - 1), .slice gA rows1.length gcap] 30) := ⟨_, rfl⟩
  rw [← hW2]
  have hb2 : Below w1.heap.size w1 W2 := by rw [hW2]; exact (Below.refl _ _).alloc (Nat.le_refl _) _
  have hsz2 : W2.heap.size = w1.heap.size + 1 := by rw [hW2]; simp
  have hb02 := hb1.trans (hb2.mono hb1.size)
  have m2 : W2.heap[w1.heap.size]? = some (.cells #[.int .i64 v, .int .i64 (h - 1), .slice gA rows1.length gcap] 30 (0, 0)) := by rw [hW2]; exact heap_at _ _ rfl
  have k0 := boxb hb02 q0
  have k1 := boxb hb02 q1
  have k2 := boxb hb02 q2
  have hu2 : OwnRowsW W2 (w.heap.size + 3) (.slice gA rows1.length gcap) rows1 us := (hu.ext hb2).mono (by simp)
  have hub : ∀ g', gA = some ⟨g', 0, none⟩ → g' < w1.heap.size := fun g' e => by subst e; exact (World.ownsRow.lt hu.outer g' rfl).2
  have hb3 : Below w.heap.size w W2 := (below_alloc3 w _ _ _).trans (hb02.mono (by simp <;> omega))
  clear hu hb1 hb2 hb02 hms q0 q1 q2 hW2
  obtain ⟨g, hgv, hgB, hgl⟩ : ∃ g, gA = some ⟨g, 0, none⟩ ∧ w.heap.size + 3 ≤ g ∧ g < W2.heap.size := own_at hu2 (by have := HL1.out; omega)
  subst hgv
  have hgu := hub g rfl
  have x0 := blk_cell k0 0
  have x2 := blk_cell m2 2
  simp only [List.getElem?_cons_zero, List.getElem?_cons_succ] at x0 x2
  have HU := Lib.hid hu2; have HB := Lib.hid hb3
  have K2 := Lib.hid k2; have M2 := Lib.hid m2
  clear hu2 hb3 hub k0 k1 k2 m2 hR
  go_upto_region 3 with (go_at_call 175; refine (deleteRows_any (w.heap.size + 3) g rows1.length gcap a us _ HU.out.outer (own_one HU.out) ha (by have := HL1.out; omega) (by have := HL1.out; omega)).mono ?_; rintro e wr ⟨rfl, hown, hgr⟩; have hF := (hgr.block w1.heap.size (by omega) (by simp; omega)).trans M2.out; have HG := Lib.hid hgr; have HO := Lib.hid hown; have f2 := blk_free hF 2; have c2 := blk_cell hF 2; simp only [List.getElem?_cons_zero, List.getElem?_cons_succ] at c2; have HF := Lib.hid hF; clear hF hgr hown)
  have m2w := heap_setCell_same wr w1.heap.size 2 _ _ (.slice (some ⟨g, 0, none⟩) (rows1.length - 1) gcap) HF.out
  simp only [List.setIfInBounds_toArray, List.set_cons_zero, List.set_cons_succ] at m2w
  have k2w := (heap_setCell_other wr ⟨w1.heap.size, 2, none⟩ (w.heap.size + 1 + 1) (.slice (some ⟨g, 0, none⟩) (rows1.length - 1) gcap) (by simp <;> omega)).trans ((HG.out.block _ (by omega) (by simp; omega)).trans K2.out)
  have hW := HU.out.erase (by have := HL1.out; omega) HO.out HG.out
  have hso := hW.setSys HF.out (j := 2) (u := .slice (some ⟨g, 0, none⟩) (rows1.length - 1) gcap)
  rw [show rows1.eraseIdx a.toNat = (rows.map (fun r => r.eraseIdx (v + b).toNat)).eraseIdx a.toNat by rw [HR1.out]] at hso
  have HO := Lib.hid (show OwnRows _ (w.heap.size + 3) _ _ from ⟨_, hso⟩)
  have HE := Lib.hid ((HB.out.grown HG.out (by omega) fun b hb => by cases hb; omega).setCell (p := ⟨w1.heap.size, 2, none⟩) (by simp <;> omega) (.slice (some ⟨g, 0, none⟩) (rows1.length - 1) gcap))
  clear hW hso c2 f2 x0 x2
  have e0 := blk_cell m2w 0
  have e1 := blk_cell m2w 1
  have e2 := blk_cell m2w 2
  have e3 := blk_cell k2w 0
  have e4 := blk_cell k2w 1
  have e5 := blk_cell k2w 2
  have e6 := blk_free k2w 0
  have e7 := blk_free k2w 1
  have e8 := blk_free k2w 2
  simp only [List.getElem?_cons_zero, List.getElem?_cons_succ] at e0 e1 e2 e3 e4 e5
  clear m2w k2w
  go_wp2
  refine bodyPost_ret (v := .agg #[.int .i64 v, .int .i64 (h - 1), .slice (some ⟨g, 0, none⟩) (rows1.length - 1) gcap]) (by simp [results, Tryz.results186, go_sem, *]) rfl ⟨_, rfl, ?_, ?_⟩
  · exact (((HO.out.setCell (by simp <;> omega) _).setCell (by simp <;> omega) _).setCell (by simp <;> omega) _).mono (by omega)
  · exact ((HE.out.setCell (by simp <;> omega) _).setCell (by simp <;> omega) _).setCell (by simp <;> omega) _
end Go.Proofs.YtjdbfokbgmbphaaGreatDoor
