/- A system copied; the law's own copies of a system and of a step. Conditions: lengths of at most 2^20. -/
import Derived.Test.YtjdbfokbgmbphaaGreatDoorOwn4
namespace Go.Proofs.YtjdbfokbgmbphaaGreatDoor
set_option linter.unusedVariables false
set_option linter.unusedSimpArgs false
open Go.RowKit

set_option maxHeartbeats 1000000 in
theorem copy_any (v h : Int) (A : Option Addr) (cap : Nat) (rows : List (List Int)) (w : World) (hR : RowsAt w A rows) (hm : rows.length ≤ 1048576) (hms : ∀ r ∈ rows, r.length ≤ 1048576) :
    Calls Tryz.prog 95 #[.agg #[.int .i64 v, .int .i64 h, .slice A rows.length cap]] w fun e w' => ∃ u, e = .returned (.agg #[.int .i64 v, .int .i64 h, u]) ∧ OwnRows w' w.heap.size u rows ∧ Below w.heap.size w w' := by
  have HM := Lib.hid hm
  clear hm
  go_enter Tryz.func95, Tryz.ntmps95
  go_wp2
  go_region_held3 (fun w' => w'.cell? ⟨w.heap.size, 0, none⟩ = some (.int .i64 v) ∧ w'.cell? ⟨w.heap.size, 1, none⟩ = some (.int .i64 h) ∧ w'.cell? ⟨w.heap.size, 2, none⟩ = some (.slice A rows.length cap)) (first | go_keep | exact ⟨ext_cell hbel2 (by simp), ext_cell hbel2 (by simp), ext_cell hbel2 (by simp)⟩)
    ((go_at_call 112; refine (clones_any _ _ _ _ (hR.ext ?_) HM.out hms).mono ?_; exact (((Below.refl _ _).alloc (Nat.le_refl _) _).alloc (by simp) _).drew; rintro e w' ⟨u2, rfl, hu2, hbel2⟩; obtain ⟨A2, c2, rfl, _⟩ := hu2.view; have c0 := ext_cell hbel2 (p := ⟨w.heap.size + 1, 0, none⟩) (v := .int .i64 0) (by simp); have c1 := ext_cell hbel2 (p := ⟨w.heap.size + 1, 1, none⟩) (v := .int .i64 0) (by simp); have c2' := ext_cell hbel2 (p := ⟨w.heap.size + 1, 2, none⟩) (v := .slice none 0 0) (by simp); have f0 := ext_frozen hbel2 (p := ⟨w.heap.size + 1, 0, none⟩) (by simp) (by simp); have f1 := ext_frozen hbel2 (p := ⟨w.heap.size + 1, 1, none⟩) (by simp) (by simp); have f2 := ext_frozen hbel2 (p := ⟨w.heap.size + 1, 2, none⟩) (by simp) (by simp)))
  simp only [World.size_drew, World.size_alloc] at hu2 hbel2
  have hu3 := ((hu2.setCell (a := ⟨w.heap.size + 1, 0, none⟩) (by simp) (.int .i64 v)).setCell (a := ⟨w.heap.size + 1, 1, none⟩) (by simp) (.int .i64 h)).setCell (a := ⟨w.heap.size + 1, 2, none⟩) (by simp) (.slice A2 rows.length c2)
  have hb3 := (((((((Below.refl w.heap.size w).alloc (Nat.le_refl _) _).alloc (by simp) _).drew).trans (hbel2.mono (by omega))).setCell (p := ⟨w.heap.size + 1, 0, none⟩) (by simp) (.int .i64 v)).setCell (p := ⟨w.heap.size + 1, 1, none⟩) (by simp) (.int .i64 h)).setCell (p := ⟨w.heap.size + 1, 2, none⟩) (by simp) (.slice A2 rows.length c2)
  have H3 := Lib.hid hu3
  have HB := Lib.hid hb3
  clear hu2 hu3 hb3 hbel2
  go_wp2
  refine bodyPost_ret (v := .agg #[.int .i64 v, .int .i64 h, .slice A2 rows.length c2]) (by simp [results, Tryz.results95, go_sem, c0, c1, c2']) rfl ⟨_, rfl, H3.out.mono (by omega), HB.out⟩

set_option maxHeartbeats 1000000 in
theorem toSystem_any (v h : Int) (A : Option Addr) (cap : Nat) (rows : List (List Int)) (w : World) (hR : RowsAt w A rows) (hm : rows.length ≤ 1048576) (hms : ∀ r ∈ rows, r.length ≤ 1048576) :
    Calls Tryz.prog 15 #[.agg #[.int .i64 v, .int .i64 h, .slice A rows.length cap]] w fun e w' => ∃ u, e = .returned (.agg #[.int .i64 v, .int .i64 h, u]) ∧ OwnRows w' w.heap.size u rows ∧ Below w.heap.size w w' := by
  have HM := Lib.hid hm
  clear hm
  go_enter Tryz.func15, Tryz.ntmps15
  go_wp2_with fail
  refine (toIntSS_any _ _ _ _ (hR.ext (((Below.refl _ _).alloc (by simp) _ |>.alloc (by simp) _).alloc (by simp <;> omega) _)) HM.out hms).mono ?_
  rintro e w' ⟨u2, rfl, hu2, hbel2⟩
  obtain ⟨A2, c2, rfl, _⟩ := hu2.view
  obtain ⟨x0, x1, x2, _, _, x5⟩ := box3 hbel2 (b := w.heap.size + 1 + 1) (heap_at _ _ (by simp))
  obtain ⟨y0, y1, y2, y3, y4, y5⟩ := box3 hbel2 (b := w.heap.size + 1) ((heap_past _ _ (by simp)).trans (heap_at _ _ (by simp)))
  simp only [World.size_alloc] at hu2
  have hbel3 := hbel2.mono (B' := w.heap.size) (by simp <;> omega)
  have hb3 := (((Below.refl w.heap.size w).alloc (by simp) _ |>.alloc (by simp) _).alloc (by simp <;> omega) _).trans hbel3
  have H3 := Lib.hid hu2
  have HB := Lib.hid hb3
  clear hu2 hb3 hbel3 hbel2
  go_wp2
  refine bodyPost_ret (v := .agg #[.int .i64 v, .int .i64 h, .slice A2 rows.length c2]) (by simp [results, Tryz.results15, go_sem, *]) rfl ⟨_, rfl, ?_, ?_⟩
  · exact ((((H3.out.setCell (by simp <;> omega) _).setCell (by simp <;> omega) _).setCell (by simp <;> omega) _).setCell (by simp <;> omega) _).mono (by omega)
  · exact (((HB.out.setCell (by simp <;> omega) _).setCell (by simp <;> omega) _).setCell (by simp <;> omega) _).setCell (by simp <;> omega) _

set_option maxHeartbeats 2000000 in
theorem toStep_any (k a b c : Int) (A : Option Addr) (cap : Nat) (xs : List Int) (w : World) (hR : IntsAt w A xs) (hm : xs.length ≤ 1048576) :
    Calls Tryz.prog 16 #[.agg #[.int .i64 k, .int .i64 a, .int .i64 b, .int .i64 c, .slice A xs.length cap]] w fun e w' => ∃ u, e = .returned (.agg #[.int .i64 k, .int .i64 a, .int .i64 b, .int .i64 c, u]) ∧ OwnInts w' w.heap.size u xs ∧ Below w.heap.size w w' := by
  have HM := Lib.hid (show xs.length ≤ 1099511627776 by omega)
  clear hm
  go_enter Tryz.func16, Tryz.ntmps16
  go_wp2_with fail
  refine (toIntS_any _ _ _ _ (hR.ext (((Below.refl _ _).alloc (by simp) _ |>.alloc (by simp) _).alloc (by simp <;> omega) _)) HM.out).mono ?_
  rintro e w' ⟨u2, rfl, hu2, hbel2⟩
  obtain ⟨A2, c2, rfl, _⟩ := hu2.view
  obtain ⟨⟨x0, x1, x2, x3, x4⟩, _, _, _, _, x9⟩ := box5 hbel2 (b := w.heap.size + 1 + 1) (heap_at _ _ (by simp))
  obtain ⟨⟨y0, y1, y2, y3, y4⟩, y5, y6, y7, y8, y9⟩ := box5 hbel2 (b := w.heap.size + 1) ((heap_past _ _ (by simp)).trans (heap_at _ _ (by simp)))
  simp only [World.size_alloc] at hu2
  have hbel3 := hbel2.mono (B' := w.heap.size) (by simp <;> omega)
  have hb3 := (((Below.refl w.heap.size w).alloc (by simp) _ |>.alloc (by simp) _).alloc (by simp <;> omega) _).trans hbel3
  have H3 := Lib.hid hu2
  have HB := Lib.hid hb3
  clear hu2 hb3 hbel3 hbel2
  go_wp2
  refine bodyPost_ret (v := .agg #[.int .i64 k, .int .i64 a, .int .i64 b, .int .i64 c, .slice A2 xs.length c2]) (by simp [results, Tryz.results16, go_sem, *]) rfl ⟨_, rfl, ?_, ?_⟩
  · exact ((((((H3.out.setCell (by simp <;> omega) _).setCell (by simp <;> omega) _).setCell (by simp <;> omega) _).setCell (by simp <;> omega) _).setCell (by simp <;> omega) _).setCell (by simp <;> omega) _).mono (by omega)
  · exact (((((HB.out.setCell (by simp <;> omega) _).setCell (by simp <;> omega) _).setCell (by simp <;> omega) _).setCell (by simp <;> omega) _).setCell (by simp <;> omega) _).setCell (by simp <;> omega) _
end Go.Proofs.YtjdbfokbgmbphaaGreatDoor
