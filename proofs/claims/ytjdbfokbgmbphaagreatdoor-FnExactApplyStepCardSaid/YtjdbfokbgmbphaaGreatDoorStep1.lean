/- fieldsOf, validSystem. Conditions: validSystem: as isSystem. -/
import Derived.Test.YtjdbfokbgmbphaaGreatDoorDo5
namespace Go.Proofs.YtjdbfokbgmbphaaGreatDoor
set_option linter.unusedVariables false
set_option linter.unusedSimpArgs false
open Go.RowKit

/-- Which fields a kind uses: row, other, factor, line. -/
def fldA (k : Int) : Bool := !(k == 8 || k == 9)
def fldB (k : Int) : Bool := k == 1 || k == 6 || k == 3 || k == 7 || k == 8 || k == 9
def fldC (k : Int) : Bool := k == 2 || k == 3
def fldL (k : Int) : Bool := k == 7

theorem fieldsOf_any (k : Int) (w : World) : Calls Tryz.prog 111 #[.int .i64 k] w fun e w' =>
    e = .returned (.agg #[.bool (fldA k), .bool (fldB k), .bool (fldC k), .bool (fldL k)]) ∧ Below w.heap.size w w' := by
  by_cases h1 : k = 1
  · subst h1; go_enter Tryz.func111, Tryz.ntmps111; go_wp2; exact bodyPost_ret (v := .agg #[.bool true, .bool true, .bool false, .bool false]) (by simp [results, Tryz.results111, go_sem]) rfl ⟨rfl, (Below.refl _ _).alloc (Nat.le_refl _) _⟩
  by_cases h6 : k = 6
  · subst h6; go_enter Tryz.func111, Tryz.ntmps111; go_wp2; exact bodyPost_ret (v := .agg #[.bool true, .bool true, .bool false, .bool false]) (by simp [results, Tryz.results111, go_sem]) rfl ⟨rfl, (Below.refl _ _).alloc (Nat.le_refl _) _⟩
  by_cases h2 : k = 2
  · subst h2; go_enter Tryz.func111, Tryz.ntmps111; go_wp2; exact bodyPost_ret (v := .agg #[.bool true, .bool false, .bool true, .bool false]) (by simp [results, Tryz.results111, go_sem]) rfl ⟨rfl, (Below.refl _ _).alloc (Nat.le_refl _) _⟩
  by_cases h3 : k = 3
  · subst h3; go_enter Tryz.func111, Tryz.ntmps111; go_wp2; exact bodyPost_ret (v := .agg #[.bool true, .bool true, .bool true, .bool false]) (by simp [results, Tryz.results111, go_sem]) rfl ⟨rfl, (Below.refl _ _).alloc (Nat.le_refl _) _⟩
  by_cases h7 : k = 7
  · subst h7; go_enter Tryz.func111, Tryz.ntmps111; go_wp2; exact bodyPost_ret (v := .agg #[.bool true, .bool true, .bool false, .bool true]) (by simp [results, Tryz.results111, go_sem]) rfl ⟨rfl, (Below.refl _ _).alloc (Nat.le_refl _) _⟩
  by_cases h8 : k = 8
  · subst h8; go_enter Tryz.func111, Tryz.ntmps111; go_wp2; exact bodyPost_ret (v := .agg #[.bool false, .bool true, .bool false, .bool false]) (by simp [results, Tryz.results111, go_sem]) rfl ⟨rfl, (Below.refl _ _).alloc (Nat.le_refl _) _⟩
  by_cases h9 : k = 9
  · subst h9; go_enter Tryz.func111, Tryz.ntmps111; go_wp2; exact bodyPost_ret (v := .agg #[.bool false, .bool true, .bool false, .bool false]) (by simp [results, Tryz.results111, go_sem]) rfl ⟨rfl, (Below.refl _ _).alloc (Nat.le_refl _) _⟩
  go_enter Tryz.func111, Tryz.ntmps111
  go_wp2
  exact bodyPost_ret (v := .agg #[.bool true, .bool false, .bool false, .bool false]) (by simp [results, Tryz.results111, go_sem]) rfl ⟨by simp [fldA, fldB, fldC, fldL, *], (Below.refl _ _).alloc (Nat.le_refl _) _⟩

set_option maxHeartbeats 2000000 in
theorem validSystem_any (p v h : Int) (A : Option Addr) (cap : Nat) (rows : List (List Int)) (w : World) (hP : Primes w) (hR : RowsAt w A rows) (hm : rows.length ≤ maxLen) (hms : ∀ r ∈ rows, r.length ≤ maxLen) :
    Calls Tryz.prog 94 #[.int .i64 p, .agg #[.int .i64 v, .int .i64 h, .slice A rows.length cap]] w fun e w' =>
      (sysB p v h rows = true → e = .returned (.tuple #[.agg #[.int .i64 v, .int .i64 h, .slice A rows.length cap], .bool true])) ∧ (sysB p v h rows = false → e = .returned (.tuple #[.agg #[.int .i64 0, .int .i64 0, .slice none 0 0], .bool false])) ∧ Below w.heap.size w w' := by
  have HMS := Lib.hid hms
  have HM := Lib.hid hm
  clear hms hm
  go_enter Tryz.func94, Tryz.ntmps94
  go_wp2_with fail
  have hB : Below w.heap.size w ((w.alloc (.cells #[.int .i64 v, .int .i64 h, .slice A rows.length cap] 30)).alloc (.cells #[.int .i64 0, .int .i64 0, .slice none 0 0] 30)) := ((Below.refl w.heap.size w).alloc (by simp) _).alloc (by simp) _
  refine (isSystem_any p v h A cap rows _ (hP.ext hB) (hR.ext hB) HM.out HMS.out).mono ?_
  rintro e w1 ⟨rfl, hb1⟩
  have q1 : ((w.alloc (.cells #[.int .i64 v, .int .i64 h, .slice A rows.length cap] 30)).alloc (.cells #[.int .i64 0, .int .i64 0, .slice none 0 0] 30)).heap[w.heap.size]? = some (.cells #[.int .i64 v, .int .i64 h, .slice A rows.length cap] 30 (0, 0)) := (heap_past _ _ (by simp)).trans (heap_at _ _ rfl)
  have q2 : ((w.alloc (.cells #[.int .i64 v, .int .i64 h, .slice A rows.length cap] 30)).alloc (.cells #[.int .i64 0, .int .i64 0, .slice none 0 0] 30)).heap[w.heap.size + 1]? = some (.cells #[.int .i64 0, .int .i64 0, .slice none 0 0] 30 (0, 0)) := heap_at _ _ (by simp)
  have m2w := boxb hb1 q1
  have k2w := boxb hb1 q2
  have e0 := blk_cell m2w 0
  have e1 := blk_cell m2w 1
  have e2 := blk_cell m2w 2
  have e3 := blk_cell k2w 0
  have e4 := blk_cell k2w 1
  have e5 := blk_cell k2w 2
  have e6 := blk_free k2w 0
  have e7 := blk_free k2w 1
  have e8 := blk_free k2w 2
  simp only [List.getElem?_cons_zero, List.getElem?_cons_succ] at e0 e1 e2 e3 e4 e5
  have HE := Lib.hid (hB.trans (hb1.mono (B' := w.heap.size) (by simp <;> omega)))
  clear hB hb1 q1 q2 m2w k2w
  cases hs : sysB p v h rows
  · have HS := Lib.hid hs
    clear hs
    go_wp2
    refine bodyPost_ret (v := .tuple #[.agg #[.int .i64 0, .int .i64 0, .slice none 0 0], .bool false]) (by simp [results, Tryz.results94, go_sem, *]) rfl ⟨fun h => (by rw [HS.out] at h; cases h), fun _ => rfl, ?_⟩
    exact ((HE.out.setCell (by simp <;> omega) _).setCell (by simp <;> omega) _).setCell (by simp <;> omega) _
  · have HS := Lib.hid hs
    clear hs
    go_wp2
    refine bodyPost_ret (v := .tuple #[.agg #[.int .i64 v, .int .i64 h, .slice A rows.length cap], .bool true]) (by simp [results, Tryz.results94, go_sem, *]) rfl ⟨fun _ => rfl, fun h => (by rw [HS.out] at h; cases h), ?_⟩
    exact ((HE.out.setCell (by simp <;> omega) _).setCell (by simp <;> omega) _).setCell (by simp <;> omega) _
end Go.Proofs.YtjdbfokbgmbphaaGreatDoor
