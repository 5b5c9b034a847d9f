/- Copies of slices of slices: clones, toIntSS; and of systems and steps: copy, toSystem, toStep. Conditions: lengths of at most 2^20. -/
import Derived.Test.YtjdbfokbgmbphaaGreatDoorOwn3
namespace Go.Proofs.YtjdbfokbgmbphaaGreatDoor
set_option linter.unusedVariables false
set_option linter.unusedSimpArgs false
open Go.RowKit

theorem OwnRows.empty {w : World} {B : Nat} {v : Value} (h : w.ownsRow B 25 1 v 0 []) : OwnRows w B v [] :=
  ⟨[], h, fun k u r hu => by simp at hu, fun i j u u' b hu => by simp at hu⟩

set_option maxHeartbeats 1000000 in
theorem clones_any (A : Option Addr) (cap : Nat) (rows : List (List Int)) (w : World) (hR : RowsAt w A rows) (hm : rows.length ≤ 1048576) (hms : ∀ r ∈ rows, r.length ≤ 1048576) :
    Calls Tryz.prog 112 #[.slice A rows.length cap] w fun e w' => ∃ u, e = .returned u ∧ OwnRows w' w.heap.size u rows ∧ Below w.heap.size w w' := by
  obtain ⟨i0, hi, hz0, hz1, hz2⟩ := info_parts infoRow
  go_enter Tryz.func112, Tryz.ntmps112
  go_wp2_with ((at_make; refine wpList_make_own _ rfl _ _ 22 rfl w.heap.size 25 i0 (.slice none 0 0) 1 Tryz.underlying22 hi hz0 hz1 .i64 .i64 rows.length rows.length rfl rfl rfl (by rw [hz2]; omega) (by unfold maxLen; omega) (Nat.le_refl _) ?_; intro w1 hown hgrow))
  have hbel0 := grown_none_below hgrow
  have HO := Lib.hid (OwnRows.empty hown)
  clear hown hgrow
  go_loopw [3, 11] (fun u i wr => ∃ k : Nat, k ≤ rows.length ∧ i = .int .i64 k ∧ OwnRows wr w.heap.size u (rows.take k) ∧ Below w.heap.size w wr)
    (fun _ i _ => rows.length - (intOf i).toNat)
  case atStart => exact ⟨0, Nat.zero_le _, rfl, HO.out, hbel0⟩
  case round =>
    obtain ⟨k, hk, rfl, hown, hbel⟩ := hrel
    have Hown := Lib.hid hown
    clear hown HO hbel0
    by_cases hlt : k < rows.length
    · obtain ⟨r, hr⟩ := get_of_lt hlt
      obtain ⟨bb, o, rfl, hc⟩ := (hR.ext hbel).here hlt
      obtain ⟨A', cap', hck, hin⟩ := hc k r hr
      have HM := Lib.hid (show r.length ≤ 1099511627776 by have := hms r (List.mem_of_getElem? hr); omega)
      have HT := Lib.hid (show rows.take (k + 1) = rows.take k ++ [r] by rw [List.take_add_one, hr]; rfl)
      have hsz := hbel.size
      have HN := Lib.hid (show (rows.take k).length + 1 ≤ 1073741824 by simp; omega)
      have hm2 : rows.length < 9223372036854775807 := by omega
      clear hr hc hR hms hm
      go_wp2_with (first | (go_at_call 120; refine (clone_any _ _ _ _ hin HM.out).mono ?_; rintro e w' ⟨u2, rfl, hu2, hbel2⟩; obtain ⟨A2, c2, rfl, _⟩ := hu2.view) | (at_builtin; refine wp_appendRow rfl _ _ rfl w.heap.size wr _ _ _ _ _ Hown.out hbel2 hu2 HN.out hsz rfl rfl ?_; intro u' w1 hown1 hbel1))
      go_roundw
      case rel => exact ⟨k+1, by omega, by go_num, by rw [HT.out]; exact hown1, hbel.trans hbel1⟩
      case measure => simp [intOf]; omega
    · go_wp2
      go_ret
      have h := Hown.out
      rw [List.take_of_length_le (by omega)] at h
      exact ⟨_, rfl, h, hbel⟩

theorem made_rows (n : Nat) : (madeCells (Value.slice none 0 0).cells (n * 1)).toList = List.replicate n (Value.slice none 0 0) := by
  apply List.ext_getElem?
  intro k
  simp only [madeCells, Value.cells, Nat.mul_one, Array.toList_map, Array.toList_range, List.getElem?_map, List.getElem?_replicate]
  by_cases hk : k < n
  · simp [hk, Nat.mod_one]
  · simp [hk]

theorem OwnRowsW.made {w : World} {B n : Nat} {v : Value} (h : w.ownsRow B 25 1 v n (madeCells (Value.slice none 0 0).cells (n * 1)).toList) : OwnRowsW w B v (List.replicate n []) (List.replicate n (.slice none 0 0)) := by
  rw [made_rows] at h
  refine ⟨by simpa using h, ?_, ?_⟩
  · intro k u r hu hr
    rw [List.getElem?_replicate] at hu hr
    by_cases hk : k < n
    · rw [if_pos hk] at hu hr
      cases hu; cases hr
      exact OwnInts.nil _ _
    · rw [if_neg hk] at hu; cases hu
  · intro i j u u' b hu _ hb
    rw [List.getElem?_replicate] at hu
    by_cases hk : i < n
    · rw [if_pos hk] at hu; cases hu; cases hb
    · rw [if_neg hk] at hu; cases hu

set_option maxHeartbeats 1000000 in
theorem toIntSS_any (A : Option Addr) (cap : Nat) (rows : List (List Int)) (w : World) (hR : RowsAt w A rows) (hm : rows.length ≤ 1048576) (hms : ∀ r ∈ rows, r.length ≤ 1048576) :
    Calls Tryz.prog 50 #[.slice A rows.length cap] w fun e w' => ∃ u, e = .returned u ∧ OwnRows w' w.heap.size u rows ∧ Below w.heap.size w w' := by
  obtain ⟨i0, hi, hz0, hz1, hz2⟩ := info_parts infoRow
  go_enter Tryz.func50, Tryz.ntmps50
  go_wp2_with ((at_make; refine wpList_make_full _ rfl _ _ 22 rfl w.heap.size 25 i0 (.slice none 0 0) 1 Tryz.underlying22 hi hz0 hz1 .i64 .i64 rows.length rows.length rows.length rfl rfl rfl rfl (by rw [hz2]; omega) (by unfold maxLen; omega) (Nat.le_refl _) ?_; intro w1 hown hgrow))
  have hbel0 := grown_none_below hgrow
  have HO := Lib.hid (OwnRowsW.made hown)
  clear hown hgrow
  go_loopw [4] (fun i wr => ∃ k : Nat, k ≤ rows.length ∧ i = .int .i64 k ∧ (∃ us, OwnRowsW wr w.heap.size (.slice (some ⟨w.heap.size, 0, none⟩) rows.length rows.length) (fillTo rows [] k) us) ∧ Below w.heap.size w wr)
    (fun i _ => rows.length - (intOf i).toNat)
  case atStart => exact ⟨0, Nat.zero_le _, rfl, ⟨_, by rw [fillTo_zero]; exact HO.out⟩, hbel0⟩
  case round =>
    obtain ⟨k, hk, rfl, ⟨us, hown⟩, hbel⟩ := hrel
    have Hown := Lib.hid hown
    clear hown HO hbel0
    by_cases hlt : k < rows.length
    · obtain ⟨r, hr⟩ := get_of_lt hlt
      obtain ⟨bb, o, rfl, hc⟩ := (hR.ext hbel).here hlt
      obtain ⟨A', cap', hck, hin⟩ := hc k r hr
      have HM := Lib.hid (show r.length ≤ 1099511627776 by have := hms r (List.mem_of_getElem? hr); omega)
      have HS := Lib.hid (fillTo_set rows [] r k hr)
      have HL := Lib.hid (show rows.length = (fillTo rows [] k).length by simp [fillTo]; omega)
      have hsz := hbel.size
      have hm2 : rows.length < 9223372036854775807 := by omega
      clear hr hc hR hms hm
      go_wp2_with ((go_at_call 51; refine (toIntS_any _ _ _ _ hin HM.out).mono ?_; rintro e w' ⟨u2, rfl, hu2, hbel2⟩; obtain ⟨q1, q2, ⟨v0, q3⟩, q4⟩ := OwnRowsW.set HL.out Hown.out hbel2 hu2 hsz hlt; obtain ⟨A2, c2, rfl, _⟩ := hu2.view; have Q1 := Lib.hid q1; have Q2 := Lib.hid q2; clear q1 q2 hu2))
      go_roundw
      case rel => exact ⟨k+1, by omega, by go_num, ⟨_, by rw [← HS.out]; exact Q1.out⟩, hbel.trans Q2.out⟩
      case measure => simp [intOf]; omega
    · go_wp2
      go_ret
      have h := Hown.out
      rw [fillTo_all _ _ _ (by omega)] at h
      exact ⟨_, rfl, ⟨_, h⟩, hbel⟩
end Go.Proofs.YtjdbfokbgmbphaaGreatDoor
