/- What the laws keep in hand while arguments and results are marked; results are systems. heldSystem. Conditions: lengths of at most 2^20. -/
import Derived.Test.YtjdbfokbgmbphaaGreatDoorUS
namespace Go.Proofs.YtjdbfokbgmbphaaGreatDoor
set_option linter.unusedVariables false
set_option linter.unusedSimpArgs false
open Go.RowKit

theorem numRows_get (k : Int) (rows : List (List Int)) (j : Nat) (r : List Int) (h : rows[j]? = some r) : (numRows k rows)[j]? = some (nums (k + tot (rows.take j)) r.length) := by
  induction rows generalizing k j with
  | nil => simp at h
  | cons a l ih =>
    cases j with
    | zero => simp at h; subst h; simp [numRows, tot]
    | succ j =>
      simp only [List.getElem?_cons_succ] at h
      simp only [numRows, List.getElem?_cons_succ, List.take_succ_cons, tot]
      rw [ih _ _ h, Int.add_assoc]

set_option maxHeartbeats 2000000 in
theorem heldIntSS_any (k : Int) (A : Option Addr) (cap : Nat) (rows : List (List Int)) (w : World) (h : RowsAt w A (numRows k rows)) (hl : rows.length ≤ 1048576) (hls : ∀ r ∈ rows, r.length ≤ 1048576) (hk : 0 ≤ k) (hk' : k ≤ 1125899906842624) :
    Calls Tryz.prog 58 #[.slice A rows.length cap, .int .i64 k] w fun e w' => e = .returned (.int .i64 (k + tot rows)) ∧ w = w' := by
  have HLS := Lib.hid hls; have HH := Lib.hid h
  clear h hls
  go_enter Tryz.func58, Tryz.ntmps58
  go_wp2
  go_loop [1, 5] (fun q i => ∃ j : Nat, j ≤ rows.length ∧ i = .int .i64 j ∧ q = .int .i64 (k + tot (rows.take j))) (fun _ i => rows.length - (intOf i).toNat)
  case atStart => exact ⟨0, Nat.zero_le _, rfl, by simp [tot]⟩
  case round =>
    obtain ⟨j, hj, rfl, rfl⟩ := hrel
    have ht0 := tot_nonneg (rows.take j)
    have ht1 := tot_take_le rows j hl HLS.out
    by_cases hlt : j < rows.length
    · obtain ⟨r, hr⟩ := get_of_lt hlt
      have hg := numRows_get k rows j r hr
      obtain ⟨b, o, rfl, hc⟩ := HH.out.here (show j < (numRows k rows).length by rw [numRows_len]; exact hlt)
      obtain ⟨A', cap', hck, hin⟩ := hc _ _ hg
      rw [nums_len] at hck
      have HRL := Lib.hid (HLS.out r (List.mem_of_getElem? hr))
      have HIN := Lib.hid hin; have HR := Lib.hid hr
      clear hc hin hr hg
      go_wp2_with (go_at_call 65; refine (heldIntS_any _ A' cap' r.length _ HIN.out HRL.out (by omega) (by omega)).mono ?_; rintro e w2 ⟨rfl, rfl⟩)
      go_round
      case rel => exact ⟨j+1, by omega, by go_num, by rw [tot_take_succ rows j r HR.out, Int.add_assoc]⟩
      case measure => simp [intOf]; omega
    · have HJ := Lib.hid (show j = rows.length by omega)
      go_wp2
      go_ret
      exact ⟨ret_int (by rw [HJ.out, List.take_length]), rfl⟩

theorem heldSystem_any (k a b : Int) (A : Option Addr) (cap : Nat) (rows : List (List Int)) (w : World) (h : RowsAt w A (numRows k rows)) (hl : rows.length ≤ 1048576) (hls : ∀ r ∈ rows, r.length ≤ 1048576) (hk : 0 ≤ k) (hk' : k ≤ 1125899906842624) :
    Calls Tryz.prog 22 #[.agg #[.int .i64 a, .int .i64 b, .slice A rows.length cap], .int .i64 k] w fun e w' => e = .returned (.int .i64 (k + tot rows)) ∧ Below w.heap.size w w' := by
  have hB : Below w.heap.size w (w.alloc (.cells #[.int .i64 a, .int .i64 b, .slice A rows.length cap] 30)) := (Below.refl _ _).alloc (Nat.le_refl _) _
  have HH := Lib.hid (h.ext hB); have HB := Lib.hid hB; have HLS := Lib.hid hls
  have ht0 := tot_nonneg rows
  have ht1 := tot_take_le rows rows.length hl hls
  rw [List.take_length] at ht1
  clear h hB hls
  go_enter Tryz.func22, Tryz.ntmps22
  go_wp2_with (go_at_call 58; refine (heldIntSS_any k A cap rows _ HH.out hl HLS.out hk hk').mono ?_; rintro e w2 ⟨rfl, rfl⟩)
  go_ret
  exact ⟨rfl, HB.out⟩

/-- The result of the reference (box 8), the system (10), the step (11), the program's result (12): each in a box and in slices of blocks of its own. Results are systems. -/
structure UA (w2 : World) (E8 E10 E11 E12 : Array Value) (v8 v10 v11 v12 : Value) (R8 R10 : List (List Int)) (r11 : List Int) (R12 : List (List Int)) (l8 h8 b8 l10 h10 b10 l11 h11 b11 l12 h12 b12 : Nat) (W : World) : Prop where
  base : Below w2.heap.size w2 W
  ord : w2.heap.size ≤ b8 ∧ w2.heap.size ≤ l8 ∧ l8 ≤ h8 ∧ (b8 < l8 ∨ h8 ≤ b8) ∧ b8 < l10 ∧ h8 ≤ l10 ∧ l10 ≤ h10 ∧ h10 ≤ b10 ∧ b10 < l11 ∧ l11 ≤ h11 ∧ h11 ≤ b11 ∧ b11 < l12 ∧ l12 ≤ h12 ∧ h12 ≤ b12
  x8 : W.heap[b8]? = some (.cells E8 30 (0, 0))
  x10 : W.heap[b10]? = some (.cells E10 30 (0, 0))
  x11 : W.heap[b11]? = some (.cells E11 34 (0, 0))
  x12 : W.heap[b12]? = some (.cells E12 30 (0, 0))
  o8 : Has W l8 h8 v8 R8
  o10 : Has W l10 h10 v10 R10
  o11 : HasI W l11 h11 v11 r11
  o12 : Has W l12 h12 v12 R12
section
variable {w2 : World} {E8 E10 E11 E12 : Array Value} {v8 v10 v11 v12 : Value} {R8 R10 : List (List Int)} {r11 : List Int} {R12 : List (List Int)} {l8 h8 b8 l10 h10 b10 l11 h11 b11 l12 h12 b12 : Nat} {W W' : World}
theorem UA.ext (h : UA w2 E8 E10 E11 E12 v8 v10 v11 v12 R8 R10 r11 R12 l8 h8 b8 l10 h10 b10 l11 h11 b11 l12 h12 b12 W) (hb : Below W.heap.size W W') : UA w2 E8 E10 E11 E12 v8 v10 v11 v12 R8 R10 r11 R12 l8 h8 b8 l10 h10 b10 l11 h11 b11 l12 h12 b12 W' :=
  ⟨below_ext h.base hb, h.ord, box_at h.x8 hb, box_at h.x10 hb, box_at h.x11 hb, box_at h.x12 hb, h.o8.ext hb, h.o10.ext hb, h.o11.ext hb, h.o12.ext hb⟩
theorem UA.mark10 (h : UA w2 E8 E10 E11 E12 v8 v10 v11 v12 R8 R10 r11 R12 l8 h8 b8 l10 h10 b10 l11 h11 b11 l12 h12 b12 W) (hw : Within l10 h10 W W') {R : List (List Int)} (ho : Has W' l10 h10 v10 R) : UA w2 E8 E10 E11 E12 v8 v10 v11 v12 R8 R r11 R12 l8 h8 b8 l10 h10 b10 l11 h11 b11 l12 h12 b12 W' := by
  obtain ⟨a1, a2, a3, a4, a5, a6, a7, a8, a9, a10, a11, a12, a13, a14⟩ := h.ord
  exact ⟨h.base.trans (hw.below (by omega) h.base.size), h.ord, box_in h.x8 hw (by omega), box_in h.x10 hw (by omega), box_in h.x11 hw (by omega), box_in h.x12 hw (by omega), h.o8.within hw (by omega), ho, h.o11.within hw (by omega), h.o12.within hw (by omega)⟩
theorem UA.mark11 (h : UA w2 E8 E10 E11 E12 v8 v10 v11 v12 R8 R10 r11 R12 l8 h8 b8 l10 h10 b10 l11 h11 b11 l12 h12 b12 W) (hw : Within l11 h11 W W') {r : List Int} (ho : HasI W' l11 h11 v11 r) : UA w2 E8 E10 E11 E12 v8 v10 v11 v12 R8 R10 r R12 l8 h8 b8 l10 h10 b10 l11 h11 b11 l12 h12 b12 W' := by
  obtain ⟨a1, a2, a3, a4, a5, a6, a7, a8, a9, a10, a11, a12, a13, a14⟩ := h.ord
  exact ⟨h.base.trans (hw.below (by omega) h.base.size), h.ord, box_in h.x8 hw (by omega), box_in h.x10 hw (by omega), box_in h.x11 hw (by omega), box_in h.x12 hw (by omega), h.o8.within hw (by omega), h.o10.within hw (by omega), ho, h.o12.within hw (by omega)⟩
theorem UA.mark12 (h : UA w2 E8 E10 E11 E12 v8 v10 v11 v12 R8 R10 r11 R12 l8 h8 b8 l10 h10 b10 l11 h11 b11 l12 h12 b12 W) (hw : Within l12 h12 W W') {R : List (List Int)} (ho : Has W' l12 h12 v12 R) : UA w2 E8 E10 E11 E12 v8 v10 v11 v12 R8 R10 r11 R l8 h8 b8 l10 h10 b10 l11 h11 b11 l12 h12 b12 W' := by
  obtain ⟨a1, a2, a3, a4, a5, a6, a7, a8, a9, a10, a11, a12, a13, a14⟩ := h.ord
  exact ⟨h.base.trans (hw.below (by omega) h.base.size), h.ord, box_in h.x8 hw (by omega), box_in h.x10 hw (by omega), box_in h.x11 hw (by omega), box_in h.x12 hw (by omega), h.o8.within hw (by omega), h.o10.within hw (by omega), h.o11.within hw (by omega), ho⟩
end

theorem below_set3' {B : Nat} {w w' : World} (h : Below B w w') {b : Nat} (hb : B ≤ b) (v0 v1 v2 : Value) : Below B w (((w'.setCell ⟨b, 0, none⟩ v0).setCell ⟨b, 1, none⟩ v1).setCell ⟨b, 2, none⟩ v2) := ((h.setCell hb _).setCell hb _).setCell hb _
theorem set3_block {w : World} {b : Nat} {z0 z1 z2 v0 v1 v2 : Value} {t : TypeId} (h : w.heap[b]? = some (.cells #[z0, z1, z2] t (0, 0))) :
    (((w.setCell ⟨b, 0, none⟩ v0).setCell ⟨b, 1, none⟩ v1).setCell ⟨b, 2, none⟩ v2).heap[b]? = some (.cells #[v0, v1, v2] t (0, 0)) := by
  have e1 := heap_setCell_same w b 0 _ _ v0 h
  have e2 := heap_setCell_same _ b 1 _ _ v1 e1
  have e3 := heap_setCell_same _ b 2 _ _ v2 e2
  simpa using e3

/-- A system that a call has answered, stored in a box: the box, and the slices, in blocks that are younger than the world w2. -/
def ResA (w2 : World) (v' h' : Int) (R' : List (List Int)) (ok : Bool) (s8 s9 : Value) (W : World) : Prop :=
  ∃ (b8 l8 h8 : Nat) (A8 : Option Addr) (c8 : Nat), s8 = .pointer (some ⟨b8, 0, none⟩) ∧ s9 = .bool ok ∧ Below w2.heap.size w2 W ∧
    (w2.heap.size ≤ b8 ∧ w2.heap.size ≤ l8 ∧ l8 ≤ h8 ∧ (b8 < l8 ∨ h8 ≤ b8) ∧ b8 < W.heap.size ∧ h8 ≤ W.heap.size) ∧
    W.heap[b8]? = some (.cells #[.int .i64 v', .int .i64 h', .slice A8 R'.length c8] 30 (0, 0)) ∧ Has W l8 h8 (.slice A8 R'.length c8) R'
theorem ResA.late {w2 w4 w5 : World} {v' h' : Int} {R' : List (List Int)} {ok : Bool} {A8 : Option Addr} {c8 : Nat} (hb : Below w2.heap.size w2 w5) (hu : OwnRows w5 w4.heap.size (.slice A8 R'.length c8) R') (h4 : w2.heap.size ≤ w4.heap.size) (h5 : w4.heap.size ≤ w5.heap.size) :
    ResA w2 v' h' R' ok (.pointer (some ⟨w5.heap.size, 0, none⟩)) (.bool ok) (w5.alloc (.cells #[.int .i64 v', .int .i64 h', .slice A8 R'.length c8] 30)) :=
  ⟨_, w4.heap.size, w5.heap.size, A8, c8, rfl, rfl, hb.alloc hb.size _, ⟨hb.size, h4, h5, Or.inr (Nat.le_refl _), by simp, by simp⟩, heap_at _ _ rfl, (Has.of hu).ext ((Below.refl _ _).alloc (Nat.le_refl _) _)⟩
theorem ResA.early {w2 w5 : World} {v' h' : Int} {R' : List (List Int)} {ok : Bool} {A8 : Option Addr} {c8 b8 l8 : Nat} {z0 z1 z2 : Value} (hb : Below w2.heap.size w2 w5) (hu : OwnRows w5 l8 (.slice A8 R'.length c8) R') (hq : w5.heap[b8]? = some (.cells #[z0, z1, z2] 30 (0, 0)))
    (h8 : w2.heap.size ≤ b8 ∧ b8 + 1 ≤ l8) (h5 : l8 ≤ w5.heap.size) :
    ResA w2 v' h' R' ok (.pointer (some ⟨b8, 0, none⟩)) (.bool ok) (((w5.setCell ⟨b8, 0, none⟩ (.int .i64 v')).setCell ⟨b8, 1, none⟩ (.int .i64 h')).setCell ⟨b8, 2, none⟩ (.slice A8 R'.length c8)) :=
  ⟨b8, l8, w5.heap.size, A8, c8, rfl, rfl, below_set3' hb h8.1 _ _ _, ⟨h8.1, by omega, h5, Or.inl (by omega), by have := (Array.getElem?_eq_some_iff.1 hq).1; simp; omega, by simp⟩, set3_block hq, by
    have := Has.of (((hu.setCell (a := ⟨b8, 0, none⟩) (by simp <;> omega) (.int .i64 v')).setCell (a := ⟨b8, 1, none⟩) (by simp <;> omega) (.int .i64 h')).setCell (a := ⟨b8, 2, none⟩) (by simp <;> omega) (.slice A8 R'.length c8))
    simpa using this⟩
end Go.Proofs.YtjdbfokbgmbphaaGreatDoor
