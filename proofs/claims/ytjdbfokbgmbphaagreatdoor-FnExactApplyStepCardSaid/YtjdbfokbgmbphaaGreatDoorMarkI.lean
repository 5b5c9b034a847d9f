/- The laws' marks: numbers written one behind the other into a slice, and read back. Conditions: lengths of at most 2^20, numbers of at most 2^60. -/
import Derived.Test.YtjdbfokbgmbphaaGreatDoorWin
namespace Go.Proofs.YtjdbfokbgmbphaaGreatDoor
set_option linter.unusedVariables false
set_option linter.unusedSimpArgs false
open Go.RowKit

theorem grown_refl (w : World) (r : Option Nat) : w.grownBy w r := ⟨rfl, rfl, rfl, Nat.le_refl _, fun _ _ _ => rfl⟩
theorem grown_trans {a b c : World} {r : Option Nat} (h : a.grownBy b r) (k : b.grownBy c r) : a.grownBy c r :=
  ⟨k.os.trans h.os, k.tape.trans h.tape, k.output.trans h.output, Nat.le_trans h.size k.size, fun i hi hne => (k.block i (Nat.lt_of_lt_of_le hi h.size) hne).trans (h.block i hi hne)⟩
theorem Within.of_own {lo hi : Nat} {w w' : World} {r : Option Nat} (h : w.grownBy w' r) (hv : ∀ b, r = some b → lo ≤ b ∧ b < hi) : Within lo hi w w' :=
  ⟨h.os, h.tape, h.output, h.size, fun k hk hr => h.block k hk (fun e => by have := hv k e.symm; omega)⟩
/-- n numbers from k on. -/
def nums (k : Int) (n : Nat) : List Int := (List.range n).map fun (i : Nat) => k + (i : Int)
theorem nums_len (k : Int) (n : Nat) : (nums k n).length = n := by simp [nums]
theorem nums_get (k : Int) (n j : Nat) (h : j < n) : (nums k n)[j]? = some (k + j) := by simp [nums, h]
theorem nums_succ (k : Int) (n : Nat) : nums k (n + 1) = nums k n ++ [k + n] := by simp [nums, List.range_succ]
def numTo (k : Int) (xs : List Int) (j : Nat) : List Int := nums k j ++ xs.drop j
theorem numTo_len (k : Int) (xs : List Int) (j : Nat) (h : j ≤ xs.length) : (numTo k xs j).length = xs.length := by simp [numTo, nums_len]; omega
theorem numTo_all (k : Int) (xs : List Int) (j : Nat) (h : j = xs.length) : numTo k xs j = nums k xs.length := by subst h; simp [numTo]
theorem numTo_set (k : Int) (xs : List Int) (j : Nat) (h : j < xs.length) : (numTo k xs j).set j (k + j) = numTo k xs (j + 1) := by
  unfold numTo
  rw [List.set_append_right _ _ (by rw [nums_len]; omega), nums_len, Nat.sub_self, List.drop_eq_getElem_cons h, List.set_cons_zero, nums_succ, List.append_assoc]
  rfl

set_option maxHeartbeats 1000000 in
theorem markIntS_any (k : Int) (lo : Nat) (A : Option Addr) (cap : Nat) (xs : List Int) (w : World) (h : OwnInts w lo (.slice A xs.length cap) xs) (hl : xs.length ≤ 1048576) (hk : 0 ≤ k) (hk' : k ≤ 1152921504606846976) :
    Calls Tryz.prog 57 #[.slice A xs.length cap, .int .i64 k] w fun e w' => e = .returned (.int .i64 (k + xs.length)) ∧ OwnInts w' lo (.slice A xs.length cap) (nums k xs.length) ∧ w.grownBy w' (Value.slice A xs.length cap).ownBlock := by
  by_cases h0 : xs.length = 0
  · have hx : xs = [] := List.eq_nil_of_length_eq_zero h0
    subst hx
    have HH := Lib.hid h
    clear h h0
    go_enter Tryz.func57, Tryz.ntmps57
    go_wp2
    go_loopw [1, 5] (fun q i wr => i = .int .i64 0 ∧ q = .int .i64 k ∧ wr = w) (fun _ _ _ => 0)
    case atStart => exact ⟨rfl, rfl, rfl⟩
    case round =>
      obtain ⟨rfl, rfl, rfl⟩ := hrel
      go_wp2
      go_ret
      exact ⟨ret_int (by simp), HH.out, grown_refl _ _⟩
  · obtain ⟨g, cap', hv, hg1, hg2⟩ := World.ownsRow.form h (by omega)
    simp only [Value.slice.injEq] at hv
    obtain ⟨rfl, _, rfl⟩ := hv
    have HH := Lib.hid (show OwnInts w lo (.slice (some ⟨g, 0, none⟩) xs.length cap) xs from h)
    have HL := Lib.hid (show (0 : Nat) < xs.length by omega)
    clear h h0
    go_enter Tryz.func57, Tryz.ntmps57
    go_wp2
    go_loopw [1, 5] (fun q i wr => ∃ j : Nat, j ≤ xs.length ∧ i = .int .i64 j ∧ q = .int .i64 (k + j) ∧ wr.ownsRow lo 3 1 (.slice (some ⟨g, 0, none⟩) xs.length cap) xs.length ((numTo k xs j).map (Value.int .i64)) ∧ w.grownBy wr (some g))
      (fun _ i _ => xs.length - (intOf i).toNat)
    case atStart => exact ⟨0, Nat.zero_le _, rfl, by go_num, by simpa [numTo, nums, OwnInts] using HH.out, grown_refl _ _⟩
    case round =>
      obtain ⟨j, hj, rfl, rfl, hown, hwi⟩ := hrel
      by_cases hlt : j < xs.length
      · have hfr := hown.frozenAt j
        have hcell : wr.cell? ⟨g, j, none⟩ = some (.int .i64 ((numTo k xs j).getD j 0)) := by
          have hj2 : j < (numTo k xs j).length := by rw [numTo_len k xs j hj]; exact hlt
          rw [hown.cellAt j (by omega), List.getElem?_map, List.getElem?_eq_getElem hj2, List.getD_eq_getElem?_getD, List.getElem?_eq_getElem hj2]; rfl
        have hst := hown.stored j (.int .i64 (k + j))
        rw [← List.map_set, numTo_set k xs j hlt] at hst
        have HS := Lib.hid hst.1
        have HW := Lib.hid (grown_trans hwi hst.2)
        clear hst hown hwi HH
        go_wp2
        go_roundw
        case rel => exact ⟨j+1, by omega, by go_num, by go_num, HS.out, HW.out⟩
        case measure => simp [intOf]; omega
      · have hje : j = xs.length := by omega
        have HO := Lib.hid hown; have HW := Lib.hid hwi; have HJ := Lib.hid hje
        clear hown hwi hje
        go_wp2
        go_ret
        rw [numTo_all k xs j HJ.out] at HO
        exact ⟨ret_int (by rw [HJ.out]), by simpa [OwnInts, nums_len] using HO.out, HW.out⟩

set_option maxHeartbeats 1000000 in
theorem heldIntS_any (k : Int) (A : Option Addr) (cap n : Nat) (w : World) (h : IntsAt w A (nums k n)) (hl : n ≤ 1048576) (hk : 0 ≤ k) (hk' : k ≤ 1152921504606846976) :
    Calls Tryz.prog 65 #[.slice A n cap, .int .i64 k] w fun e w' => e = .returned (.int .i64 (k + n)) ∧ w = w' := by
  go_enter Tryz.func65, Tryz.ntmps65
  go_wp2
  go_loop [1, 5] (fun q i => ∃ j : Nat, j ≤ n ∧ i = .int .i64 j ∧ q = .int .i64 (k + j)) (fun _ i => n - (intOf i).toNat)
  case atStart => exact ⟨0, Nat.zero_le _, rfl, by go_num⟩
  case round =>
    obtain ⟨j, hj, rfl, rfl⟩ := hrel
    by_cases hlt : j < n
    · have hlt2 : j < (nums k n).length := by rw [nums_len]; exact hlt
      obtain ⟨b, o, rfl, hc⟩ := h.here hlt2
      have hck := hc j _ (nums_get k n j hlt)
      clear hc h
      go_wp2
      go_round
      case rel => exact ⟨j+1, by omega, by go_num, by go_num⟩
      case measure => simp [intOf]; omega
    · have HJ := Lib.hid (show j = n by omega)
      go_wp2
      go_ret
      exact ⟨ret_int (by rw [HJ.out]), rfl⟩
end Go.Proofs.YtjdbfokbgmbphaaGreatDoor
