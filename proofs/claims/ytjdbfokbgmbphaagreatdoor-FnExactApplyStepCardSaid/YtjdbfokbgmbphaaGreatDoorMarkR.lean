/- The laws' marks on rows, systems and steps. Conditions: lengths of at most 2^20. -/
import Derived.Test.YtjdbfokbgmbphaaGreatDoorMarkI
import Derived.Test.YtjdbfokbgmbphaaGreatDoorLaw2
namespace Go.Proofs.YtjdbfokbgmbphaaGreatDoor
set_option linter.unusedVariables false
set_option linter.unusedSimpArgs false
open Go.RowKit

def tot : List (List Int) → Int
  | [] => 0
  | r :: rs => (r.length : Int) + tot rs
def numRows (k : Int) : List (List Int) → List (List Int)
  | [] => []
  | r :: rs => nums k r.length :: numRows (k + r.length) rs
theorem tot_snoc (l : List (List Int)) (r : List Int) : tot (l ++ [r]) = tot l + r.length := by
  induction l with
  | nil => simp [tot]
  | cons a l ih => simp [tot, ih]; omega
theorem tot_nonneg (l : List (List Int)) : 0 ≤ tot l := by
  induction l with
  | nil => simp [tot]
  | cons a l ih => simp [tot]; omega
theorem tot_le (l : List (List Int)) (h : ∀ r ∈ l, r.length ≤ 1048576) : tot l ≤ (l.length : Int) * 1048576 := by
  induction l with
  | nil => simp [tot]
  | cons a l ih =>
    have h1 := ih fun r hr => h r (by simp [hr])
    have h2 := h a (by simp)
    simp [tot]; omega
theorem numRows_len (k : Int) (l : List (List Int)) : (numRows k l).length = l.length := by
  induction l generalizing k with
  | nil => rfl
  | cons a l ih => simp [numRows, ih]
theorem numRows_snoc (k : Int) (l : List (List Int)) (r : List Int) : numRows k (l ++ [r]) = numRows k l ++ [nums (k + tot l) r.length] := by
  induction l generalizing k with
  | nil => simp [numRows, tot]
  | cons a l ih => simp [numRows, ih, tot, Int.add_assoc]
def numRTo (k : Int) (rows : List (List Int)) (j : Nat) : List (List Int) := numRows k (rows.take j) ++ rows.drop j
theorem numRTo_len (k : Int) (rows : List (List Int)) (j : Nat) (h : j ≤ rows.length) : (numRTo k rows j).length = rows.length := by simp [numRTo, numRows_len]; omega
theorem numRTo_get (k : Int) (rows : List (List Int)) (j : Nat) (h : j < rows.length) : (numRTo k rows j)[j]? = rows[j]? := by
  unfold numRTo
  rw [List.getElem?_append_right (by rw [numRows_len, List.length_take]; omega), numRows_len, List.getElem?_drop]
  congr 1; simp; omega
theorem numRTo_set (k : Int) (rows : List (List Int)) (j : Nat) (r : List Int) (h : rows[j]? = some r) : (numRTo k rows j).set j (nums (k + tot (rows.take j)) r.length) = numRTo k rows (j + 1) := by
  obtain ⟨hl, he⟩ := List.getElem?_eq_some_iff.1 h
  unfold numRTo
  have h1 : (numRows k (rows.take j)).length = j := by rw [numRows_len]; simp; omega
  rw [List.set_append_right _ _ (by omega), h1, Nat.sub_self, List.drop_eq_getElem_cons hl, List.set_cons_zero, List.take_add_one, h, Option.toList_some, numRows_snoc, List.append_assoc]
  rfl
theorem numRTo_all (k : Int) (rows : List (List Int)) (j : Nat) (h : j = rows.length) : numRTo k rows j = numRows k rows := by subst h; simp [numRTo]
theorem tot_take_succ (rows : List (List Int)) (j : Nat) (r : List Int) (h : rows[j]? = some r) : tot (rows.take (j + 1)) = tot (rows.take j) + r.length := by
  rw [List.take_add_one, h, Option.toList_some, tot_snoc]
theorem tot_take_le (rows : List (List Int)) (j : Nat) (hl : rows.length ≤ 1048576) (h : ∀ r ∈ rows, r.length ≤ 1048576) : tot (rows.take j) ≤ 1099511627776 := by
  have h1 := tot_le (rows.take j) fun r hr => h r (List.mem_of_mem_take hr)
  have h2 : (rows.take j).length ≤ rows.length := by rw [List.length_take]; omega
  omega

theorem own_slice {w : World} {B : Nat} {u : Value} {xs : List Int} (h : OwnInts w B u xs) : ∃ A c, u = .slice A xs.length c := by
  obtain ⟨A, c, h1, _⟩ := h.view; exact ⟨A, c, h1⟩

set_option maxHeartbeats 2000000 in
theorem markIntSS_any (k : Int) (lo hi : Nat) (A : Option Addr) (cap : Nat) (rows : List (List Int)) (w : World) (h : Has w lo hi (.slice A rows.length cap) rows) (hl : rows.length ≤ 1048576) (hls : ∀ r ∈ rows, r.length ≤ 1048576) (hk : 0 ≤ k) (hk' : k ≤ 1125899906842624) :
    Calls Tryz.prog 56 #[.slice A rows.length cap, .int .i64 k] w fun e w' => e = .returned (.int .i64 (k + tot rows)) ∧ Has w' lo hi (.slice A rows.length cap) (numRows k rows) ∧ Within lo hi w w' := by
  by_cases h0 : rows.length = 0
  · have hx : rows = [] := List.eq_nil_of_length_eq_zero h0
    subst hx
    have HH := Lib.hid h
    clear h h0 hls
    go_enter Tryz.func56, Tryz.ntmps56
    go_wp2
    go_loopw [1, 5] (fun q i wr => i = .int .i64 0 ∧ q = .int .i64 k ∧ wr = w) (fun _ _ _ => 0)
    case atStart => exact ⟨rfl, rfl, rfl⟩
    case round =>
      obtain ⟨rfl, rfl, rfl⟩ := hrel
      go_wp2
      go_ret
      exact ⟨ret_int (by simp [tot]), HH.out, Within.refl _ _ _⟩
  · obtain ⟨us, hus⟩ := h
    obtain ⟨g, cap', hv, hg1, hg2⟩ := World.ownsRow.form hus.own.outer (by omega)
    simp only [Value.slice.injEq] at hv
    obtain ⟨rfl, _, rfl⟩ := hv
    have HU := Lib.hid hus; have HLS := Lib.hid hls
    clear hus hls h0
    go_enter Tryz.func56, Tryz.ntmps56
    go_wp2
    go_loopw [1, 5] (fun q i wr => ∃ j : Nat, j ≤ rows.length ∧ i = .int .i64 j ∧ q = .int .i64 (k + tot (rows.take j)) ∧ HasW wr lo hi (.slice (some ⟨g, 0, none⟩) rows.length cap) (numRTo k rows j) us ∧ Within lo hi w wr)
      (fun _ i _ => rows.length - (intOf i).toNat)
    case atStart => exact ⟨0, Nat.zero_le _, rfl, by simp [tot], by simpa [numRTo, numRows] using HU.out, Within.refl _ _ _⟩
    case round =>
      obtain ⟨j, hj, rfl, rfl, hown, hwi⟩ := hrel
      have ht0 := tot_nonneg (rows.take j)
      have ht1 := tot_take_le rows j hl HLS.out
      by_cases hlt : j < rows.length
      · obtain ⟨r, hr⟩ := get_of_lt hlt
        have hg := numRTo_get k rows j hlt
        rw [hr] at hg
        obtain ⟨u, hu, ho⟩ := hown.own.get hg
        obtain ⟨Au, cu, rfl⟩ := own_slice ho
        have hcell : wr.cell? ⟨g, j, none⟩ = some (.slice Au r.length cu) := by
          have hou := hown.own.outer
          rw [numRTo_len k rows j hj] at hou
          rw [hou.cellAt j (by omega), hu]
        have HRL := Lib.hid (HLS.out r (List.mem_of_getElem? hr))
        have HO := Lib.hid ho; have HW := Lib.hid hwi; have HR := Lib.hid hr; have HUJ := Lib.hid hu; have HWN := Lib.hid hown
        clear ho hwi hr hu hg hown HU
        go_wp2_with (go_at_call 57; refine (markIntS_any _ lo _ _ r _ HO.out HRL.out (by omega) (by omega)).mono ?_; rintro e w2 ⟨rfl, ho2, hg2⟩; have HO2 := Lib.hid ho2; have HG2 := Lib.hid hg2; clear ho2 hg2)
        go_roundw
        case rel =>
          have hup : ∀ b, (Value.slice Au r.length cu).ownBlock = some b → lo ≤ b ∧ b < hi := fun b hb => ⟨(HO.out.lt b hb).1, HWN.out.ups _ (List.mem_of_getElem? HUJ.out) b hb⟩
          have hin := HWN.out.own.inner HUJ.out HG2.out HO2.out
          rw [numRTo_set k rows j r HR.out] at hin
          exact ⟨j+1, by omega, by go_num, by rw [tot_take_succ rows j r HR.out, Int.add_assoc], ⟨hin, HWN.out.up, HWN.out.ups⟩, HW.out.trans (Within.of_own HG2.out hup)⟩
        case measure => simp [intOf]; omega
      · have HJ := Lib.hid (show j = rows.length by omega)
        have HO := Lib.hid hown; have HW := Lib.hid hwi
        clear hown hwi
        go_wp2
        go_ret
        rw [numRTo_all k rows j HJ.out] at HO
        exact ⟨ret_int (by rw [HJ.out, List.take_length]), ⟨us, HO.out⟩, HW.out⟩

theorem markSystem_any (k a b : Int) (lo hi : Nat) (A : Option Addr) (cap : Nat) (rows : List (List Int)) (w : World) (h : Has w lo hi (.slice A rows.length cap) rows) (hl : rows.length ≤ 1048576) (hls : ∀ r ∈ rows, r.length ≤ 1048576) (hk : 0 ≤ k) (hk' : k ≤ 1125899906842624) :
    Calls Tryz.prog 20 #[.agg #[.int .i64 a, .int .i64 b, .slice A rows.length cap], .int .i64 k] w fun e w' => e = .returned (.int .i64 (k + tot rows)) ∧ Has w' lo hi (.slice A rows.length cap) (numRows k rows) ∧ Within lo hi w w' := by
  have hB : Below w.heap.size w (w.alloc (.cells #[.int .i64 a, .int .i64 b, .slice A rows.length cap] 30)) := (Below.refl _ _).alloc (Nat.le_refl _) _
  have HH := Lib.hid (h.ext hB); have HB := Lib.hid hB; have HLS := Lib.hid hls
  clear h hB hls
  go_enter Tryz.func20, Tryz.ntmps20
  go_wp2_with (go_at_call 56; refine (markIntSS_any k lo hi A cap rows _ HH.out hl HLS.out hk hk').mono ?_; rintro e w2 ⟨rfl, ho2, hw2⟩; have HO2 := Lib.hid ho2; have HW2 := Lib.hid hw2; clear ho2 hw2)
  go_ret
  exact ⟨rfl, HO2.out, (Within.of_below HB.out).trans HW2.out⟩

theorem markStep_any (q k a b c : Int) (lo hi : Nat) (A : Option Addr) (cap : Nat) (xs : List Int) (w : World) (h : HasI w lo hi (.slice A xs.length cap) xs) (hl : xs.length ≤ 1048576) (hq : 0 ≤ q) (hq' : q ≤ 1152921504606846976) :
    Calls Tryz.prog 21 #[.agg #[.int .i64 k, .int .i64 a, .int .i64 b, .int .i64 c, .slice A xs.length cap], .int .i64 q] w fun e w' => e = .returned (.int .i64 (q + xs.length)) ∧ HasI w' lo hi (.slice A xs.length cap) (nums q xs.length) ∧ Within lo hi w w' := by
  have hB : Below w.heap.size w (w.alloc (.cells #[.int .i64 k, .int .i64 a, .int .i64 b, .int .i64 c, .slice A xs.length cap] 34)) := (Below.refl _ _).alloc (Nat.le_refl _) _
  have HH := Lib.hid (h.ext hB); have HB := Lib.hid hB
  clear h hB
  go_enter Tryz.func21, Tryz.ntmps21
  go_wp2_with (go_at_call 57; refine (markIntS_any q lo A cap xs _ HH.out.own hl hq hq').mono ?_; rintro e w2 ⟨rfl, ho2, hw2⟩; have HO2 := Lib.hid ho2; have HW2 := Lib.hid hw2; clear ho2 hw2)
  go_ret
  exact ⟨rfl, ⟨HO2.out, HH.out.up⟩, (Within.of_below HB.out).trans (Within.of_own HW2.out fun b hb => ⟨(HH.out.own.lt b hb).1, HH.out.up b hb⟩)⟩

theorem heldStep_any (q k a b c : Int) (A : Option Addr) (cap n : Nat) (w : World) (h : IntsAt w A (nums q n)) (hl : n ≤ 1048576) (hq : 0 ≤ q) (hq' : q ≤ 1152921504606846976) :
    Calls Tryz.prog 30 #[.agg #[.int .i64 k, .int .i64 a, .int .i64 b, .int .i64 c, .slice A n cap], .int .i64 q] w fun e w' => e = .returned (.int .i64 (q + n)) ∧ Below w.heap.size w w' := by
  have hB : Below w.heap.size w (w.alloc (.cells #[.int .i64 k, .int .i64 a, .int .i64 b, .int .i64 c, .slice A n cap] 34)) := (Below.refl _ _).alloc (Nat.le_refl _) _
  have HH := Lib.hid (h.ext hB); have HB := Lib.hid hB
  clear h hB
  go_enter Tryz.func30, Tryz.ntmps30
  go_wp2_with (go_at_call 65; refine (heldIntS_any q A cap n _ HH.out hl hq hq').mono ?_; rintro e w2 ⟨rfl, rfl⟩)
  go_ret
  exact ⟨rfl, HB.out⟩
end Go.Proofs.YtjdbfokbgmbphaaGreatDoor
