/- Small functions of the matrices: unit, upTo, chosen, chosenAll, identityRows, spLead, fdSub. Conditions: lengths of at most 2^20. | identityRows, chosenAll, spLead. Conditions: lengths of at most 2^20. | Reduced lists of rows over a field of p elements: two with the same annihilator are equal. Plain terms; rows are functions. Condition: 2 ≤ p. | Null vectors: those of the free columns (the reference), those carried along an elimination (the program); both span. Plain terms. | One column of an elimination, in plain terms: what holds of the rows before and behind it. Conditions: 2 ≤ p; entries in 0..p-1. -/
import Derived.Test.YtjdbfokbgmbphaaGreatDoorPk30
import Derived.Test.YtjdbfokbgmbphaaGreatDoorPk9
import Derived.Test.YtjdbfokbgmbphaaGreatDoorPk16
namespace Go.Proofs.YtjdbfokbgmbphaaGreatDoor
set_option linter.unusedVariables false
set_option linter.unusedSimpArgs false
open Go.RowKit
theorem zerosS (n : Nat) (w : World) (hm : n ≤ 1048576) (h0 : 0 < n) :
  Calls Tryz.prog 140 #[.int .i64 n] w fun e w' => ∃ g c, e = .returned (.slice (some ⟨g, 0, none⟩) n c) ∧ w'.ownsRow w.heap.size 3 1 (.slice (some ⟨g, 0, none⟩) n c) n ((List.replicate n (0 : Int)).map (Value.int .i64)) ∧ Below w.heap.size w w' := by
 refine (zeros_any n w (by omega)).mono fun e w' he => ?_
 obtain ⟨u, e1, e2, e3⟩ := he
 have h := e2
 unfold OwnInts at h
 rw [List.length_replicate] at h
 rcases h.2 with ⟨rfl, h1⟩ | ⟨g, c, cur, rfl, h2⟩
 ·omega
 ·exact ⟨g, c, e1, h, e3⟩
def unitL (n k : Nat) : List Int := (List.replicate n 0).set k 1
theorem unitL_len (n k : Nat) : (unitL n k).length = n := by simp [unitL]
theorem unit_any (n k : Nat) (w : World) (hn : n ≤ 1048576) (hk : k < n) :
  Calls Tryz.prog 142 #[.int .i64 n, .int .i64 k] w fun e w' => ∃ u, e = .returned u ∧ OwnInts w' w.heap.size u (unitL n k) ∧ Below w.heap.size w w' := by
 go_enter Tryz.func142, Tryz.ntmps142
 go_wp2_with (go_at_call 140; refine (zerosS n _ hn (by omega)).mono ?_; rintro e w1 ⟨g, c, rfl, hown, hb⟩; have hcell : w1.cell? ⟨g, k, none⟩ = some (.int .i64 0) := (by rw [hown.cellAt k (by omega), List.getElem?_map, List.getElem?_replicate, if_pos hk]; rfl); have hfr := hown.frozenAt k; have HS := Lib.hid (hown.stored k (.int .i64 1)).1; have HB := Lib.hid (hb.setCell (p := ⟨g, k, none⟩) ((World.ownsRow.lt hown g rfl).1) (.int .i64 1)); clear hown hb)
 go_ret
 refine ⟨_, rfl, ?_, HB.out⟩
 have := HS.out
 rw [← List.map_set] at this
 unfold OwnInts
 rw [unitL_len]
 exact this
def iota (n : Nat) : List Int := (List.range n).map fun i : Nat => (i : Int)
theorem iota_len (n : Nat) : (iota n).length = n := by simp [iota]
theorem iota_get {n k : Nat} (h : k < n) : (iota n)[k]? = some (k : Int) := by simp [iota, h]
set_option maxHeartbeats 1000000 in
theorem upTo_any (n : Nat) (w : World) (hn : n ≤ 1048576) :
  Calls Tryz.prog 136 #[.int .i64 n] w fun e w' => ∃ u, e = .returned u ∧ OwnInts w' w.heap.size u (iota n) ∧ Below w.heap.size w w' := by
 go_enter Tryz.func136, Tryz.ntmps136
 go_wp2_with (go_at_call 140; refine (zeros_any n _ (by omega)).mono ?_; rintro e w1 ⟨u, rfl, hu, hb⟩; obtain ⟨A, c, rfl, _⟩ := hu.view; rw [List.length_replicate] at hu ⊢; have HU := Lib.hid hu; have HB := Lib.hid hb; clear hu hb)
 have h1 := HU.out
 unfold OwnInts at h1
 rw [List.length_replicate, ← iota_len n, ← fillTo_zero (iota n) (0 : Int), iota_len] at h1
 have H1 := Lib.hid h1
 clear h1 HU
 go_loopw [4, 9] (fun _ i wr => ∃ k : Nat, k ≤ n ∧ i = .int .i64 k ∧ wr.ownsRow w.heap.size 3 1 (.slice A n c) n ((fillTo (iota n) 0 k).map (Value.int .i64)) ∧ Below w.heap.size w wr)
  (fun _ i _ => n - (intOf i).toNat)
 case atStart => exact ⟨0, Nat.zero_le _, rfl, H1.out, HB.out⟩
 case round =>
  obtain ⟨k, hk, rfl, hown, hbel⟩ := hrel
  clear H1 HB
  by_cases hlt : k < n
  ·obtain ⟨g, rfl⟩ : ∃ g, A = some ⟨g, 0, none⟩ := by
    rcases hown.2 with ⟨_, h1⟩ | ⟨g, c', cur, e, _⟩
    ·omega
    ·cases e; exact ⟨g, rfl⟩
   have hcell : wr.cell? ⟨g, k, none⟩ = some (.int .i64 0) := by
    rw [hown.cellAt k (by omega), List.getElem?_map, fillTo_get _ _ _ (by rw [iota_len]; exact hlt)]; rfl
   have hfr := hown.frozenAt k
   have hst := (hown.stored k (.int .i64 k)).1
   rw [← List.map_set, fillTo_set _ _ _ _ (iota_get hlt)] at hst
   have HS := Lib.hid hst
   have HB := Lib.hid (hbel.setCell (p := ⟨g, k, none⟩) ((World.ownsRow.lt hown g rfl).1) (.int .i64 k))
   clear hst hown
   go_wp2
   go_roundw
   case rel => exact ⟨k+1, by omega, by go_num, HS.out, HB.out⟩
   case measure => simp [intOf]; omega
  ·go_wp2
   go_ret
   rw [fillTo_all _ _ _ (by rw [iota_len]; omega)] at hown
   exact ⟨_, rfl, by unfold OwnInts; rw [iota_len]; exact hown, hbel⟩
def pick1 (v at_ : List Int) : List Int := at_.map fun i => v.getD i.toNat 0
theorem pick1_succ {v at_ : List Int} {k : Nat} {i x : Int} (hi : at_[k]? = some i) (hx : v[i.toNat]? = some x) : (pick1 v at_).take (k + 1) = (pick1 v at_).take k ++ [x] := by
 rw [List.take_add_one]
 simp [pick1, hi, hx]
theorem pick1_len (v at_ : List Int) (k : Nat) (hk : k ≤ at_.length) : ((pick1 v at_).take k).length = k := by simp [pick1]; omega
set_option maxHeartbeats 1000000 in
theorem chosen_any (v : List Int) (A : Option Addr) (cap : Nat) (at_ : List Int) (A2 : Option Addr) (cap2 : Nat) (w : World) (hV : IntsAt w A v) (hA : IntsAt w A2 at_) (hv : v.length ≤ 1048576) (hm : at_.length ≤ 1048576) (hl : ∀ i ∈ at_, 0 ≤ i ∧ i < v.length) :
  Calls Tryz.prog 141 #[.slice A v.length cap, .slice A2 at_.length cap2] w fun e w' => ∃ u, e = .returned u ∧ OwnInts w' w.heap.size u (pick1 v at_) ∧ Below w.heap.size w w' := by
 obtain ⟨i0, hi, hz0, hz1, hz2⟩ := info_parts infoInt
 have HV := Lib.hid hV; have HA := Lib.hid hA; have HL := Lib.hid hl
 clear hV hA hl
 go_enter Tryz.func141, Tryz.ntmps141
 go_wp2_with ((at_make; refine wpList_make_own _ rfl _ _ 25 rfl w.heap.size 3 i0 (.int .i64 0) 1 Tryz.underlying25 hi hz0 hz1 .i64 .i64 _ at_.length rfl rfl rfl (by rw [hz2]; omega) (by unfold maxLen; omega) (Nat.le_refl _) ?_; intro w1 hown hgrow))
 have HO := Lib.hid (show OwnInts w1 w.heap.size (.slice (some ⟨w.heap.size, 0, none⟩) 0 at_.length) [] from hown)
 have HB := Lib.hid (grown_none_below hgrow)
 clear hown hgrow
 go_loopw [5, 7, 13] (fun u _ i wr => ∃ k : Nat, k ≤ at_.length ∧ i = .int .i64 k ∧ OwnInts wr w.heap.size u ((pick1 v at_).take k) ∧ Below w.heap.size w wr)
  (fun _ _ i _ => at_.length - (intOf i).toNat)
 case atStart => exact ⟨0, Nat.zero_le _, rfl, by simpa using HO.out, HB.out⟩
 case round =>
  obtain ⟨k, hk, rfl, hown, hbel⟩ := hrel
  have Hown := Lib.hid hown
  clear hown HO HB
  by_cases hlt : k < at_.length
  ·obtain ⟨i, hi'⟩ := get_of_lt hlt
   obtain ⟨hi1, hi2⟩ := HL.out i (List.mem_of_getElem? hi')
   obtain ⟨j, hj⟩ : ∃ j : Nat, (j : Int) = i := ⟨i.toNat, by omega⟩
   subst hj
   have hjl : j < v.length := by omega
   obtain ⟨x, hx⟩ := get_of_lt hjl
   obtain ⟨b, o, rfl, hc⟩ := (HV.out.ext hbel).here hjl
   obtain ⟨b2, o2, rfl, hc2⟩ := (HA.out.ext hbel).here hlt
   have hcx := hc _ _ hx
   have hcy := hc2 _ _ hi'
   have HS := Lib.hid (pick1_succ hi' (by simpa using hx))
   have HLL := Lib.hid (pick1_len v at_ k hk)
   have hsz := hbel.size
   clear hc hc2 hx hi'
   go_wp2_with ((at_builtin; refine wp_append1 rfl _ _ rfl _ wr _ _ _ rfl rfl Hown.out (by rw [HLL.out]; omega) (by omega) ?_; intro u' w1 hown1 _ hbel1))
   go_roundw
   case rel => exact ⟨k+1, by omega, by go_num, by rw [HS.out]; exact hown1, hbel.trans hbel1⟩
   case measure => simp [intOf]; omega
  ·go_wp2
   go_ret
   exact ⟨_, rfl, by have h := Hown.out; rwa [List.take_of_length_le (by simp [pick1]; omega)] at h, hbel⟩
theorem fdSub_any (p x y : Int) (w : World) (hp : 1 ≤ p) (hp' : p ≤ 1000) (hx : 0 ≤ x) (hx' : x < p) (hy : 0 ≤ y) (hy' : y < p) : Calls Tryz.prog 137 #[.int .i64 p, .int .i64 x, .int .i64 y] w fun e w' => e = .returned (.int .i64 ((x + p - y) % p)) ∧ w = w' := by
 go_enter Tryz.func137, Tryz.ntmps137
 go_wp2
 go_ret
 exact ⟨rfl, rfl⟩
def idL (n : Nat) : List (List Int) := (List.range n).map (unitL n)
theorem idL_len (n : Nat) : (idL n).length = n := by simp [idL]
theorem idL_get {n k : Nat} (h : k < n) : (idL n)[k]? = some (unitL n k) := by simp [idL, h]
set_option maxHeartbeats 1000000 in
theorem identityRows_any (n : Nat) (w : World) (hn : n ≤ 1048576) :
  Calls Tryz.prog 138 #[.int .i64 n] w fun e w' => ∃ u, e = .returned u ∧ OwnRows w' w.heap.size u (idL n) ∧ Below w.heap.size w w' := by
 go_enter Tryz.func138, Tryz.ntmps138
 go_wp2
 have HO := Lib.hid (show OwnRows (w.alloc (.cells #[] 25)) w.heap.size (.slice (some ⟨w.heap.size, 0, none⟩) 0 0) [] from OwnRows.empty (World.ownsRow_lit w #[] 0 (Nat.le_refl _) (by decide) rfl))
 have HB := Lib.hid ((Below.refl w.heap.size w).alloc (Nat.le_refl _) (.cells #[] 25))
 go_loopw [3, 4, 7] (fun u _ i wr => ∃ k : Nat, k ≤ n ∧ i = .int .i64 k ∧ OwnRows wr w.heap.size u ((idL n).take k) ∧ Below w.heap.size w wr)
  (fun _ _ i _ => n - (intOf i).toNat)
 case atStart => exact ⟨0, Nat.zero_le _, rfl, HO.out, HB.out⟩
 case round =>
  obtain ⟨k, hk, rfl, hown, hbel⟩ := hrel
  have Hown := Lib.hid hown
  clear hown HO HB
  by_cases hlt : k < n
  ·have HT := Lib.hid (show (idL n).take (k + 1) = (idL n).take k ++ [unitL n k] by rw [List.take_add_one, idL_get hlt]; rfl)
   have hsz := hbel.size
   have HN := Lib.hid (show ((idL n).take k).length + 1 ≤ 1073741824 by simp [idL]; omega)
   go_wp2_with (first | (go_at_call 142; refine (unit_any n k _ hn hlt).mono ?_; rintro e w' ⟨u2, rfl, hu2, hbel2⟩; obtain ⟨A2, c2, rfl, _⟩ := hu2.view) | (at_builtin; refine wp_appendRow rfl _ _ rfl w.heap.size wr _ _ _ _ _ Hown.out hbel2 hu2 HN.out hsz rfl rfl ?_; intro u' w1 hown1 hbel1))
   go_roundw
   case rel => exact ⟨k+1, by omega, by go_num, by rw [HT.out]; exact hown1, hbel.trans hbel1⟩
   case measure => simp [intOf]; omega
  ·go_wp2
   go_ret
   have h := Hown.out
   rw [List.take_of_length_le (by rw [idL_len]; omega)] at h
   exact ⟨_, rfl, h, hbel⟩
def pickAll (rows : List (List Int)) (at_ : List Int) : List (List Int) := rows.map fun r => pick1 r at_
theorem pickAll_len (rows : List (List Int)) (at_ : List Int) : (pickAll rows at_).length = rows.length := by simp [pickAll]
set_option maxHeartbeats 1000000 in
theorem chosenAll_any (rows : List (List Int)) (A : Option Addr) (cap : Nat) (at_ : List Int) (A2 : Option Addr) (cap2 : Nat) (w : World) (hR : RowsAt w A rows) (hA : IntsAt w A2 at_) (hm : rows.length ≤ 1048576) (hms : ∀ r ∈ rows, r.length ≤ 1048576) (hm2 : at_.length ≤ 1048576) (hl : ∀ r ∈ rows, ∀ i ∈ at_, 0 ≤ i ∧ i < r.length) :
  Calls Tryz.prog 135 #[.slice A rows.length cap, .slice A2 at_.length cap2] w fun e w' => ∃ u, e = .returned u ∧ OwnRows w' w.heap.size u (pickAll rows at_) ∧ Below w.heap.size w w' := by
 have HR := Lib.hid hR; have HA := Lib.hid hA; have HMS := Lib.hid hms; have HL := Lib.hid hl
 clear hR hA hms hl
 go_enter Tryz.func135, Tryz.ntmps135
 go_wp2
 have HO := Lib.hid (show OwnRows (w.alloc (.cells #[] 25)) w.heap.size (.slice (some ⟨w.heap.size, 0, none⟩) 0 0) [] from OwnRows.empty (World.ownsRow_lit w #[] 0 (Nat.le_refl _) (by decide) rfl))
 have HB := Lib.hid ((Below.refl w.heap.size w).alloc (Nat.le_refl _) (.cells #[] 25))
 go_loopw [5, 7, 11] (fun u _ i wr => ∃ k : Nat, k ≤ rows.length ∧ i = .int .i64 k ∧ OwnRows wr w.heap.size u ((pickAll rows at_).take k) ∧ Below w.heap.size w wr)
  (fun _ _ i _ => rows.length - (intOf i).toNat)
 case atStart => exact ⟨0, Nat.zero_le _, rfl, HO.out, HB.out⟩
 case round =>
  obtain ⟨k, hk, rfl, hown, hbel⟩ := hrel
  have Hown := Lib.hid hown
  clear hown HO HB
  by_cases hlt : k < rows.length
  ·obtain ⟨r, hr⟩ := get_of_lt hlt
   obtain ⟨bb, o, rfl, hc⟩ := (HR.out.ext hbel).here hlt
   obtain ⟨A', cap', hck, hin⟩ := hc k r hr
   have HIN := Lib.hid hin
   have HRL := Lib.hid (HMS.out r (List.mem_of_getElem? hr)); have HRI := Lib.hid (HL.out r (List.mem_of_getElem? hr))
   have HT := Lib.hid (show (pickAll rows at_).take (k + 1) = (pickAll rows at_).take k ++ [pick1 r at_] by rw [List.take_add_one]; simp [pickAll, hr])
   have HAX := Lib.hid (HA.out.ext hbel)
   have hsz := hbel.size
   have HN := Lib.hid (show ((pickAll rows at_).take k).length + 1 ≤ 1073741824 by simp [pickAll]; omega)
   clear hr hc hin
   go_wp2_with (first | (go_at_call 141; refine (chosen_any r _ _ at_ _ _ _ HIN.out HAX.out HRL.out hm2 HRI.out).mono ?_; rintro e w' ⟨u2, rfl, hu2, hbel2⟩; obtain ⟨A2, c2, rfl, _⟩ := hu2.view) | (at_builtin; refine wp_appendRow rfl _ _ rfl w.heap.size wr _ _ _ _ _ Hown.out hbel2 hu2 HN.out hsz rfl rfl ?_; intro u' w1 hown1 hbel1))
   go_roundw
   case rel => exact ⟨k+1, by omega, by go_num, by rw [HT.out]; exact hown1, hbel.trans hbel1⟩
   case measure => simp [intOf]; omega
  ·go_wp2
   go_ret
   have h := Hown.out
   rw [List.take_of_length_le (by rw [pickAll_len]; omega)] at h
   exact ⟨_, rfl, h, hbel⟩
/-- The index of the first element other than 0, from k on; the length if there is none. -/
def leadOf : List Int → Nat
 | [] => 0
 | x :: xs => if x = 0 then leadOf xs + 1 else 0
theorem leadOf_le : ∀ (xs : List Int), leadOf xs ≤ xs.length
 | [] => Nat.le_refl _
 | x :: xs => by
  have := leadOf_le xs
  unfold leadOf
  split
  ·simp; omega
  ·omega
theorem leadOf_zero : ∀ {xs : List Int} {k : Nat}, k < leadOf xs → xs[k]? = some 0
 | [], k, h => by simp [leadOf] at h
 | x :: xs, k, h => by
  unfold leadOf at h
  split at h
  ·rename_i h0
   cases k with
   | zero => simp [h0]
   | succ k => simpa using leadOf_zero (xs := xs) (k := k) (by omega)
  ·omega
theorem leadOf_at : ∀ {xs : List Int} {x : Int}, xs[leadOf xs]? = some x → x ≠ 0
 | [], x, h => by simp at h
 | y :: ys, x, h => by
  unfold leadOf at h
  split at h
  ·exact leadOf_at (xs := ys) (by simpa using h)
  ·simp at h; subst h; assumption
set_option maxHeartbeats 1000000 in
theorem spLead_any (v : List Int) (A : Option Addr) (cap : Nat) (w : World) (hV : IntsAt w A v) (hv : v.length ≤ 1048576) :
  Calls Tryz.prog 131 #[.slice A v.length cap] w fun e w' => e = .returned (.int .i64 (leadOf v)) ∧ Below w.heap.size w w' := by
 have hle := leadOf_le v
 obtain ⟨L, hL⟩ : ∃ L, L = leadOf v := ⟨_, rfl⟩
 rw [← hL] at hle ⊢
 have HL := Lib.hid hL; have HV := Lib.hid hV
 clear hL hV
 go_enter Tryz.func131, Tryz.ntmps131
 go_wp2
 go_loopw [3] (fun i wr => ∃ k : Nat, k ≤ L ∧ i = .int .i64 k ∧ Below w.heap.size w wr) (fun i _ => L - (intOf i).toNat)
 case atStart => exact ⟨0, Nat.zero_le _, rfl, Below.refl _ _⟩
 case round =>
  obtain ⟨k, hk, rfl, hbel⟩ := hrel
  by_cases hlt : k < v.length
  ·obtain ⟨x, hx⟩ := get_of_lt hlt
   obtain ⟨b, o, rfl, hc⟩ := (HV.out.ext hbel).here hlt
   have hcx := hc _ _ hx
   by_cases hkL : k < L
   ·have h0 : x = 0 := by have := leadOf_zero (xs := v) (k := k) (by rw [← HL.out]; exact hkL); rw [hx] at this; simpa using this
    subst h0
    clear hc hx
    go_wp2
    go_roundw
    case rel => exact ⟨k+1, by omega, by go_num, hbel⟩
    case measure => simp [intOf]; omega
   ·have hkL' : k = L := by omega
    have h0 : x ≠ 0 := leadOf_at (xs := v) (by rw [← HL.out, ← hkL']; exact hx)
    have h0b : (x == 0) = false := by simp [h0]
    have HK := Lib.hid hkL'
    clear hc hx hkL' h0
    go_wp2
    go_ret
    rw [HK.out]
    exact ⟨rfl, hbel⟩
  ·have HK := Lib.hid (show k = L by omega)
   go_wp2
   go_ret
   rw [HK.out]
   exact ⟨rfl, hbel⟩
def sumN (f : Nat → Int) : Nat → Int
 | 0 => 0
 | n + 1 => sumN f n + f n
theorem sumN_congr {f g : Nat → Int} : ∀ {n : Nat}, (∀ c, c < n → f c = g c) → sumN f n = sumN g n
 | 0, _ => rfl
 | n + 1, h => by rw [sumN, sumN, sumN_congr fun c hc => h c (by omega), h n (by omega)]
theorem sumN_zero {f : Nat → Int} : ∀ {n : Nat}, (∀ c, c < n → f c = 0) → sumN f n = 0
 | 0, _ => rfl
 | n + 1, h => by rw [sumN, sumN_zero fun c hc => h c (by omega), h n (by omega)]; rfl
theorem sumN_one {f : Nat → Int} {k : Nat} : ∀ {n : Nat}, k < n → (∀ c, c < n → c ≠ k → f c = 0) → sumN f n = f k
 | 0, h, _ => by omega
 | n + 1, hk, h => by
  rw [sumN]
  by_cases hn : k = n
  ·subst hn
   rw [sumN_zero fun c hc => h c (by omega) (by omega)]; omega
  ·rw [sumN_one (by omega) fun c hc hne => h c (by omega) hne, h n (by omega) (by omega)]; omega
theorem sumN_add (f g : Nat → Int) : ∀ (n : Nat), sumN (fun c => f c + g c) n = sumN f n + sumN g n
 | 0 => rfl
 | n + 1 => by rw [sumN, sumN, sumN, sumN_add f g n]; omega
theorem sumN_mul (a : Int) (f : Nat → Int) : ∀ (n : Nat), sumN (fun c => a * f c) n = a * sumN f n
 | 0 => by simp [sumN]
 | n + 1 => by rw [sumN, sumN, sumN_mul a f n, Int.mul_add]
theorem sumN_dvd {p : Int} {f : Nat → Int} : ∀ {n : Nat}, (∀ c, c < n → p ∣ f c) → p ∣ sumN f n
 | 0, _ => ⟨0, by simp [sumN]⟩
 | n + 1, h => Int.dvd_add (sumN_dvd fun c hc => h c (by omega)) (h n (by omega))
theorem sumN_dvd_sub {p : Int} {f g : Nat → Int} : ∀ {n : Nat}, (∀ c, c < n → p ∣ f c - g c) → p ∣ sumN f n - sumN g n
 | 0, _ => ⟨0, by simp [sumN]⟩
 | n + 1, h => by
  have := Int.dvd_add (sumN_dvd_sub (n := n) fun c hc => h c (by omega)) (h n (by omega))
  rw [sumN, sumN]
  rwa [show sumN f n + f n - (sumN g n + g n) = sumN f n - sumN g n + (f n - g n) by omega]
structure RedF (p : Int) (n m : Nat) (A : Nat → Nat → Int) (l : Nat → Nat) : Prop where
 bd : ∀ i c, i < m → c < n → 0 ≤ A i c ∧ A i c < p
 ln : ∀ i, i < m → l i < n
 inc : ∀ i j, i < j → j < m → l i < l j
 one : ∀ i, i < m → A i (l i) = 1
 low : ∀ i c, i < m → c < l i → A i c = 0
 col : ∀ i j, i < m → j < m → i ≠ j → A i (l j) = 0
def AnnF (p : Int) (n m : Nat) (A : Nat → Nat → Int) (x : Nat → Int) : Prop := ∀ i, i < m → p ∣ sumN (fun c => A i c * x c) n
/-- The vector of the free column j. -/
def freeV (A : Nat → Nat → Int) (l : Nat → Nat) (m j : Nat) (c : Nat) : Int := (if c = j then 1 else 0) - sumN (fun i => if l i = c then A i j else 0) m
section
variable {p : Int} {n m : Nat} {A B : Nat → Nat → Int} {l : Nat → Nat}
theorem RedF.inj (h : RedF p n m A l) {i j : Nat} (hi : i < m) (hj : j < m) (e : l i = l j) : i = j := by
 rcases Nat.lt_trichotomy i j with h1 | h1 | h1
 ·have := h.inc i j h1 hj; omega
 ·exact h1
 ·have := h.inc j i h1 hi; omega
theorem freeV_lead (h : RedF p n m A l) {i j : Nat} (hi : i < m) (hj : l i ≠ j) : freeV A l m j (l i) = - A i j := by
 unfold freeV
 rw [if_neg hj, sumN_one hi (fun c hc hne => if_neg (fun e => hne (h.inj hc hi e))), if_pos rfl]
 omega
theorem freeV_free {j c : Nat} (hc : ∀ i, i < m → l i ≠ c) : freeV A l m j c = if c = j then 1 else 0 := by
 unfold freeV
 rw [sumN_zero fun i hi => if_neg (hc i hi)]
 omega
theorem free_sum (hA : RedF p n m A l) (hB : RedF p n m B l) {i j : Nat} (hi : i < m) (hj : j < n) (hf : ∀ i, i < m → l i ≠ j) :
  sumN (fun c => B i c * freeV A l m j c) n = B i j - A i j := by
 have e : ∀ c, c < n → B i c * freeV A l m j c = (if c = j then B i j else 0) + (if c = l i then - A i j else 0) := by
  intro c hc
  by_cases h1 : c = j
  ·subst h1
   rw [freeV_free hf, if_pos rfl, if_pos rfl, if_neg (fun e => hf i hi e.symm)]; omega
  ·rw [if_neg h1]
   by_cases h2 : c = l i
   ·subst h2
    rw [freeV_lead hA hi (hf i hi), hB.one i hi, if_pos rfl]; omega
   ·rw [if_neg h2]
    by_cases h3 : ∃ k, k < m ∧ l k = c
    ·obtain ⟨k, hk, rfl⟩ := h3
     have : k ≠ i := fun e => h2 (by rw [e])
     rw [hB.col i k hi hk (Ne.symm this)]; simp
    ·rw [freeV_free (fun k hk e => h3 ⟨k, hk, e⟩), if_neg h1]; simp
 rw [sumN_congr e, sumN_add, sumN_one hj (fun c _ hne => if_neg hne), sumN_one (hA.ln i hi) (fun c _ hne => if_neg hne), if_pos rfl, if_pos rfl]
 omega
theorem freeV_ann (hA : RedF p n m A l) {j : Nat} (hj : j < n) (hf : ∀ i, i < m → l i ≠ j) : AnnF p n m A (freeV A l m j) := fun i hi => by
 rw [free_sum hA hA hi hj hf]
 exact ⟨0, by omega⟩
/-- Behind the free column its vector is 0. -/
theorem freeV_high (hA : RedF p n m A l) {j c : Nat} (hf : ∀ i, i < m → l i ≠ j) (hc : j < c) : freeV A l m j c = 0 := by
 by_cases h3 : ∃ k, k < m ∧ l k = c
 ·obtain ⟨k, hk, rfl⟩ := h3
  rw [freeV_lead hA hk (hf k hk), hA.low k j hk hc]; rfl
 ·rw [freeV_free (fun k hk e => h3 ⟨k, hk, e⟩), if_neg (by omega)]
theorem lead_ann (hA : RedF p n m A l) {i : Nat} (hi : i < m) {x : Nat → Int} (hx : AnnF p n m A x) (hz : ∀ c, l i < c → c < n → p ∣ x c) : p ∣ x (l i) := by
 have h1 : p ∣ sumN (fun c => A i c * x c) n - sumN (fun c => if c = l i then x (l i) else 0) n := by
  refine sumN_dvd_sub fun c hc => ?_
  rcases Nat.lt_trichotomy c (l i) with h | h | h
  ·rw [hA.low i c hi h, if_neg (by omega)]; exact ⟨0, by simp⟩
  ·subst h; rw [hA.one i hi, if_pos rfl]; exact ⟨0, by omega⟩
  ·rw [if_neg (by omega)]
   obtain ⟨k, hk⟩ := hz c h hc
   exact ⟨A i c * k, by rw [hk, Int.sub_zero, Int.mul_left_comm]⟩
 rw [sumN_one (hA.ln i hi) (fun c _ hne => if_neg hne), if_pos rfl] at h1
 have := Int.dvd_sub (hx i hi) h1
 rwa [show sumN (fun c => A i c * x c) n - (sumN (fun c => A i c * x c) n - x (l i)) = x (l i) by omega] at this
end
theorem lead_sub {p : Int} {n m m' : Nat} {A B : Nat → Nat → Int} {l l' : Nat → Nat} (h2 : 2 ≤ p) (hA : RedF p n m A l) (hB : RedF p n m' B l') (h : ∀ x, AnnF p n m' B x → AnnF p n m A x) {i : Nat} (hi : i < m) :
  ∃ k, k < m' ∧ l' k = l i := by
 by_cases hc : ∃ k, k < m' ∧ l' k = l i
 ·exact hc
 ·have hf : ∀ k, k < m' → l' k ≠ l i := fun k hk e => hc ⟨k, hk, e⟩
  have h1 := lead_ann hA hi (h _ (freeV_ann hB (hA.ln i hi) hf)) (fun c h1 _ => by rw [freeV_high hB hf h1]; exact ⟨0, by simp⟩)
  rw [freeV_free hf, if_pos rfl] at h1
  have := Int.le_of_dvd (by omega) h1
  omega
theorem lead_same {p : Int} {n m m' : Nat} {A B : Nat → Nat → Int} {l l' : Nat → Nat} (hA : RedF p n m A l) (hB : RedF p n m' B l') (h1 : ∀ i, i < m → ∃ k, k < m' ∧ l' k = l i) (h2 : ∀ i, i < m' → ∃ k, k < m ∧ l k = l' i) :
  ∀ i, i < m → i < m' ∧ l' i = l i := by
 intro i
 induction i using Nat.strongRecOn with
 | ind i ih =>
  intro hi
  obtain ⟨k, hk, ek⟩ := h1 i hi
  have hik : i ≤ k := by
   rcases Nat.lt_or_ge k i with h | h
   ·have := (ih k h (by omega)).2
    have := hA.inc k i h hi
    omega
   ·exact h
  have hm' : i < m' := by omega
  have a1 : l' i ≤ l i := by
   rcases Nat.lt_or_eq_of_le hik with h | h
   ·have := hB.inc i k h hk; omega
   ·subst h; omega
  obtain ⟨q, hq, eq⟩ := h2 i hm'
  have hiq : i ≤ q := by
   rcases Nat.lt_or_ge q i with h | h
   ·have := (ih q h hq).2
    have := hB.inc q i h hm'
    omega
   ·exact h
  have a2 : l i ≤ l' i := by
   rcases Nat.lt_or_eq_of_le hiq with h | h
   ·have := hA.inc i q h hq; omega
   ·subst h; omega
  exact ⟨hm', by omega⟩
theorem red_unique {p : Int} {n m m' : Nat} {A B : Nat → Nat → Int} {l l' : Nat → Nat} (h2 : 2 ≤ p) (hA : RedF p n m A l) (hB : RedF p n m' B l') (h : ∀ x, AnnF p n m A x ↔ AnnF p n m' B x) :
  m = m' ∧ ∀ i, i < m → ∀ c, c < n → A i c = B i c := by
 have s1 := fun i (hi : i < m) => lead_sub h2 hA hB (fun x => (h x).2) hi
 have s2 := fun i (hi : i < m') => lead_sub h2 hB hA (fun x => (h x).1) hi
 have e1 := lead_same hA hB s1 s2
 have e2 := lead_same hB hA s2 s1
 have hm : m = m' := by
  rcases Nat.lt_trichotomy m m' with h3 | h3 | h3
  ·have := (e2 m h3).1; omega
  ·exact h3
  ·have := (e1 m' h3).1; omega
 refine ⟨hm, fun i hi c hc => ?_⟩
 subst hm
 have hB' : RedF p n m B l := ⟨hB.bd, hA.ln, hA.inc, fun i hi => by rw [← (e1 i hi).2]; exact hB.one i hi, fun i c hi hc => hB.low i c hi (by rw [(e1 i hi).2]; exact hc), fun i j hi hj hne => by rw [← (e1 j hj).2]; exact hB.col i j hi hj hne⟩
 by_cases h3 : ∃ k, k < m ∧ l k = c
 ·obtain ⟨k, hk, rfl⟩ := h3
  by_cases hik : i = k
  ·subst hik; rw [hA.one i hi, hB'.one i hi]
  ·rw [hA.col i k hi hk hik, hB'.col i k hi hk hik]
 ·have hf : ∀ k, k < m → l k ≠ c := fun k hk e => h3 ⟨k, hk, e⟩
  have h4 := (h _).1 (freeV_ann hA hc hf) i hi
  rw [free_sum hA hB' hi hc hf] at h4
  have b1 := hA.bd i c hi hc
  have b2 := hB.bd i c hi hc
  obtain ⟨k, hk⟩ := h4
  have : k = 0 := by
   rcases Int.lt_trichotomy k 0 with h5 | h5 | h5
   ·have := Int.mul_le_mul_of_nonneg_left (show k ≤ -1 by omega) (show 0 ≤ p by omega)
    omega
   ·exact h5
   ·have := Int.mul_le_mul_of_nonneg_left (show 1 ≤ k by omega) (show 0 ≤ p by omega)
    omega
  subst this
  omega
theorem sumN_swap (f : Nat → Nat → Int) (m : Nat) : ∀ (n : Nat), sumN (fun a => sumN (fun b => f a b) m) n = sumN (fun b => sumN (fun a => f a b) n) m
 | 0 => by rw [sumN]; exact (sumN_zero fun _ _ => rfl).symm
 | n + 1 => by
  rw [sumN, sumN_swap f m n, ← sumN_add]
  exact sumN_congr fun c _ => rfl
theorem sumN_mul_right (a : Int) (f : Nat → Int) (n : Nat) : sumN (fun c => f c * a) n = sumN f n * a := by
 rw [Int.mul_comm, ← sumN_mul]
 exact sumN_congr fun c _ => Int.mul_comm _ _
theorem dvd_of_sub {p a b : Int} (h : p ∣ a - b) (hb : p ∣ b) : p ∣ a := by
 have := Int.dvd_add h hb
 rwa [show a - b + b = a by omega] at this
theorem dvd_mul_sub {p a b c : Int} (h : p ∣ a - b) : p ∣ a * c - b * c := by
 rw [← Int.sub_mul]
 exact Int.dvd_trans h ⟨c, rfl⟩
section
open Classical
variable {p : Int} {n m : Nat} {A : Nat → Nat → Int} {l : Nat → Nat}
/-- The columns that no row leads. -/
def FreeC (l : Nat → Nat) (m j : Nat) : Prop := ∀ i, i < m → l i ≠ j
/-- x is made of the vectors of the free columns. -/
theorem null_made (hA : RedF p n m A l) {x : Nat → Int} (hx : AnnF p n m A x) {c : Nat} (hc : c < n) : p ∣ x c - sumN (fun j => if FreeC l m j then x j * freeV A l m j c else 0) n := by
 by_cases hf : FreeC l m c
 ·rw [sumN_one hc (fun j _ hne => by
   split
   ·rw [freeV_free hf, if_neg (Ne.symm hne), Int.mul_zero]
   ·rfl), if_pos hf, freeV_free hf, if_pos rfl]
  exact ⟨0, by omega⟩
 ·obtain ⟨i, hi, rfl⟩ : ∃ i, i < m ∧ l i = c := Classical.byContradiction fun h => hf fun i hi e => h ⟨i, hi, e⟩
  have e1 : sumN (fun j => if FreeC l m j then x j * freeV A l m j (l i) else 0) n = - sumN (fun j => if FreeC l m j then A i j * x j else 0) n := by
   rw [show - sumN (fun j => if FreeC l m j then A i j * x j else 0) n = -1 * sumN (fun j => if FreeC l m j then A i j * x j else 0) n by omega, ← sumN_mul]
   refine sumN_congr fun j hj => ?_
   split
   ·rename_i hfj
    rw [freeV_lead hA hi (hfj i hi), Int.mul_neg, Int.mul_comm]; omega
   ·rfl
  have e2 : sumN (fun c => A i c * x c) n = x (l i) + sumN (fun j => if FreeC l m j then A i j * x j else 0) n := by
   rw [show x (l i) = sumN (fun c => if c = l i then x (l i) else 0) n by rw [sumN_one (hA.ln i hi) (fun c _ hne => if_neg hne), if_pos rfl], ← sumN_add]
   refine sumN_congr fun c hc' => ?_
   by_cases h1 : c = l i
   ·subst h1
    rw [hA.one i hi, if_pos rfl, if_neg hf]; omega
   ·rw [if_neg h1]
    by_cases h2 : FreeC l m c
    ·rw [if_pos h2]; omega
    ·rw [if_neg h2]
     obtain ⟨k, hk, rfl⟩ : ∃ i, i < m ∧ l i = c := Classical.byContradiction fun h => h2 fun i hi e => h ⟨i, hi, e⟩
     rw [hA.col i k hi hk (fun e => h1 (by rw [e]))]; simp
  have := hx i hi
  rw [e2] at this
  rw [e1]
  rwa [Int.sub_neg]
theorem null_span (hA : RedF p n m A l) (y : Nat → Int) :
  (∀ j, j < n → FreeC l m j → p ∣ sumN (fun c => freeV A l m j c * y c) n) ↔ (∀ x, AnnF p n m A x → p ∣ sumN (fun c => x c * y c) n) := by
 constructor
 ·intro h x hx
  have h1 : p ∣ sumN (fun c => x c * y c) n - sumN (fun c => sumN (fun j => if FreeC l m j then x j * freeV A l m j c else 0) n * y c) n :=
   sumN_dvd_sub fun c hc => dvd_mul_sub (null_made hA hx hc)
  refine dvd_of_sub h1 ?_
  rw [show sumN (fun c => sumN (fun j => if FreeC l m j then x j * freeV A l m j c else 0) n * y c) n = sumN (fun j => sumN (fun c => (if FreeC l m j then x j * freeV A l m j c else 0) * y c) n) n from by
   rw [← sumN_swap]
   exact sumN_congr fun c _ => (sumN_mul_right _ _ _).symm]
  refine sumN_dvd fun j hj => ?_
  by_cases hf : FreeC l m j
  ·rw [show sumN (fun c => (if FreeC l m j then x j * freeV A l m j c else 0) * y c) n = x j * sumN (fun c => freeV A l m j c * y c) n from by
    rw [← sumN_mul]
    exact sumN_congr fun c _ => by rw [if_pos hf, Int.mul_assoc]]
   exact Int.dvd_trans (h j hj hf) ⟨x j, Int.mul_comm _ _⟩
  ·rw [sumN_zero fun c _ => by rw [if_neg hf, Int.zero_mul]]
   exact ⟨0, by simp⟩
 ·intro h j hj hf
  exact h _ (freeV_ann hA hj hf)
end
/-- The rows carried along an elimination of M rows whose first r are reduced, the others 0: what is orthogonal to those behind r is orthogonal to the left kernel. -/
theorem kernel_span {p : Int} {n M r : Nat} {orig own also : Nat → Nat → Int} {l : Nat → Nat} (hr : r ≤ M) (hA : RedF p n r own l) (hz : ∀ i, r ≤ i → i < M → ∀ c, c < n → own i c = 0)
  (hmul : ∀ i, i < M → ∀ c, c < n → p ∣ own i c - sumN (fun k => also i k * orig k c) M)
  (hall : ∀ x : Nat → Int, ∃ y : Nat → Int, ∀ k, k < M → p ∣ x k - sumN (fun i => y i * also i k) M) (z : Nat → Int) :
  (∀ i, r ≤ i → i < M → p ∣ sumN (fun k => also i k * z k) M) ↔ (∀ x : Nat → Int, (∀ c, c < n → p ∣ sumN (fun k => x k * orig k c) M) → p ∣ sumN (fun k => x k * z k) M) := by
 constructor
 ·intro h x hx
  obtain ⟨y, hy⟩ := hall x
  have comb : ∀ w : Nat → Int, p ∣ sumN (fun k => x k * w k) M - sumN (fun i => y i * sumN (fun k => also i k * w k) M) M := fun w => by
   have h1 : p ∣ sumN (fun k => x k * w k) M - sumN (fun k => sumN (fun i => y i * also i k) M * w k) M := sumN_dvd_sub fun k hk => dvd_mul_sub (hy k hk)
   rwa [show sumN (fun k => sumN (fun i => y i * also i k) M * w k) M = sumN (fun i => y i * sumN (fun k => also i k * w k) M) M from by
    rw [show sumN (fun i => y i * sumN (fun k => also i k * w k) M) M = sumN (fun i => sumN (fun k => y i * also i k * w k) M) M from
     sumN_congr fun i _ => by rw [← sumN_mul]; exact sumN_congr fun k _ => (Int.mul_assoc _ _ _).symm, ← sumN_swap]
    exact sumN_congr fun k _ => (sumN_mul_right _ _ _).symm] at h1
  have hyr : ∀ i, i < r → p ∣ y i := fun i hi => by
   have h1 := comb (fun k => orig k (l i))
   have h2 := hx (l i) (hA.ln i hi)
   have h3 : p ∣ sumN (fun j => y j * sumN (fun k => also j k * orig k (l i)) M) M := by
    have := Int.dvd_sub h2 h1
    rwa [show ∀ a b : Int, a - (a - b) = b from fun a b => by omega] at this
   have h4 : p ∣ sumN (fun j => y j * own j (l i)) M - sumN (fun j => y j * sumN (fun k => also j k * orig k (l i)) M) M := sumN_dvd_sub fun j hj => by
    rw [← Int.mul_sub]
    exact Int.dvd_trans (hmul j hj (l i) (hA.ln i hi)) ⟨y j, Int.mul_comm _ _⟩
   have h5 := dvd_of_sub h4 h3
   rwa [sumN_one (show i < M by omega) (fun j hj hne => by
    rcases Nat.lt_or_ge j r with h | h
    ·rw [hA.col j i h hi hne, Int.mul_zero]
    ·rw [hz j h hj (l i) (hA.ln i hi), Int.mul_zero]), hA.one i hi, Int.mul_one] at h5
  refine dvd_of_sub (comb z) (sumN_dvd fun i hi => ?_)
  rcases Nat.lt_or_ge i r with h1 | h1
  ·exact Int.dvd_trans (hyr i h1) ⟨_, rfl⟩
  ·exact Int.dvd_trans (h i h1 hi) ⟨y i, Int.mul_comm _ _⟩
 ·intro h i h1 h2
  refine h (fun k => also i k) fun c hc => ?_
  have := hmul i h2 c hc
  rw [hz i h1 h2 c hc] at this
  have := Int.dvd_sub (Int.dvd_zero p) this
  rwa [show ∀ a : Int, 0 - (0 - a) = a from fun a => by omega] at this
/-- What holds of N rows when the columns in front of c are done and r of them are led, row i by the column l i. -/
structure InvE (p : Int) (n N : Nat) (M : Nat → Nat → Int) (r c : Nat) (l : Nat → Nat) : Prop where
 bd : ∀ i d, i < N → d < n → 0 ≤ M i d ∧ M i d < p
 rN : r ≤ N
 cn : c ≤ n
 lt : ∀ i, i < r → l i < c
 inc : ∀ i j, i < j → j < r → l i < l j
 one : ∀ i, i < r → M i (l i) = 1
 low : ∀ i d, i < r → d < l i → M i d = 0
 col : ∀ i j, i < r → j < N → j ≠ i → M j (l i) = 0
 z : ∀ j d, r ≤ j → j < N → d < c → M j d = 0
/-- Rows r and k in each other's place. -/
def swN (r k i : Nat) : Nat := if i = r then k else if i = k then r else i
theorem swN_swN (r k i : Nat) : swN r k (swN r k i) = i := by unfold swN; split <;> split <;> (try split) <;> omega
theorem swN_lt {r k N i : Nat} (hr : r < N) (hk : k < N) (hi : i < N) : swN r k i < N := by unfold swN; split <;> (try split) <;> omega
theorem swN_self (r k : Nat) : swN r k r = k := by simp [swN]
theorem swN_low {r k i : Nat} (hk : r ≤ k) (hi : i < r) : swN r k i = i := by unfold swN; rw [if_neg (by omega), if_neg (by omega)]
theorem swN_high {r k i : Nat} (hk : r ≤ k) (hi : r ≤ i) : r ≤ swN r k i := by unfold swN; split <;> (try split) <;> omega
/-- The rows behind the column c: rows r and k exchanged, row r times iv, the others less their multiples of it. -/
def stepM (p : Int) (r k c : Nat) (iv : Int) (M X : Nat → Nat → Int) (i d : Nat) : Int :=
 if i = r then X k d * iv % p else (X (swN r k i) d - M (swN r k i) c * (X k d * iv % p)) % p
theorem inve_none {p : Int} {n N r c : Nat} {M : Nat → Nat → Int} {l : Nat → Nat} (h : InvE p n N M r c l) (hc : c < n) (hz : ∀ j, r ≤ j → j < N → M j c = 0) : InvE p n N M r (c + 1) l :=
 ⟨h.bd, h.rN, by omega, fun i hi => by have := h.lt i hi; omega, h.inc, h.one, h.low, h.col, fun j d hj hjn hd => by
  by_cases e : d = c
  ·subst e; exact hz j hj hjn
  ·exact h.z j d hj hjn (by omega)⟩
theorem inve_step {p : Int} {n N r c k : Nat} {iv : Int} {M : Nat → Nat → Int} {l : Nat → Nat} (h2 : 2 ≤ p) (h : InvE p n N M r c l) (hc : c < n) (hr : r ≤ k) (hk : k < N) (hiv : M k c * iv % p = 1) :
  InvE p n N (stepM p r k c iv M M) (r + 1) (c + 1) (fun i => if i = r then c else l i) := by
 have hrN : r < N := by omega
 have hp0 : p ≠ 0 := by omega
 have hkz : ∀ d, d < c → M k d * iv % p = 0 := fun d hd => by rw [h.z k d hr hk hd]; simp
 have hkl : ∀ i, i < r → M k (l i) * iv % p = 0 := fun i hi => hkz (l i) (h.lt i hi)
 have keep : ∀ i d, i ≠ r → M k d * iv % p = 0 → i < N → d < n → stepM p r k c iv M M i d = M (swN r k i) d := fun i d hi h0 hiN hd => by
  have hb := h.bd (swN r k i) d (swN_lt hrN hk hiN) hd
  unfold stepM
  rw [if_neg hi, h0, Int.mul_zero, Int.sub_zero, Int.emod_eq_of_lt hb.1 hb.2]
 have atr : ∀ d, stepM p r k c iv M M r d = M k d * iv % p := fun d => by unfold stepM; rw [if_pos rfl]
 refine ⟨fun i d hi hd => ?_, by omega, by omega, fun i hi => ?_, fun i j hij hj => ?_, fun i hi => ?_, fun i d hi hd => ?_, fun i j hi hj hne => ?_, fun j d hj hjn hd => ?_⟩
 ·unfold stepM
  split
  ·exact ⟨Int.emod_nonneg _ hp0, Int.emod_lt_of_pos _ (by omega)⟩
  ·exact ⟨Int.emod_nonneg _ hp0, Int.emod_lt_of_pos _ (by omega)⟩
 ·try dsimp only
  split
  ·omega
  ·have := h.lt i (by omega); omega
 ·try dsimp only
  rw [if_neg (by omega)]
  split
  ·exact h.lt i (by omega)
  ·exact h.inc i j hij (by omega)
 ·try dsimp only
  by_cases e : i = r
  ·subst e; rw [if_pos rfl, atr]; exact hiv
  ·have hir : i < r := by omega
   have := h.lt i hir
   rw [if_neg e, keep i (l i) e (hkl i hir) (by omega) (by omega), swN_low hr hir]
   exact h.one i hir
 ·by_cases e : i = r
  ·subst e
   try dsimp only at hd
   rw [if_pos rfl] at hd
   rw [atr]; exact hkz d hd
  ·have hir : i < r := by omega
   try dsimp only at hd
   rw [if_neg e] at hd
   have := h.lt i hir
   rw [keep i d e (hkz d (by omega)) (by omega) (by omega), swN_low hr hir]
   exact h.low i d hir hd
 ·try dsimp only
  by_cases e : i = r
  ·subst e
   rw [if_pos rfl]
   unfold stepM
   rw [if_neg hne, hiv, Int.mul_one, Int.sub_self]; rfl
  ·have hir : i < r := by omega
   have hl := h.lt i hir
   rw [if_neg e]
   by_cases ej : j = r
   ·subst ej; rw [atr]; exact hkl i hir
   ·rw [keep j (l i) ej (hkl i hir) hj (by omega)]
    refine h.col i _ hir (swN_lt hrN hk hj) (fun e' => hne ?_)
    rw [← swN_swN r k j, e', swN_low hr hir]
 ·have ej : j ≠ r := by omega
  by_cases e : d = c
  ·subst e
   unfold stepM
   rw [if_neg ej, hiv, Int.mul_one, Int.sub_self]; rfl
  ·rw [keep j d ej (hkz d (by omega)) hjn (by omega)]
   exact h.z _ d (swN_high hr (by omega)) (swN_lt hrN hk hjn) (by omega)
theorem inve_start {p : Int} {n N : Nat} {M : Nat → Nat → Int} (hb : ∀ i d, i < N → d < n → 0 ≤ M i d ∧ M i d < p) : InvE p n N M 0 0 (fun _ => 0) :=
 ⟨hb, Nat.zero_le _, Nat.zero_le _, fun i hi => by omega, fun i j _ hj => by omega, fun i hi => by omega, fun i d hi => by omega, fun i j hi => by omega, fun j d _ _ hd => by omega⟩
theorem inve_red {p : Int} {n N r c : Nat} {M : Nat → Nat → Int} {l : Nat → Nat} (h : InvE p n N M r c l) : RedF p n r M l :=
 ⟨fun i d hi hd => h.bd i d (by have := h.rN; omega) hd, fun i hi => by have := h.lt i hi; have := h.cn; omega, h.inc, h.one, h.low, fun i j hi hj hne => h.col j i hj (by have := h.rN; omega) hne⟩
theorem inve_zero {p : Int} {n N r c : Nat} {M : Nat → Nat → Int} {l : Nat → Nat} (h : InvE p n N M r c l) (he : c = n ∨ r = N) : ∀ i, r ≤ i → i < N → ∀ d, d < n → M i d = 0 := fun i h1 h2 d hd => by
 rcases he with e | e
 ·exact h.z i d h1 h2 (by omega)
 ·omega
/-! ### What a column's step does to a value that is linear in the row -/
/-- The values f' behind the step out of the values f before it. -/
structure LinTo (p : Int) (r k : Nat) (iv : Int) (g : Nat → Int) (f f' : Nat → Int) : Prop where
 top : p ∣ f' r - f k * iv
 oth : ∀ i, i ≠ r → p ∣ f' i - (f (swN r k i) - g (swN r k i) * f' r)
theorem LinTo.all {p : Int} {N r k : Nat} {iv : Int} {g f f' : Nat → Int} (h : LinTo p r k iv g f f') (hr : r < N) (hk : k < N) (h0 : ∀ i, i < N → p ∣ f i) : ∀ i, i < N → p ∣ f' i := by
 have ht : p ∣ f' r := dvd_of_sub h.top (Int.dvd_trans (h0 k hk) ⟨iv, rfl⟩)
 intro i hi
 by_cases e : i = r
 ·subst e; exact ht
 ·exact dvd_of_sub (h.oth i e) (Int.dvd_sub (h0 _ (swN_lt hr hk hi)) (Int.dvd_trans ht ⟨_, Int.mul_comm _ _⟩))
theorem LinTo.back {p : Int} {N r k : Nat} {iv b : Int} {g f f' : Nat → Int} (h : LinTo p r k iv g f f') (hr : r < N) (hk : k < N) (hb : p ∣ b * iv - 1) (h0 : ∀ i, i < N → p ∣ f' i) : ∀ i, i < N → p ∣ f i := by
 have hk0 : p ∣ f k := by
  have h1 : p ∣ f k * iv := by
   have := Int.dvd_sub (h0 r hr) h.top
   rwa [show f' r - (f' r - f k * iv) = f k * iv by omega] at this
  have h2 : p ∣ f k * iv * b := Int.dvd_trans h1 ⟨b, rfl⟩
  have h3 : p ∣ f k * (b * iv - 1) := Int.dvd_trans hb ⟨f k, Int.mul_comm _ _⟩
  have := Int.dvd_sub h2 h3
  rwa [show f k * iv * b - f k * (b * iv - 1) = f k by rw [Int.mul_sub, Int.mul_one, Int.mul_assoc, Int.mul_comm iv b]; omega] at this
 intro i hi
 by_cases e : i = k
 ·subst e; exact hk0
 ·have hs : swN r k i ≠ r := fun e' => e (by rw [← swN_swN r k i, e', swN_self])
  have h1 := h.oth (swN r k i) hs
  rw [swN_swN] at h1
  have h2 := Int.dvd_sub (h0 _ (swN_lt hr hk hi)) h1
  rw [show f' (swN r k i) - (f' (swN r k i) - (f i - g i * f' r)) = f i - g i * f' r by omega] at h2
  exact dvd_of_sub h2 (Int.dvd_trans (h0 r hr) ⟨_, Int.mul_comm _ _⟩)
end Go.Proofs.YtjdbfokbgmbphaaGreatDoor
