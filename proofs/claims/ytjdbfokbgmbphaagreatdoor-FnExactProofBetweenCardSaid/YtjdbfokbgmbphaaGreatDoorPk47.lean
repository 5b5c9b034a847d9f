/- The reference's null rows as its loops make them. Plain terms. | spNull: the reference's null rows. Conditions: p is a field; rows of the right shape. | sySolved, syCanon. Condition: the system is valid. | syCanon. Condition: the system is valid. -/
import Derived.Test.YtjdbfokbgmbphaaGreatDoorPk42
import Derived.Test.YtjdbfokbgmbphaaGreatDoorPk46
import Derived.Test.YtjdbfokbgmbphaaGreatDoorPk45
namespace Go.Proofs.YtjdbfokbgmbphaaGreatDoor
set_option linter.unusedVariables false
set_option linter.unusedSimpArgs false
open Go.RowKit
def ldA (n : Nat) (R : List (List Int)) : Nat → List Int
 | 0 => List.replicate n (-1)
 | k + 1 => (ldA n R k).set (ldF R k) k
theorem ldA_len (n : Nat) (R : List (List Int)) : ∀ k, (ldA n R k).length = n
 | 0 => by simp [ldA]
 | k + 1 => by rw [ldA, List.length_set]; exact ldA_len n R k
theorem ldA_get {n : Nat} {R : List (List Int)} {j : Nat} : ∀ {k : Nat} {x : Int}, (ldA n R k)[j]? = some x → (0 ≤ x ↔ ∃ i, i < k ∧ ldF R i = j) ∧ -1 ≤ x ∧ x < (k : Int) + 1
 | 0, x, h => by
  rw [ldA, List.getElem?_replicate] at h
  split at h
  ·cases h
   exact ⟨⟨fun h => by omega, fun ⟨i, h, _⟩ => by omega⟩, by omega, by omega⟩
  ·cases h
 | k + 1, x, h => by
  rw [ldA, List.getElem?_set] at h
  by_cases e : ldF R k = j
  ·rw [if_pos e] at h
   split at h
   ·cases h
    exact ⟨⟨fun _ => ⟨k, by omega, e⟩, fun _ => by omega⟩, by omega, by omega⟩
   ·cases h
  ·rw [if_neg e] at h
   obtain ⟨h1, h2, h3⟩ := ldA_get h
   exact ⟨h1.trans ⟨fun ⟨i, hi, hj⟩ => ⟨i, by omega, hj⟩, fun ⟨i, hi, hj⟩ => ⟨i, by
    have : i ≠ k := fun ee => e (by rw [← ee]; exact hj)
    omega, hj⟩⟩, h2, by omega⟩
def frA (p : Int) (n : Nat) (R : List (List Int)) (j : Nat) : Nat → List Int
 | 0 => unitL n j
 | k + 1 => (frA p n R j k).set (ldF R k) ((p - eM R k j) % p)
theorem frA_len (p : Int) (n : Nat) (R : List (List Int)) (j : Nat) : ∀ k, (frA p n R j k).length = n
 | 0 => unitL_len n j
 | k + 1 => by rw [frA, List.length_set]; exact frA_len p n R j k
theorem frA_free {p : Int} {n j c : Nat} {R : List (List Int)} (hc : c < n) (hj : j < n) : ∀ {k : Nat}, (∀ i, i < k → ldF R i ≠ c) → (frA p n R j k)[c]? = some (if c = j then 1 else 0)
 | 0, _ => by
  unfold frA unitL
  rw [List.getElem?_set]
  by_cases e : j = c
  ·rw [if_pos e, if_pos (by simpa using hj), if_pos e.symm]
  ·rw [if_neg e, if_neg (Ne.symm e), List.getElem?_replicate, if_pos hc]
 | k + 1, h => by
  rw [frA, List.getElem?_set, if_neg (h k (by omega))]
  exact frA_free hc hj fun i hi => h i (by omega)
theorem frA_lead {p : Int} {n j r : Nat} {R : List (List Int)} (h : RedF p n r (eM R) (ldF R)) : ∀ {k i : Nat}, k ≤ r → i < k → (frA p n R j k)[ldF R i]? = some ((p - eM R i j) % p)
 | 0, i, _, hi => by omega
 | k + 1, i, hk, hi => by
  rw [frA, List.getElem?_set]
  by_cases e : i = k
  ·subst e
   rw [if_pos rfl, if_pos (by rw [frA_len]; exact h.ln i (by omega))]
  ·rw [if_neg (fun ee => e (h.inj (by omega) (by omega) ee).symm)]
   exact frA_lead h (by omega) (by omega)
theorem neg_modE {p a : Int} : (p - a) % p = -a % p := by rw [show p - a = -a + p * 1 by omega, Int.add_mul_emod_self_left]
theorem frA_eq {p : Int} {n j r : Nat} {R : List (List Int)} (h2 : 2 ≤ p) (hr : R.length = r) (h : RedF p n r (eM R) (ldF R)) (hj : j < n) (hf : FreeC (ldF R) r j) : frA p n R j r = freeRow p n R j := by
 apply List.ext_getElem?
 intro c
 by_cases hc : c < n
 ·unfold freeRow
  rw [List.getElem?_map, List.getElem?_range hc, hr]
  by_cases hl : ∃ i, i < r ∧ ldF R i = c
  ·obtain ⟨i, hi, rfl⟩ := hl
   rw [frA_lead h (Nat.le_refl _) hi, Option.map_some, freeV_lead h hi (hf i hi), neg_modE]
  ·have hl' : ∀ i, i < r → ldF R i ≠ c := fun i hi e => hl ⟨i, hi, e⟩
   rw [frA_free hc hj hl', Option.map_some, freeV_free hl']
   split
   ·rw [Int.emod_eq_of_lt (by omega) (by omega)]
   ·rw [Int.zero_emod]
 ·rw [List.getElem?_eq_none (by rw [frA_len]; omega), List.getElem?_eq_none (by simp [freeRow]; omega)]
/-- The first k free places. -/
def frJ (n : Nat) (R : List (List Int)) (k : Nat) : List Nat := (List.range k).filter fun j => (List.range R.length).all fun i => decide (ldF R i ≠ j)
theorem frJ_all (n : Nat) (R : List (List Int)) : frJ n R n = freeJ n R := rfl
theorem frJ_len (n : Nat) (R : List (List Int)) (k : Nat) : (frJ n R k).length ≤ k := Nat.le_trans (List.length_filter_le _ _) (by simp)
theorem frJ_yes {n : Nat} {R : List (List Int)} {k : Nat} (h : FreeC (ldF R) R.length k) : frJ n R (k + 1) = frJ n R k ++ [k] := by
 unfold frJ
 rw [List.range_succ, List.filter_append]
 congr 1
 rw [List.filter_cons_of_pos]
 ·rfl
 ·rw [List.all_eq_true]; intro i hi; rw [List.mem_range] at hi; simpa using h i hi
theorem frJ_no {n : Nat} {R : List (List Int)} {k : Nat} (h : ∃ i, i < R.length ∧ ldF R i = k) : frJ n R (k + 1) = frJ n R k := by
 unfold frJ
 rw [List.range_succ, List.filter_append]
 obtain ⟨i, hi, he⟩ := h
 rw [List.filter_cons_of_neg, List.filter_nil, List.append_nil]
 rw [List.all_eq_true]
 intro h
 have := h i (List.mem_range.2 hi)
 simp [he] at this
set_option maxRecDepth 100000 in
set_option maxHeartbeats 8000000 in
theorem spNull_any (p : Int) (M : List (List Int)) (A0 : Option Addr) (cap0 N n : Nat) (w : World) (hf : fieldB p = true) (hR : RowsAt w A0 M) (s : Shp p N n M) (hN : N ≤ 1048576) (hn : n ≤ 1048576) :
  Calls Tryz.prog 121 #[.int .i64 p, .int .i64 n, .slice A0 N cap0] w (RdTo (nullS p n M) w) := by
 obtain ⟨i0, hi, hz0, hz1, hz2⟩ := info_parts infoInt
 obtain ⟨p2, p97⟩ := fieldB_bd hf
 obtain ⟨r0, l0, hr0, a1, a2, _⟩ := redI_spec hf p2 s
 have SPR := Lib.hid (spReduce_any p M A0 cap0 N n w hf hR s hN hn)
 have hnul : nullS p n M = redI p n (freeK p n (redI p n M)) := rfl
 have HREDF := Lib.hid (ldF_red a1 a2)
 obtain ⟨R, hRR⟩ : ∃ R, R = redI p n M := ⟨_, rfl⟩
 rw [← hRR] at a1 HREDF SPR hnul
 have hrl := a1.1
 obtain rfl : R.length = r0 := hrl
 have HSH := Lib.hid a1; have HF := Lib.hid hf; have HNUL := Lib.hid hnul
 have hrm : R.length ≤ 1048576 := by omega
 clear a1 a2 hRR s hf hR hnul
 go_enter Tryz.func121, Tryz.ntmps121
 go_wp2_with fail
 refine SPR.out.mono ?_
 rintro e w1 ⟨A1, c1, rfl, hr1, hb1⟩
 have HR1 := Lib.hid hr1.at; have HB1 := Lib.hid hb1
 clear hr1 hb1 SPR
 go_wp2_with ((at_make; refine wpList_make_full _ rfl _ _ 25 rfl w1.heap.size 3 i0 (.int .i64 0) 1 Tryz.underlying25 hi hz0 hz1 .i64 .i64 n n n rfl rfl rfl rfl (by rw [hz2]; omega) (by unfold maxLen; omega) (Nat.le_refl _) ?_; intro w2 hown hgrow))
 have HB2 := Lib.hid (grown_none_below hgrow)
 rw [made_ints] at hown
 have HO2 := Lib.hid (show w2.ownsRow w1.heap.size 3 1 (.slice (some ⟨w1.heap.size, 0, none⟩) n n) n ((fillTo (List.replicate n (-1)) 0 0).map (Value.int .i64)) by rw [fillTo_zero, List.length_replicate]; exact hown)
 clear hown hgrow
 go_loopw [25] (fun i wr => ∃ k : Nat, k ≤ n ∧ i = .int .i64 k ∧ wr.ownsRow w1.heap.size 3 1 (.slice (some ⟨w1.heap.size, 0, none⟩) n n) n ((fillTo (List.replicate n (-1 : Int)) 0 k).map (Value.int .i64)) ∧ Below w1.heap.size w1 wr) (fun i _ => n - (intOf i).toNat)
 case atStart => exact ⟨0, Nat.zero_le _, rfl, HO2.out, HB2.out⟩
 case round =>
  obtain ⟨k, hk, rfl, hown, hbel⟩ := hrel
  clear HO2 HB2
  by_cases hlt : k < n
  ·have hcell : wr.cell? ⟨w1.heap.size, k, none⟩ = some (.int .i64 0) := by
    rw [hown.cellAt k (by omega), List.getElem?_map, fillTo_get _ _ _ (by rw [List.length_replicate]; exact hlt)]; rfl
   have hfr := hown.frozenAt k
   have hst := (hown.stored k (.int .i64 (-1))).1
   rw [← List.map_set, fillTo_set _ _ _ _ (show (List.replicate n (-1 : Int))[k]? = some (-1) by rw [List.getElem?_replicate, if_pos hlt])] at hst
   have HS := Lib.hid hst
   have HB := Lib.hid (hbel.setCell (p := ⟨w1.heap.size, k, none⟩) (Nat.le_refl _) (.int .i64 (-1)))
   clear hst hown
   go_wp2
   go_roundw
   case rel => exact ⟨k+1, by omega, by go_num, HS.out, HB.out⟩
   case measure => simp [intOf]; omega
  ·rw [fillTo_all _ _ _ (by rw [List.length_replicate]; omega)] at hown
   have HO3 := Lib.hid hown; have HB3 := Lib.hid hbel
   have hnk : (n : Int) ≤ k := by omega
   clear hown hbel
   go_wp2
   go_loopw [34] (fun i wr => ∃ k : Nat, k ≤ R.length ∧ i = .int .i64 k ∧ wr.ownsRow w1.heap.size 3 1 (.slice (some ⟨w1.heap.size, 0, none⟩) n n) n ((ldA n R k).map (Value.int .i64)) ∧ Below w1.heap.size w1 wr) (fun i _ => R.length - (intOf i).toNat)
   case atStart => exact ⟨0, Nat.zero_le _, rfl, HO3.out, HB3.out⟩
   case round =>
    obtain ⟨k2, hk2, rfl, hown, hbel⟩ := hrel
    clear HO3 HB3 hnk hlt hk
    by_cases hlt2 : k2 < R.length
    ·obtain ⟨rk, hrk⟩ := get_of_lt hlt2
     obtain ⟨bb, o, rfl, hc⟩ := (HR1.out.ext hbel).here hlt2
     obtain ⟨A', cap', hck, hin⟩ := hc k2 rk hrk
     have hrkl := HSH.out.row rk (List.mem_of_getElem? hrk)
     have hld : ldF R k2 = leadOf rk := by unfold ldF; rw [getD_some hrk]
     have hlb := HREDF.out.ln k2 hlt2
     have SPL := Lib.hid (fun W (hW : Below wr.heap.size wr W) => (by
      have := spLead_any rk A' cap' W (hin.ext hW) (by omega)
      rw [← hld, hrkl] at this; exact this : Calls Tryz.prog 131 #[.slice A' n cap'] W fun e w' => e = .returned (.int .i64 (ldF R k2)) ∧ Below W.heap.size W w'))
     rw [hrkl] at hck
     have HOW := Lib.hid hown; have HBL := Lib.hid hbel
     have HLDS := Lib.hid (show (ldA n R k2).set (ldF R k2) k2 = ldA n R (k2 + 1) from rfl)
     clear hrk hc hin hrkl hld hown hbel
     go_wp2_with ((go_at_call 131; refine (SPL.out _ (Below.refl _ _)).mono ?_; rintro e w' ⟨rfl, hb5⟩; have ho5 := World.ownsRow.kept HOW.out (row := none) ⟨hb5.os, hb5.tape, hb5.output, hb5.size, fun k hk _ => hb5.block k hk⟩ (by simp [Value.ownBlock]); have hq := HLDS.out; obtain ⟨d, hd⟩ := get_of_lt (show ldF R k2 < (ldA n R k2).length by rw [ldA_len]; exact hlb); have hcell : w'.cell? ⟨w1.heap.size, ldF R k2, none⟩ = some (.int .i64 d) := (by rw [ho5.cellAt _ (by omega), List.getElem?_map, hd]; rfl); have hfr := ho5.frozenAt (ldF R k2); have hst := (ho5.stored (ldF R k2) (.int .i64 k2)).1; rw [← List.map_set, hq] at hst; have HS := Lib.hid hst; have HB := Lib.hid ((HBL.out.trans (hb5.mono HBL.out.size)).setCell (p := ⟨w1.heap.size, ldF R k2, none⟩) (Nat.le_refl _) (.int .i64 k2)); clear hst ho5 hq hd hb5))
     go_roundw
     case rel => exact ⟨k2+1, by omega, by go_num, HS.out, HB.out⟩
     case measure => simp [intOf]; omega
    ·have hkr : k2 = R.length := by omega
     subst hkr
     have HO4 := Lib.hid hown; have HB4 := Lib.hid hbel
     obtain ⟨w3, hw3⟩ : ∃ w3, w3 = wr := ⟨_, rfl⟩
     rw [← hw3] at HO4 HB4 ⊢
     clear hown hbel hw3
     go_wp2
     have hg13 : w1.heap.size < w3.heap.size := (World.ownsRow.lt HO4.out w1.heap.size rfl).2
     go_loopw [12, 13] (fun u12 u13 wr => ∃ j : Nat, j ≤ n ∧ u13 = .int .i64 j ∧ OwnRows wr (w1.heap.size + 1) u12 ((frJ n R j).map (freeRow p n R)) ∧ Below (w1.heap.size + 1) w3 wr) (fun _ u _ => n - (intOf u).toNat)
     case atStart => exact ⟨0, Nat.zero_le _, rfl, OwnRows.empty (World.ownsRow_nil _ _ _ _), Below.refl _ _⟩
     case round =>
      obtain ⟨j, hj, rfl, hown, hbel⟩ := hrel
      obtain ⟨w0, rfl⟩ : ∃ w0, w0 = wr := ⟨wr, rfl⟩
      have Hown := Lib.hid hown; have HBE := Lib.hid hbel
      have hszr := hbel.size
      clear hown
      have HRW := Lib.hid (HR1.out.ext ((HB4.out.trans (hbel.mono (by omega)))))
      by_cases hlt3 : j < n
      ·obtain ⟨x, hx⟩ := get_of_lt (show j < (ldA n R R.length).length by rw [ldA_len]; exact hlt3)
       obtain ⟨hxi, hx1, hx2⟩ := ldA_get hx
       have hcx : w0.cell? ⟨w1.heap.size, j, none⟩ = some (.int .i64 x) := (hbel.cell (p := ⟨w1.heap.size, j, none⟩) (by simp)).trans (by rw [HO4.out.cellAt j (by omega), List.getElem?_map, hx]; rfl)
       clear hx hbel
       by_cases hx0 : 0 ≤ x
       ·have HFJ := Lib.hid (frJ_no (n := n) (hxi.1 hx0))
        clear hxi
        go_wp2
        go_roundw
        case rel => exact ⟨j + 1, by omega, by go_num, by rw [HFJ.out]; exact Hown.out, HBE.out⟩
        case measure => simp [intOf]; omega
       ·have hfree : FreeC (ldF R) R.length j := fun i hi e => hx0 (hxi.2 ⟨i, hi, e⟩)
        have HFJ := Lib.hid (frJ_yes (n := n) hfree)
        have HFE := Lib.hid (frA_eq p2 rfl HREDF.out hlt3 hfree)
        clear hxi hfree
        go_wp2_with ((at_make; refine wpList_make_full _ rfl _ _ 25 rfl w0.heap.size 3 i0 (.int .i64 0) 1 Tryz.underlying25 hi hz0 hz1 .i64 .i64 n n n rfl rfl rfl rfl (by rw [hz2]; omega) (by unfold maxLen; omega) (Nat.le_refl _) ?_; intro w4 hown4 hgrow4; have hb4 := grown_none_below hgrow4; rw [made_ints] at hown4; have hcell4 : w4.cell? ⟨w0.heap.size, j, none⟩ = some (.int .i64 0) := (by rw [hown4.cellAt j (by omega), List.getElem?_map, List.getElem?_replicate, if_pos hlt3]; rfl); have hfr4 := hown4.frozenAt j; have hst4 := (hown4.stored j (.int .i64 1)).1; rw [← List.map_set] at hst4; have HS4 := Lib.hid (show (w4.setCell ⟨w0.heap.size, j, none⟩ (.int .i64 1)).ownsRow w0.heap.size 3 1 (.slice (some ⟨w0.heap.size, 0, none⟩) n n) n ((frA p n R j 0).map (Value.int .i64)) from hst4); have HBB4 := Lib.hid (hb4.setCell (p := ⟨w0.heap.size, j, none⟩) (Nat.le_refl _) (.int .i64 1)); clear hst4 hown4 hgrow4 hb4))
        clear hcell4 hfr4
        go_loopw [62] (fun u wq => ∃ k : Nat, k ≤ R.length ∧ u = .int .i64 k ∧ wq.ownsRow w0.heap.size 3 1 (.slice (some ⟨w0.heap.size, 0, none⟩) n n) n ((frA p n R j k).map (Value.int .i64)) ∧ Below w0.heap.size w0 wq) (fun u _ => R.length - (intOf u).toNat)
        case atStart => exact ⟨0, Nat.zero_le _, rfl, HS4.out, HBB4.out⟩
        case round =>
         obtain ⟨k, hk3, rfl, hoq, hbq⟩ := hrel
         clear HS4 HBB4 hcx
         by_cases hlt4 : k < R.length
         ·obtain ⟨rk, hrk⟩ := get_of_lt hlt4
          obtain ⟨bb, o, rfl, hc⟩ := HRW.out.here hlt4
          obtain ⟨A', cap', hck0, hin⟩ := hc k rk hrk
          have hbb : bb < w0.heap.size := block_of hck0
          have hck := ext_cell hbq hck0
          have hrkl := HSH.out.row rk (List.mem_of_getElem? hrk)
          have hld : ldF R k = leadOf rk := by unfold ldF; rw [getD_some hrk]
          have hlb := HREDF.out.ln k hlt4
          obtain ⟨y, hy⟩ := get_of_lt (show j < rk.length by omega)
          obtain ⟨b2, o2, rfl, hc2⟩ := hin.here (show j < rk.length by omega)
          have hb2b : b2 < w0.heap.size := block_of (hc2 _ _ hy)
          have hcy := ext_cell hbq (hc2 _ _ hy)
          have hey : eM R k j = y := by unfold eM; rw [getD_some hrk, getD_some hy]
          obtain ⟨y1, y2⟩ := HSH.out.el rk (List.mem_of_getElem? hrk) y (List.mem_of_getElem? hy)
          have SPL := Lib.hid (fun W (hW : Below wr.heap.size wr W) => (by
           have := spLead_any rk (some ⟨b2, o2, none⟩) cap' W ((hin.ext hbq).ext hW) (by omega)
           rw [← hld, hrkl] at this; exact this : Calls Tryz.prog 131 #[.slice (some ⟨b2, o2, none⟩) n cap'] W fun e w' => e = .returned (.int .i64 (ldF R k)) ∧ Below W.heap.size W w'))
          rw [hrkl] at hck
          have HOW := Lib.hid hoq; have HBL := Lib.hid hbq
          have HLDS := Lib.hid (show (frA p n R j k).set (ldF R k) (-y % p) = frA p n R j (k + 1) by rw [← hey, ← neg_modE]; rfl)
          clear hrk hc hin hck0 hrkl hld hoq hbq hc2 hy hey
          go_wp2_with fail
          go_region_held3 (fun W => W.cell? ⟨bb, o + k, none⟩ = some (.slice (some ⟨b2, o2, none⟩) n cap') ∧ W.cell? ⟨b2, o2 + j, none⟩ = some (.int .i64 y))
           (first | exact hS5 | exact ⟨hck, hcy⟩ | (refine ⟨?_, ?_⟩ <;> (first | (refine (cell_set_ne (by simp <;> omega)).trans ?_; first | exact hS5.1 | exact hS5.2) | trace_state)))
           ((first | (go_at_call 131; refine (SPL.out _ (Below.refl _ _).drew).mono ?_; rintro e w' ⟨rfl, hb5⟩; have hS5 := And.intro (ext_cell hb5 hck) (ext_cell hb5 hcy); have hb6 := (Below.refl wr.heap.size wr).drew.trans hb5; have ho5 := World.ownsRow.kept HOW.out (row := none) ⟨hb6.os, hb6.tape, hb6.output, hb6.size, fun k hk _ => hb6.block k hk⟩ (by simp [Value.ownBlock]); have hq := HLDS.out; obtain ⟨d, hd⟩ := get_of_lt (show ldF R k < (frA p n R j k).length by rw [frA_len]; exact hlb); have hcell : w'.cell? ⟨w0.heap.size, ldF R k, none⟩ = some (.int .i64 d) := (by rw [ho5.cellAt _ (by omega), List.getElem?_map, hd]; rfl); have hfr := ho5.frozenAt (ldF R k); have hst := (ho5.stored (ldF R k) (.int .i64 (-y % p))).1; rw [← List.map_set, hq] at hst; have HS := Lib.hid hst; have HB := Lib.hid ((HBL.out.trans (hb6.mono HBL.out.size)).setCell (p := ⟨w0.heap.size, ldF R k, none⟩) (Nat.le_refl _) (.int .i64 (-y % p))); clear hst ho5 hq hd hb5 hb6) | (go_at_call 97; refine (fdNeg_any p y _ p2 p97 y1 y2).mono ?_; rintro e w'' ⟨rfl, rfl⟩)))
          all_goals go_wp2
          all_goals go_roundw
          all_goals try (case rel => exact ⟨k+1, by omega, by go_num, HS.out, HB.out⟩)
          all_goals (try (simp [intOf]; omega))
         ·have hkr : k = R.length := by omega
          subst hkr
          have HOQ := Lib.hid (show OwnInts wr w0.heap.size (.slice (some ⟨w0.heap.size, 0, none⟩) n n) (freeRow p n R j) by
           have h := hoq
           rw [HFE.out] at h
           unfold OwnInts
           rw [show (freeRow p n R j).length = n by simp [freeRow]]; exact h)
          have HBQ := Lib.hid hbq
          have HLN := Lib.hid (show ((frJ n R j).map (freeRow p n R)).length + 1 ≤ 1073741824 by rw [List.length_map]; have := frJ_len n R j; omega)
          have HMP := Lib.hid (show (frJ n R (j + 1)).map (freeRow p n R) = (frJ n R j).map (freeRow p n R) ++ [freeRow p n R j] by rw [HFJ.out, List.map_append]; rfl)
          clear hoq hbq
          go_wp2_with ((at_builtin; refine wp_appendRow rfl _ _ rfl (w1.heap.size + 1) w0 _ _ _ _ _ Hown.out HBQ.out HOQ.out HLN.out (by omega) rfl rfl ?_; intro u' w6 hown6 hbel6))
          go_roundw
          case rel => exact ⟨j + 1, by omega, by go_num, by rw [HMP.out]; exact hown6, HBE.out.trans hbel6⟩
          case measure => simp [intOf]; omega
      ·have hjn : j = n := by omega
       have hown := Hown.out
       rw [hjn, frJ_all] at hown
       have hfk : (freeJ n R).map (freeRow p n R) = freeK p n R := rfl
       rw [hfk] at hown
       obtain ⟨A6, c6, rfl, hr6, _⟩ := hown.view
       have hfl : (freeK p n R).length ≤ n := by unfold freeK; rw [List.length_map]; exact frJ_len n R n
       have HSP := Lib.hid (spReduce_any p (freeK p n R) A6 c6 (freeK p n R).length n w0 HF.out hr6 (by rw [freeK_shp p2 |>.1]; exact freeK_shp p2) (by omega) hn)
       have HWB := Lib.hid (HB1.out.trans ((HB4.out.trans (hbel.mono (by omega))).mono HB1.out.size))
       have hjl : (n : Int) ≤ j := by omega
       clear hown hr6 hfk hjn hbel
       go_wp2_with fail
       refine HSP.out.mono ?_
       rintro e w7 ⟨A7, c7, rfl, hr7, hb7⟩
       have HR7 := Lib.hid hr7; have HB7 := Lib.hid hb7
       clear hr7 hb7
       go_wp2
       go_ret
       exact ⟨A7, c7, by rw [HNUL.out]; rfl, by rw [HNUL.out]; exact HR7.out.mono HWB.out.size, HWB.out.trans (HB7.out.mono HWB.out.size)⟩
theorem RowsCap.ext {w w' : World} {A : Option Addr} {rows : List (List Int)} (h : RowsCap w A rows) (hb : Below w.heap.size w w') : RowsCap w' A rows := by
 rcases h with h | ⟨b, o, hA, hc⟩
 ·exact Or.inl h
 ·refine Or.inr ⟨b, o, hA, fun k r hk => ?_⟩
  obtain ⟨A', cap, h1, h2, h3⟩ := hc k r hk
  exact ⟨A', cap, ext_cell hb h1, h2, h3.ext hb⟩
theorem RowsCap.here {w : World} {A : Option Addr} {rows : List (List Int)} (h : RowsCap w A rows) {k : Nat} (hk : k < rows.length) :
  ∃ b o, A = some ⟨b, o, none⟩ ∧ ∀ k r, rows[k]? = some r → ∃ A' cap, w.cell? ⟨b, o + k, none⟩ = some (.slice A' r.length cap) ∧ r.length ≤ cap ∧ IntsAt w A' r := by
 rcases h with h | h
 ·simp [h] at hk
 ·exact h
/-- Rows that can be read are handed back. -/
def SolTo (rows : List (List Int)) (w : World) (e : Ending) (w' : World) : Prop := ∃ A c, e = .returned (.slice A rows.length c) ∧ RowsAt w' A rows ∧ Below w.heap.size w w'
/-- Slices of v elements whose contents lie in an earlier world. -/
def Cuts (w0 : World) (v : Nat) (S : List (List Int)) (us : List Value) (k : Nat) : Prop :=
 us.length = k ∧ ∀ i r, i < k → S[i]? = some r → ∃ A c, us[i]? = some (.slice A v c) ∧ IntsAt w0 A (r.take v)
theorem Cuts.snoc {w0 : World} {v k : Nat} {S : List (List Int)} {us : List Value} {r : List Int} {A : Option Addr} {c : Nat} (h : Cuts w0 v S us k) (hr : S[k]? = some r) (hi : IntsAt w0 A (r.take v)) : Cuts w0 v S (us ++ [.slice A v c]) (k + 1) := by
 refine ⟨by rw [List.length_append, h.1]; rfl, fun i r' hi' hr' => ?_⟩
 by_cases e : i = k
 ·subst e
  rw [hr] at hr'
  cases hr'
  exact ⟨A, c, by rw [List.getElem?_append_right (by rw [h.1]; exact Nat.le_refl _), h.1]; simp, hi⟩
 ·obtain ⟨A', c', h1, h2⟩ := h.2 i r' (by omega) hr'
  exact ⟨A', c', by rw [List.getElem?_append_left (by rw [h.1]; omega)]; exact h1, h2⟩
theorem Cuts.rows {w0 w : World} {B v n c : Nat} {A : Option Addr} {S : List (List Int)} {us : List Value} (h : Cuts w0 v S us S.length) (hv : ∀ r ∈ S, v ≤ r.length) (hb : Below w0.heap.size w0 w) (ho : w.ownsRow B 25 1 (.slice A n c) S.length us) : RowsAt w A (cutL v S) := by
 rcases Nat.eq_zero_or_pos S.length with h0 | h0
 ·exact Or.inl (by rw [List.eq_nil_of_length_eq_zero h0]; rfl)
 ·obtain ⟨g, cap', e, _⟩ := World.ownsRow.form ho h0
  simp only [Value.slice.injEq] at e
  obtain ⟨rfl, rfl, rfl⟩ := e
  refine Or.inr ⟨g, 0, rfl, fun k r hr => ?_⟩
  unfold cutL at hr
  rw [List.getElem?_map] at hr
  obtain ⟨q, hq, rfl⟩ := Option.map_eq_some_iff.1 hr
  have hk := (List.getElem?_eq_some_iff.1 hq).1
  obtain ⟨A', c', h1, h2⟩ := h.2 k q hk hq
  have hl := hv q (List.mem_of_getElem? hq)
  exact ⟨A', c', by rw [Nat.zero_add, ho.cellAt _ (by omega), h1, List.length_take, Nat.min_eq_left hl], h2.ext hb⟩
set_option maxRecDepth 100000 in
set_option maxHeartbeats 8000000 in
theorem sySolved_any (p : Int) (s : Sy) (A : Option Addr) (cap : Nat) (w : World) (hR : RowsAt w A s.rows) (hok : s.Ok p) :
  Calls Tryz.prog 122 #[.int .i64 p, .agg #[.int .i64 s.v, .int .i64 s.h, .slice A s.rows.length cap]] w (SolTo (cutL s.v.toNat (nullS p s.n s.rows)) w) := by
 have hv := Sys.v0 hok; have hv' := Sys.v24 hok; have hh := Sys.h0 hok; have hh' := Sys.h100 hok
 have hsn : ((s.n : Nat) : Int) = s.v + s.h := by unfold Sy.n; omega
 have hvn : ((s.v.toNat : Nat) : Int) = s.v := by omega
 obtain ⟨r1, l1, hr1, a1, _, _⟩ := nullS_spec (Sys.f hok) (Sys.p2 hok) (Sy.shp hok)
 have hvl : s.v.toNat ≤ s.n := by unfold Sy.n; omega
 obtain ⟨S, hS⟩ : ∃ S, S = nullS p s.n s.rows := ⟨_, rfl⟩
 rw [← hS] at a1 ⊢
 have HNUL := Lib.hid (fun (w1 : World) (hR1 : RowsAt w1 A s.rows) => (by
  have := spNull_any p s.rows A cap s.rows.length s.n w1 (Sys.f hok) hR1 (Sy.shp hok) (by have := Sys.n hok; omega) (by unfold Sy.n; omega)
  rw [hsn, ← hS] at this
  exact this : Calls Tryz.prog 121 #[.int .i64 p, .int .i64 (s.v + s.h), .slice A s.rows.length cap] w1 (RdTo S w1)))
 have HLE := Lib.hid (show ∀ r ∈ S, s.v.toNat ≤ r.length from fun r hr => by rw [a1.row r hr]; exact hvl)
 have HSL := Lib.hid (a1.1)
 have hsl : S.length ≤ 1048576 := by have : s.n ≤ 124 := (by unfold Sy.n; omega); have := a1.1; omega
 have HR := Lib.hid hR
 obtain ⟨V, hV⟩ : ∃ V, V = s.v.toNat := ⟨_, rfl⟩
 rw [← hV] at HLE hvn ⊢
 clear hS a1 hR hok hV hvl hsn
 obtain ⟨v, h, rows⟩ := s
 dsimp only at *
 subst hvn
 go_enter Tryz.func122, Tryz.ntmps122
 go_upto_region 2 with (fail)
 have hB : Below w.heap.size w (w.alloc (.cells #[.int .i64 V, .int .i64 h, .slice A rows.length cap] 30)) := (Below.refl _ _).alloc (Nat.le_refl _) _
 have hq : (w.alloc (.cells #[.int .i64 V, .int .i64 h, .slice A rows.length cap] 30)).heap[w.heap.size]? = some (.cells #[.int .i64 V, .int .i64 h, .slice A rows.length cap] 30 (0, 0)) := heap_at _ _ rfl
 obtain ⟨W1, hW1⟩ : ∃ W1, W1 = w.alloc (.cells #[.int .i64 V, .int .i64 h, .slice A rows.length cap] 30) := ⟨_, rfl⟩
 rw [← hW1] at hB hq ⊢
 clear hW1
 obtain ⟨x0, x1, x2⟩ := cells_3 hq
 have HB := Lib.hid hB; have HRW := Lib.hid (HR.out.ext hB)
 clear hq hB HR
 go_wp2_with fail
 refine (HNUL.out _ HRW.out).mono ?_
 rintro e w2 ⟨A2, c2, rfl, hr2, hb2⟩
 have y0 := ext_cell hb2 x0
 have HR2 := Lib.hid hr2.cap; have HB2 := Lib.hid hb2
 have hb0 : w.heap.size < w2.heap.size := by have := block_of y0; exact this
 clear hr2 hb2 x0 x1 x2
 go_wp2
 go_loopw [5, 18] (fun u i wr => ∃ k : Nat, k ≤ S.length ∧ i = .int .i64 k ∧ (∃ us, wr.ownsRow w2.heap.size 25 1 u k us ∧ Cuts w2 V S us k) ∧ Below w2.heap.size w2 wr) (fun _ i _ => S.length - (intOf i).toNat)
 case atStart => exact ⟨0, Nat.zero_le _, rfl, ⟨[], World.ownsRow_nil _ _ _ _, rfl, fun i r hi => by omega⟩, Below.refl _ _⟩
 case round =>
  obtain ⟨k, hk, rfl, ⟨us, hown, hcut⟩, hbel⟩ := hrel
  by_cases hlt : k < S.length
  ·obtain ⟨r, hr⟩ := get_of_lt hlt
   obtain ⟨bb, o, rfl, hc⟩ := HR2.out.here hlt
   obtain ⟨A', cap', hck0, hcp, hin⟩ := hc k r hr
   have hck := ext_cell hbel hck0
   have hrl := HLE.out r (List.mem_of_getElem? hr)
   have y1 := ext_cell hbel y0
   have HCUT := Lib.hid (fun c => hcut.snoc (c := c) hr (ints_take hin V))
   have hvc : V ≤ cap' := by omega
   have HOW := Lib.hid hown; have HBL := Lib.hid hbel
   have hsz := hbel.size
   clear hr hc hck0 hin hown hcut hbel
   go_wp2_with ((at_builtin; refine wp_appendVals rfl _ _ rfl w2.heap.size _ _ k 1 us [.slice A' V cap'] _ 1 rfl rfl rfl (World.ownsRow.alloc HOW.out _) (one_new wr _) (one_one A' V cap') (by omega) (by simp; omega) ?_; intro u' w4 hown4 hbel4))
   go_roundw
   case rel => exact ⟨k+1, by omega, by go_num, ⟨_, hown4, HCUT.out _⟩, HBL.out.trans (((Below.refl _ _).alloc (by omega) _).trans (hbel4.mono (by omega)))⟩
   case measure => simp [intOf]; omega
  ·have hkS : k = S.length := by omega
   subst hkS
   have hsl2 : ∃ A5 c5, u5 = .slice A5 S.length c5 := by
    rcases hown.2 with ⟨e, h0⟩ | ⟨g, cap', cur, e, _⟩
    ·exact ⟨none, 0, by rw [e, h0]⟩
    ·exact ⟨_, _, e⟩
   obtain ⟨A5, c5, rfl⟩ := hsl2
   have HRD := Lib.hid (hcut.rows HLE.out hbel hown)
   have HLC := Lib.hid (show (cutL V S).length = S.length by simp [cutL])
   have HBL := Lib.hid (HB.out.trans ((HB2.out.trans (hbel.mono HB2.out.size)).mono HB.out.size))
   clear hown hcut hbel
   go_wp2
   go_ret
   exact ⟨A5, c5, by rw [HLC.out]; rfl, HRD.out, HBL.out⟩
set_option maxRecDepth 100000 in
set_option maxHeartbeats 8000000 in
theorem syCanon_any (p : Int) (s : Sy) (A : Option Addr) (cap : Nat) (w : World) (hR : RowsAt w A s.rows) (hok : s.Ok p) :
  Calls Tryz.prog 108 #[.int .i64 p, .agg #[.int .i64 s.v, .int .i64 s.h, .slice A s.rows.length cap]] w (CanTo (canSy p s) w) := by
 have hv := Sys.v0 hok; have hv' := Sys.v24 hok
 obtain ⟨r, _, hr, hsh0, _, _⟩ := nullS_spec (Sys.f hok) (Sys.p2 hok) (Sy.shp hok)
 have hnb : s.n ≤ 124 := by have := Sys.h100 hok; unfold Sy.n; omega
 have hsh := cutL_shp hsh0 (show s.v.toNat ≤ s.n by unfold Sy.n; omega)
 have hvn : ((s.v.toNat : Nat) : Int) = s.v := by omega
 have HSAT := Lib.hid (fun (w1 : World) (hR1 : RowsAt w1 A s.rows) => sySolved_any p s A cap w1 hR1 hok)
 have hcn : canI p s.v.toNat s.h.toNat s.rows = nullS p s.v.toNat (cutL s.v.toNat (nullS p s.n s.rows)) := canon_eq (Sys.f hok) (Sys.p2 hok) (Sy.shp hok)
 obtain ⟨O, hO⟩ : ∃ O, O = cutL s.v.toNat (nullS p s.n s.rows) := ⟨_, rfl⟩
 rw [← hO] at HSAT hsh hcn
 have hol := hsh.1
 have HORT := Lib.hid (fun (w1 : World) (A1 : Option Addr) (c1 : Nat) (hR1 : RowsAt w1 A1 O) => (by
  have := spNull_any p O A1 c1 O.length s.v.toNat w1 (Sys.f hok) hR1 (by rw [hol]; exact hsh) (by omega) (by omega)
  rw [hvn] at this
  exact this : Calls Tryz.prog 121 #[.int .i64 p, .int .i64 s.v, .slice A1 O.length c1] w1 (RdTo (nullS p s.v.toNat O) w1)))
 have HCAN := Lib.hid (show (canSy p s).rows = nullS p s.v.toNat O from hcn)
 obtain ⟨Q, hQ⟩ : ∃ Q, Q = nullS p s.v.toNat O := ⟨_, rfl⟩
 rw [← hQ] at HORT HCAN
 have HR := Lib.hid hR
 have HCV := Lib.hid (show (canSy p s).v = s.v ∧ (canSy p s).h = 0 from ⟨rfl, rfl⟩)
 obtain ⟨T, hT⟩ : ∃ T, T = canSy p s := ⟨_, rfl⟩
 rw [← hT] at HCAN HCV ⊢
 clear hT hQ hO hol hsh hsh0 hcn hvn hr hok hR
 obtain ⟨v, h, rows⟩ := s
 dsimp only at *
 go_enter Tryz.func108, Tryz.ntmps108
 go_upto_region 1 with (fail)
 have hB : Below w.heap.size w ((w.alloc (.cells #[.int .i64 v, .int .i64 h, .slice A rows.length cap] 30)).alloc (.cells #[.int .i64 0, .int .i64 0, .slice none 0 0] 30)) := ((Below.refl _ _).alloc (Nat.le_refl _) _).alloc (by simp) _
 have hq : ((w.alloc (.cells #[.int .i64 v, .int .i64 h, .slice A rows.length cap] 30)).alloc (.cells #[.int .i64 0, .int .i64 0, .slice none 0 0] 30)).heap[w.heap.size]? = some (.cells #[.int .i64 v, .int .i64 h, .slice A rows.length cap] 30 (0, 0)) := (heap_past _ _ (by simp)).trans (heap_at _ _ rfl)
 have hq2 : ((w.alloc (.cells #[.int .i64 v, .int .i64 h, .slice A rows.length cap] 30)).alloc (.cells #[.int .i64 0, .int .i64 0, .slice none 0 0] 30)).heap[w.heap.size + 1]? = some (.cells #[.int .i64 0, .int .i64 0, .slice none 0 0] 30 (0, 0)) := heap_at _ _ (by simp)
 have hsz : w.heap.size + 2 = ((w.alloc (.cells #[.int .i64 v, .int .i64 h, .slice A rows.length cap] 30)).alloc (.cells #[.int .i64 0, .int .i64 0, .slice none 0 0] 30)).heap.size := by simp
 obtain ⟨W1, hW1⟩ : ∃ W1, W1 = (w.alloc (.cells #[.int .i64 v, .int .i64 h, .slice A rows.length cap] 30)).alloc (.cells #[.int .i64 0, .int .i64 0, .slice none 0 0] 30) := ⟨_, rfl⟩
 rw [← hW1] at hB hq hq2 hsz ⊢
 clear hW1
 have HBW := Lib.hid hB; have HQ2 := Lib.hid hq2; have HSZ := Lib.hid hsz
 have HRW := Lib.hid (HR.out.ext hB)
 obtain ⟨x0, x1, x2⟩ := cells_3 hq
 clear hq hq2 hB HR hsz
 go_region_held3 (fun w' => w'.cell? ⟨w.heap.size, 0, none⟩ = some (.int .i64 v) ∧ w'.cell? ⟨w.heap.size, 1, none⟩ = some (.int .i64 h) ∧ w'.cell? ⟨w.heap.size, 2, none⟩ = some (.slice A rows.length cap))
  (first | exact t2 | exact t1 | exact ⟨x0, x1, x2⟩ | exact ⟨set3_keep (by simp) t2.1, set3_keep (by simp) t2.2.1, set3_keep (by simp) t2.2.2⟩)
  ((first | (go_at_call 122; refine (HSAT.out _ (HRW.out.ext (Below.refl _ _).drew)).mono ?_; rintro e w2 ⟨A2, c2, rfl, hr2, hb2⟩; have t1 := And.intro (ext_cell hb2 x0) (And.intro (ext_cell hb2 x1) (ext_cell hb2 x2)); have HR2 := Lib.hid hr2; have HB2 := Lib.hid ((Below.refl W1.heap.size W1).drew.trans hb2); clear hr2 hb2) | (go_at_call 121; refine (HORT.out _ _ _ HR2.out).mono ?_; rintro e w3 ⟨A3, c3, rfl, hr3, hb3⟩; have t2 := And.intro (ext_cell hb3 t1.1) (And.intro (ext_cell hb3 t1.2.1) (ext_cell hb3 t1.2.2)); have HR3 := Lib.hid (hr3.mono HB2.out.size); have HB3 := Lib.hid (HB2.out.trans (hb3.mono HB2.out.size)); have hz := boxb HB3.out HQ2.out; obtain ⟨r0, r1, r2⟩ := cells_3 hz; have s0 := blk_free hz 0; have s1 := blk_free hz 1; have s2 := blk_free hz 2; have HZ := Lib.hid hz; clear hr3 hb3 hz)))
 have hb3 := set3_block (v0 := .int .i64 v) (v1 := .int .i64 0) (v2 := .slice A3 Q.length c3) HZ.out
 have HF := Lib.hid (HR3.out.set3 (b := w.heap.size + 1) (v0 := .int .i64 v) (v1 := .int .i64 0) (v2 := .slice A3 Q.length c3) (by have := HSZ.out; omega))
 have HE := Lib.hid (below_set3' (b := w.heap.size + 1) (HBW.out.trans (HB3.out.mono HBW.out.size)) (by omega) (.int .i64 v) (.int .i64 0) (.slice A3 Q.length c3))
 obtain ⟨W5, hW5⟩ : ∃ W5, W5 = ((w3.setCell ⟨w.heap.size + 1, 0, none⟩ (.int .i64 v)).setCell ⟨w.heap.size + 1, 1, none⟩ (.int .i64 0)).setCell ⟨w.heap.size + 1, 2, none⟩ (.slice A3 Q.length c3) := ⟨_, rfl⟩
 rw [← hW5] at hb3 HF HE ⊢
 clear hW5 r0 r1 r2 s0 s1 s2 t2 x0 x1 x2
 obtain ⟨y0, y1, y2⟩ := cells_3 hb3
 clear hb3
 go_wp2
 refine bodyPost_ret (v := .agg #[.int .i64 v, .int .i64 0, .slice A3 Q.length c3]) (by simp [results, Tryz.results108, go_sem, *]) rfl ⟨A3, c3, ?_, ?_, HE.out⟩
 ·rw [HCAN.out, HCV.out.1, HCV.out.2]
 ·rw [HCAN.out]; exact HF.out.mono HBW.out.size
end Go.Proofs.YtjdbfokbgmbphaaGreatDoor
