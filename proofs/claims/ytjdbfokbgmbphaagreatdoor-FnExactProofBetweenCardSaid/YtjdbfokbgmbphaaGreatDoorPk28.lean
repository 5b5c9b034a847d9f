/- Both ApplySteps. Conditions: lengths of at most 2^20; the table of primes is laid. | The law's marks on slices of steps. Conditions: lengths of at most 2^20. | Equality of lists, of slices of lists and of systems, on both sides. Conditions: lengths of at most maxLen. -/
import Derived.Test.YtjdbfokbgmbphaaGreatDoorPk26
import Derived.Test.YtjdbfokbgmbphaaGreatDoorPk24
import Derived.Test.YtjdbfokbgmbphaaGreatDoorPk8
namespace Go.Proofs.YtjdbfokbgmbphaaGreatDoor
set_option linter.unusedVariables false
set_option linter.unusedSimpArgs false
open Go.RowKit
/-- Steps in slices of the call's own, their blocks from lo to hi. -/
structure HasSW (w : World) (lo hi : Nat) (v : Value) (xs : List Stp) (us : List Value) : Prop where
 own : OwnStepsW w lo v xs us
 up : ∀ b, v.ownBlock = some b → b < hi
 ups : ∀ u ∈ us, ∀ b, u.ownBlock = some b → b < hi
def HasS (w : World) (lo hi : Nat) (v : Value) (xs : List Stp) : Prop := ∃ us, HasSW w lo hi v xs us
section
variable {w w' : World} {lo hi lo' hi' : Nat} {v : Value} {xs : List Stp} {us : List Value}
theorem HasS.of {B : Nat} (h : OwnSteps w B v xs) : HasS w B w.heap.size v xs := by
 obtain ⟨us, h⟩ := h
 refine ⟨us, h, fun b hb => (h.lt b hb).2, fun u hu b hb => ?_⟩
 obtain ⟨k, hk⟩ := List.mem_iff_getElem?.1 hu
 obtain ⟨r, _, ho⟩ := h.getR hk
 exact (ho.lt b hb).2
theorem HasSW.ext (h : HasSW w lo hi v xs us) (hb : Below w.heap.size w w') : HasSW w' lo hi v xs us := ⟨h.own.ext hb, h.up, h.ups⟩
theorem HasS.ext (h : HasS w lo hi v xs) (hb : Below w.heap.size w w') : HasS w' lo hi v xs := by obtain ⟨us, h⟩ := h; exact ⟨us, h.ext hb⟩
theorem HasSW.within (h : HasSW w lo hi v xs us) (hw : Within lo' hi' w w') (hd : hi ≤ lo' ∨ hi' ≤ lo) : HasSW w' lo hi v xs us := by
 refine ⟨⟨h.own.len, ⟨h.own.outer.1, h.own.outer.2.imp id fun ⟨g, cap, cur, a1, a2, a3, a4⟩ => ⟨g, cap, cur, a1, a2, (hw.block g (Array.getElem?_eq_some_iff.1 a3).1 (by have := h.up g (by rw [a1]; rfl); omega)).trans a3, a4⟩⟩, fun k u r hu hr => ?_, h.own.apart⟩, h.up, h.ups⟩
 exact (h.own.each k u r hu hr).within (h.ups u (List.mem_of_getElem? hu)) hw hd
theorem HasS.within (h : HasS w lo hi v xs) (hw : Within lo' hi' w w') (hd : hi ≤ lo' ∨ hi' ≤ lo) : HasS w' lo hi v xs := by obtain ⟨us, h⟩ := h; exact ⟨us, h.within hw hd⟩
theorem HasS.own (h : HasS w lo hi v xs) : OwnSteps w lo v xs := by obtain ⟨us, h⟩ := h; exact ⟨us, h.own⟩
theorem steps_at {B n c : Nat} {A : Option Addr} (h : OwnSteps w B (.slice A n c) xs) : StepsAt w A xs := by
 obtain ⟨A', c', h1, h2, _⟩ := h.view
 simp only [Value.slice.injEq] at h1
 obtain ⟨rfl, _, _⟩ := h1
 exact h2
end
theorem LeftRows.le2 {l r : Int} {rows : List (List Int)} (h : LeftRows l r rows) (hl : l ≤ 1048576) : r ≤ 1048576 := by
 rcases h with h | h <;> omega
theorem LeftSteps.le2 {l r : Int} {xs : List Stp} (h : LeftSteps l r xs) (hl : l ≤ 1048576) : r ≤ 1048576 := by
 rcases h with h | h <;> omega
def stpNum (k : Int) (x : Stp) : Stp := ⟨k, k + 1, k + 1 + 1, k + 1 + 1 + 1, nums (k + 1 + 1 + 1 + 1) x.row.length⟩
def totS : List Stp → Int
 | [] => 0
 | x :: xs => 4 + (x.row.length : Int) + totS xs
def numS (k : Int) : List Stp → List Stp
 | [] => []
 | x :: xs => stpNum k x :: numS (k + (4 + (x.row.length : Int))) xs
theorem totS_snoc (l : List Stp) (r : Stp) : totS (l ++ [r]) = totS l + (4 + (r.row.length : Int)) := by
 induction l with
 | nil => simp [totS]
 | cons a l ih => simp [totS, ih]; omega
theorem totS_nonneg (l : List Stp) : 0 ≤ totS l := by
 induction l with
 | nil => simp [totS]
 | cons a l ih => simp [totS]; omega
theorem totS_le (l : List Stp) (h : ∀ r ∈ l, r.row.length ≤ 1048576) : totS l ≤ (l.length : Int) * 1048580 := by
 induction l with
 | nil => simp [totS]
 | cons a l ih =>
  have h1 := ih fun r hr => h r (by simp [hr])
  have h2 := h a (by simp)
  simp [totS]; omega
theorem numS_len (k : Int) (l : List Stp) : (numS k l).length = l.length := by
 induction l generalizing k with
 | nil => rfl
 | cons a l ih => simp [numS, ih]
theorem numS_snoc (k : Int) (l : List Stp) (r : Stp) : numS k (l ++ [r]) = numS k l ++ [stpNum (k + totS l) r] := by
 induction l generalizing k with
 | nil => simp [numS, totS]
 | cons a l ih => simp [numS, ih, totS, Int.add_assoc]
theorem numS_get (k : Int) (l : List Stp) (j : Nat) (r : Stp) (h : l[j]? = some r) : (numS k l)[j]? = some (stpNum (k + totS (l.take j)) r) := by
 induction l generalizing k j with
 | nil => simp at h
 | cons a l ih =>
  cases j with
  | zero => simp at h; subst h; simp [numS, totS]
  | succ j =>
   simp only [List.getElem?_cons_succ] at h
   simp only [numS, List.getElem?_cons_succ, List.take_succ_cons, totS]
   rw [ih _ _ h, Int.add_assoc]
def numSTo (k : Int) (l : List Stp) (j : Nat) : List Stp := numS k (l.take j) ++ l.drop j
theorem numSTo_len (k : Int) (l : List Stp) (j : Nat) (h : j ≤ l.length) : (numSTo k l j).length = l.length := by simp [numSTo, numS_len]; omega
theorem numSTo_get (k : Int) (l : List Stp) (j : Nat) (h : j < l.length) : (numSTo k l j)[j]? = l[j]? := by
 unfold numSTo
 rw [List.getElem?_append_right (by rw [numS_len, List.length_take]; omega), numS_len, List.getElem?_drop]
 congr 1; simp; omega
theorem numSTo_set (k : Int) (l : List Stp) (j : Nat) (r : Stp) (h : l[j]? = some r) : (numSTo k l j).set j (stpNum (k + totS (l.take j)) r) = numSTo k l (j + 1) := by
 obtain ⟨hl, he⟩ := List.getElem?_eq_some_iff.1 h
 unfold numSTo
 have h1 : (numS k (l.take j)).length = j := by rw [numS_len]; simp; omega
 rw [List.set_append_right _ _ (by omega), h1, Nat.sub_self, List.drop_eq_getElem_cons hl, List.set_cons_zero, List.take_add_one, h, Option.toList_some, numS_snoc, List.append_assoc]
 rfl
theorem numSTo_all (k : Int) (l : List Stp) (j : Nat) (h : j = l.length) : numSTo k l j = numS k l := by subst h; simp [numSTo]
theorem totS_take_succ (l : List Stp) (j : Nat) (r : Stp) (h : l[j]? = some r) : totS (l.take (j + 1)) = totS (l.take j) + (4 + (r.row.length : Int)) := by
 rw [List.take_add_one, h, Option.toList_some, totS_snoc]
theorem totS_take_le (l : List Stp) (j : Nat) (hl : l.length ≤ 1048576) (h : ∀ r ∈ l, r.row.length ≤ 1048576) : totS (l.take j) ≤ 1099515822080 := by
 have h1 := totS_le (l.take j) fun r hr => h r (List.mem_of_mem_take hr)
 have h2 : (l.take j).length ≤ l.length := by rw [List.length_take]; omega
 omega
/-- The four numbers of a step changed in place. -/
theorem OwnStepsW.put4 {w : World} {B g n cap k : Nat} {xs : List Stp} {us : List Value} {x y : Stp} {u : Value} (hn : n = xs.length) (h : OwnStepsW w B (.slice (some ⟨g, 0, none⟩) n cap) xs us) (hx : xs[k]? = some x) (hu : us[k]? = some u) (hy : y.row = x.row) :
  OwnStepsW ((((w.setCell ⟨g, k * 5, none⟩ (.int .i64 y.k)).setCell ⟨g, k * 5 + 1, none⟩ (.int .i64 y.a)).setCell ⟨g, k * 5 + 2, none⟩ (.int .i64 y.b)).setCell ⟨g, k * 5 + 3, none⟩ (.int .i64 y.c)) B (.slice (some ⟨g, 0, none⟩) n cap) (xs.set k y) us ∧
   w.grownBy ((((w.setCell ⟨g, k * 5, none⟩ (.int .i64 y.k)).setCell ⟨g, k * 5 + 1, none⟩ (.int .i64 y.a)).setCell ⟨g, k * 5 + 2, none⟩ (.int .i64 y.b)).setCell ⟨g, k * 5 + 3, none⟩ (.int .i64 y.c)) (some g) := by
 subst hn
 have hk := (List.getElem?_eq_some_iff.1 hx).1
 have s1 := h.outer.stored (k * 5) (.int .i64 y.k)
 have s2 := s1.1.stored (k * 5 + 1) (.int .i64 y.a)
 have s3 := s2.1.stored (k * 5 + 2) (.int .i64 y.b)
 have s4 := s3.1.stored (k * 5 + 3) (.int .i64 y.c)
 have hg := grownBy_trans (grownBy_trans (grownBy_trans s1.2 s2.2) s3.2) s4.2
 refine ⟨⟨by simp [h.len], ?_, ?_, h.apart⟩, hg⟩
 ·have := s4.1
  have e := flatS_set (xs := xs) (us := us) (k := k) y u h.len hk
  rw [set_same hu] at e
  have hl : ((((flatS xs us).set (k * 5) (.int .i64 y.k)).set (k * 5 + 1) (.int .i64 y.a)).set (k * 5 + 2) (.int .i64 y.b)).set (k * 5 + 3) (.int .i64 y.c) = flatS (xs.set k y) us := by
   rw [← e]
   refine (set_same ?_).symm
   have h4 := flatS_get (j := 4) (by decide) hx hu
   rw [List.getElem?_set_ne (by omega), List.getElem?_set_ne (by omega), List.getElem?_set_ne (by omega), List.getElem?_set_ne (by omega), h4]
   rfl
  rw [hl] at this
  simpa using this
 ·intro j u' x' hu' hx'
  by_cases hj : k = j
  ·subst hj
   rw [List.getElem?_set_self hk] at hx'
   cases hx'
   have := h.each k u' x hu' hx
   rw [← hy] at this
   exact OwnInts.kept this hg (apart_ty (by decide) this h.outer)
  ·rw [List.getElem?_set_ne hj] at hx'
   exact OwnInts.kept (h.each j u' x' hu' hx') hg (apart_ty (by decide) (h.each j u' x' hu' hx') h.outer)
/-- The line of a step changed in place. -/
theorem OwnStepsW.inner {w w' : World} {B : Nat} {v : Value} {xs : List Stp} {us : List Value} {k : Nat} {u : Value} {x y : Stp} (h : OwnStepsW w B v xs us) (hx : xs[k]? = some x) (hk : us[k]? = some u)
  (hgr : w.grownBy w' u.ownBlock) (hu' : OwnInts w' B u y.row) (hy : y.k = x.k ∧ y.a = x.a ∧ y.b = x.b ∧ y.c = x.c) : OwnStepsW w' B v (xs.set k y) us := by
 have hkx := (List.getElem?_eq_some_iff.1 hx).1
 have ho := h.each k u x hk hx
 have hov : v.ownBlock = none ∨ v.ownBlock ≠ u.ownBlock := by
  rcases apart_ty (by decide) ho h.outer with h1 | h1
  ·rw [h1]; cases v.ownBlock <;> simp
  ·exact Or.inr (Ne.symm h1)
 refine ⟨by simp [h.len], ?_, fun j x' r hxj hr => ?_, h.apart⟩
 ·have e := flatS_set (xs := xs) (us := us) (k := k) y u h.len hkx
  rw [set_same hk] at e
  have e2 := flatS_set (xs := xs) (us := us) (k := k) x u h.len hkx
  rw [set_same hk, set_same hx] at e2
  obtain ⟨y1, y2, y3, y4⟩ := hy
  rw [y1, y2, y3, y4, e2] at e
  rw [← e]
  simpa using World.ownsRow.kept h.outer hgr hov
 ·by_cases hj : k = j
  ·subst hj
   rw [List.getElem?_set_self hkx] at hr
   cases hr
   rw [hk] at hxj; cases hxj
   exact hu'
  ·rw [List.getElem?_set_ne hj] at hr
   have hox := h.each j x' r hxj hr
   refine hox.kept hgr ?_
   rcases hb : x'.ownBlock with _ | b
   ·exact Or.inl rfl
   ·refine Or.inr fun e => hj (h.apart k j u x' b hk hxj e.symm hb)
set_option maxRecDepth 100000 in
set_option maxHeartbeats 4000000 in
theorem markStepS_any (k : Int) (lo hi : Nat) (A : Option Addr) (cap : Nat) (xs : List Stp) (w : World) (h : HasS w lo hi (.slice A xs.length cap) xs) (hl : xs.length ≤ 1048576) (hls : ∀ r ∈ xs, r.row.length ≤ 1048576) (hk : 0 ≤ k) (hk' : k ≤ 1125899906842624) :
  Calls Tryz.prog 33 #[.slice A xs.length cap, .int .i64 k] w fun e w' => e = .returned (.int .i64 (k + totS xs)) ∧ HasS w' lo hi (.slice A xs.length cap) (numS k xs) ∧ Within lo hi w w' := by
 by_cases h0 : xs.length = 0
 ·have hx : xs = [] := List.eq_nil_of_length_eq_zero h0
  subst hx
  have HH := Lib.hid h
  clear h h0 hls
  go_enter Tryz.func33, Tryz.ntmps33
  go_wp2
  go_loopw [1, 5] (fun q i wr => i = .int .i64 0 ∧ q = .int .i64 k ∧ wr = w) (fun _ _ _ => 0)
  case atStart => exact ⟨rfl, rfl, rfl⟩
  case round =>
   obtain ⟨rfl, rfl, rfl⟩ := hrel
   go_wp2
   go_ret
   exact ⟨ret_int (by simp [totS]), HH.out, Within.refl _ _ _⟩
 ·obtain ⟨us, hus⟩ := h
  obtain ⟨g, cap', hv, hg1, hg2⟩ := World.ownsRow.form hus.own.outer (by omega)
  simp only [Value.slice.injEq] at hv
  obtain ⟨rfl, -, rfl⟩ := hv
  have HU := Lib.hid hus; have HLS := Lib.hid hls
  clear hus hls h0
  go_enter Tryz.func33, Tryz.ntmps33
  go_wp2
  go_loopw [1, 5] (fun q i wr => ∃ j : Nat, j ≤ xs.length ∧ i = .int .i64 j ∧ q = .int .i64 (k + totS (xs.take j)) ∧ HasSW wr lo hi (.slice (some ⟨g, 0, none⟩) xs.length cap) (numSTo k xs j) us ∧ Within lo hi w wr)
   (fun _ i _ => xs.length - (intOf i).toNat)
  case atStart => exact ⟨0, Nat.zero_le _, rfl, by simp [totS], by simpa [numSTo, numS] using HU.out, Within.refl _ _ _⟩
  case round =>
   obtain ⟨j, hj, rfl, rfl, hown, hwi⟩ := hrel
   have ht0 := totS_nonneg (xs.take j)
   have ht1 := totS_take_le xs j hl HLS.out
   obtain ⟨q, hq⟩ : ∃ q, q = k + totS (xs.take j) := ⟨_, rfl⟩
   have hq0 : 0 ≤ q := by omega
   have hq1 : q ≤ 1127000000000000 := by omega
   have HQ := Lib.hid hq
   rw [← hq]
   clear hq ht0 ht1
   by_cases hlt : j < xs.length
   ·obtain ⟨r, hr⟩ := get_of_lt hlt
    have hg := numSTo_get k xs j hlt
    rw [hr] at hg
    have hln := numSTo_len k xs j hj
    obtain ⟨x', u, hx', hu, ho, ⟨d0, d1, d2, d3, d4⟩, ⟨f0, f1, f2, f3, f4⟩⟩ := hown.own.cells hln.symm hlt
    obtain rfl : x' = r := by rw [hg] at hx'; exact (Option.some.inj hx').symm
    obtain ⟨Au, cu, rfl⟩ := own_slice ho
    have hp := hown.own.put4 (y := ⟨q, q + 1, q + 1 + 1, q + 1 + 1 + 1, x'.row⟩) hln.symm hg hu rfl
    have HP := Lib.hid hp.1; have HPG := Lib.hid hp.2
    have HRL := Lib.hid (HLS.out x' (List.mem_of_getElem? hr))
    have HW := Lib.hid hwi; have HR := Lib.hid hr; have HUJ := Lib.hid hu; have HWN := Lib.hid hown; have HG := Lib.hid hg
    have hjn : j < (numSTo k xs j).length := by omega
    have HJN := Lib.hid hjn
    clear ho hwi hr hu hg hown HU hp hx' hln hjn
    go_upto_region 12 with (fail)
    obtain ⟨W4, hW4⟩ : ∃ W4, W4 = (((wr.setCell ⟨g, j * 5, none⟩ (.int .i64 q)).setCell ⟨g, j * 5 + 1, none⟩ (.int .i64 (q + 1))).setCell ⟨g, j * 5 + 2, none⟩ (.int .i64 (q + 1 + 1))).setCell ⟨g, j * 5 + 3, none⟩ (.int .i64 (q + 1 + 1 + 1)) := ⟨_, rfl⟩
    rw [← hW4]
    rw [← hW4] at HP HPG
    clear hW4 d0 d1 d2 d3 d4 f0 f1 f2 f3 f4
    have hy : ((numSTo k xs j).set j ⟨q, q + 1, q + 1 + 1, q + 1 + 1 + 1, x'.row⟩)[j]? = some ⟨q, q + 1, q + 1 + 1, q + 1 + 1 + 1, x'.row⟩ := List.getElem?_set_self HJN.out
    have HY := Lib.hid hy
    have ho4 : OwnInts W4 lo (.slice Au x'.row.length cu) x'.row := HP.out.each j _ ⟨q, q + 1, q + 1 + 1, q + 1 + 1 + 1, x'.row⟩ HUJ.out hy
    have hc4 : W4.cell? ⟨g, j * 5 + 4, none⟩ = some (.slice Au x'.row.length cu) := by
     have hou := HP.out.outer
     rw [List.length_set, numSTo_len k xs j hj] at hou
     rw [hou.cellAt _ (by omega), flatS_get (by decide) hy HUJ.out]; rfl
    have HO4 := Lib.hid ho4
    clear ho4 hy
    go_wp2_with (go_at_call 57; refine (markIntS_any _ lo _ _ x'.row _ HO4.out HRL.out (by omega) (by omega)).mono ?_; rintro e w2 ⟨rfl, ho2, hg2⟩; have HO2 := Lib.hid ho2; have HG2 := Lib.hid hg2; clear ho2 hg2 hc4)
    go_roundw
    case rel =>
     have hup : ∀ b, (Value.slice Au x'.row.length cu).ownBlock = some b → lo ≤ b ∧ b < hi := fun b hb => ⟨(HO4.out.lt b hb).1, HWN.out.ups _ (List.mem_of_getElem? HUJ.out) b hb⟩
     have hin := HP.out.inner (y := stpNum q x') HY.out HUJ.out HG2.out HO2.out ⟨rfl, rfl, rfl, rfl⟩
     rw [List.set_set, HQ.out, numSTo_set k xs j x' HR.out] at hin
     have hgb : ∀ b, (Value.slice (some (⟨g, 0, none⟩ : Addr)) xs.length cap).ownBlock = some b → lo ≤ b ∧ b < hi := fun b hb => ⟨(HWN.out.own.lt b hb).1, HWN.out.up b hb⟩
     exact ⟨j+1, by omega, by go_num, by rw [totS_take_succ xs j x' HR.out, ← Int.add_assoc, ← HQ.out]; congr 1; omega, ⟨hin, HWN.out.up, HWN.out.ups⟩, (HW.out.trans (Within.of_own HPG.out hgb)).trans (Within.of_own HG2.out hup)⟩
    case measure => simp [intOf]; omega
   ·have HJ := Lib.hid (show j = xs.length by omega)
    have HO := Lib.hid hown; have HW := Lib.hid hwi
    clear hown hwi
    go_wp2
    go_ret
    rw [numSTo_all k xs j HJ.out] at HO
    exact ⟨ret_int (by rw [HQ.out, HJ.out, List.take_length]), ⟨us, HO.out⟩, HW.out⟩
set_option maxRecDepth 100000 in
set_option maxHeartbeats 4000000 in
theorem heldStepS_any (k : Int) (A : Option Addr) (cap : Nat) (xs : List Stp) (w : World) (h : StepsAt w A (numS k xs)) (hl : xs.length ≤ 1048576) (hls : ∀ r ∈ xs, r.row.length ≤ 1048576) (hk : 0 ≤ k) (hk' : k ≤ 1125899906842624) :
  Calls Tryz.prog 34 #[.slice A xs.length cap, .int .i64 k] w fun e w' => e = .returned (.int .i64 (k + totS xs)) ∧ w = w' := by
 have HLS := Lib.hid hls; have HH := Lib.hid h
 clear h hls
 go_enter Tryz.func34, Tryz.ntmps34
 go_wp2
 go_loop [1, 5] (fun q i => ∃ j : Nat, j ≤ xs.length ∧ i = .int .i64 j ∧ q = .int .i64 (k + totS (xs.take j))) (fun _ i => xs.length - (intOf i).toNat)
 case atStart => exact ⟨0, Nat.zero_le _, rfl, by simp [totS]⟩
 case round =>
  obtain ⟨j, hj, rfl, rfl⟩ := hrel
  have ht0 := totS_nonneg (xs.take j)
  have ht1 := totS_take_le xs j hl HLS.out
  obtain ⟨q, hq⟩ : ∃ q, q = k + totS (xs.take j) := ⟨_, rfl⟩
  have hq0 : 0 ≤ q := by omega
  have hq1 : q ≤ 1127000000000000 := by omega
  have HQ := Lib.hid hq
  rw [← hq]
  clear ht0 ht1
  by_cases hlt : j < xs.length
  ·obtain ⟨r, hr⟩ := get_of_lt hlt
   have hg := numS_get k xs j r hr
   rw [← hq] at hg
   obtain ⟨b, o, rfl, hc⟩ := HH.out.here (show j < (numS k xs).length by rw [numS_len]; exact hlt)
   obtain ⟨A', cap', ⟨d0, d1, d2, d3, d4⟩, hin⟩ := hc _ _ hg
   simp only [stpNum, nums_len] at d0 d1 d2 d3 d4 hin
   have HRL := Lib.hid (HLS.out r (List.mem_of_getElem? hr))
   have HIN := Lib.hid hin; have HR := Lib.hid hr
   clear hc hin hr hg hq
   go_wp2_with (go_at_call 65; refine (heldIntS_any _ A' cap' r.row.length _ HIN.out HRL.out (by omega) (by omega)).mono ?_; rintro e w2 ⟨rfl, rfl⟩)
   go_round
   case rel => exact ⟨j+1, by omega, by go_num, by rw [totS_take_succ xs j r HR.out, ← Int.add_assoc, ← HQ.out]; congr 1; omega⟩
   case measure => simp [intOf]; omega
  ·have HJ := Lib.hid (show j = xs.length by omega)
   clear hq
   go_wp2
   go_ret
   exact ⟨ret_int (by rw [HQ.out, HJ.out, List.take_length]), rfl⟩
set_option maxHeartbeats 1000000 in
theorem sliceEqual_any (A A2 : Option Addr) (cap cap2 : Nat) (xs ys : List Int) (w : World) (h : IntsAt w A xs) (h2 : IntsAt w A2 ys) (hm : xs.length ≤ maxLen) (hm2 : ys.length ≤ maxLen) :
  Calls Tryz.prog 119 #[.slice A xs.length cap, .slice A2 ys.length cap2] w fun e w' => e = .returned (.bool (decide (xs = ys))) ∧ Below w.heap.size w w' := by
 unfold maxLen at hm hm2
 by_cases hn : xs.length = ys.length
 ·have hb : ((xs.length : Int) != (ys.length : Int)) = false := by simp [hn]
  have Hn := Lib.hid hn; clear hn
  go_enter Tryz.func119, Tryz.ntmps119
  go_wp2
  go_loopw [13] (fun i wr => ∃ k : Nat, k ≤ xs.length ∧ i = .int .i64 k ∧ xs.take k = ys.take k ∧ Below w.heap.size w wr) (fun i _ => xs.length - (intOf i).toNat)
  case atStart => exact ⟨0, Nat.zero_le _, rfl, by simp, Below.refl _ _⟩
  case round =>
   obtain ⟨k, hk, rfl, hall, hbel⟩ := hrel
   have Hall := Lib.hid hall; clear hall
   by_cases hlt : k < xs.length
   ·have hlt2 : k < ys.length := by have := Hn.out; omega
    obtain ⟨x, hx⟩ := get_of_lt hlt
    obtain ⟨y, hy⟩ := get_of_lt hlt2
    obtain ⟨b, o, rfl, hc⟩ := h.here hlt
    obtain ⟨b2, o2, rfl, hc2⟩ := h2.here hlt2
    have c1 : ∀ W : Ext wr, W.W.cell? ⟨b, o + k, none⟩ = some (.int .i64 x) := fun W => W.cell (ext_cell hbel (hc k x hx))
    have c2 : ∀ W : Ext wr, W.W.cell? ⟨b2, o2 + k, none⟩ = some (.int .i64 y) := fun W => W.cell (ext_cell hbel (hc2 k y hy))
    have Hx := Lib.hid hx; have Hy := Lib.hid hy; clear hx hy hc hc2 h h2
    by_cases hf : x = y
    ·subst hf
     go_wp2
     refine wp_region_ext_lit (by kernel_rfl) (by kernel_rfl) ?_
     repeat (go_big_quiet_step (fail))
     refine wpQuiet_nil ?_
     rintro _ ⟨W, rfl⟩
     go_wp2
     go_roundw
     case rel => exact ⟨k+1, by omega, by go_num, take_eq_succ Hall.out Hx.out Hy.out, below_ext hbel W.ok⟩
     case measure => simp [intOf]; omega
    ·have hfb : (x != y) = true := by simp [hf]
     go_wp2
     refine wp_region_ext_lit (by kernel_rfl) (by kernel_rfl) ?_
     repeat (go_big_quiet_step (fail))
     refine wpQuiet_nil ?_
     rintro _ ⟨W, rfl⟩
     go_wp2
     go_ret
     exact ⟨ret_bool (decide_eq_false (ne_at Hx.out Hy.out hf)).symm, below_ext hbel W.ok⟩
   ·go_wp2
    go_ret
    exact ⟨ret_bool (decide_eq_true (eq_of_take Hall.out (by omega) (by have := Hn.out; omega))).symm, hbel⟩
 ·have hb : ((xs.length : Int) != (ys.length : Int)) = true := by simp; omega
  go_enter Tryz.func119, Tryz.ntmps119
  go_wp2
  go_ret
  exact ⟨ret_bool (decide_eq_false (fun e => hn (by rw [e]))).symm, Below.refl _ _⟩
set_option maxHeartbeats 1000000 in
theorem l1Same_any (A A2 : Option Addr) (cap cap2 : Nat) (xs ys : List Int) (w : World) (h : IntsAt w A xs) (h2 : IntsAt w A2 ys) (hm : xs.length ≤ maxLen) (hm2 : ys.length ≤ maxLen) :
  Calls Tryz.prog 105 #[.slice A xs.length cap, .slice A2 ys.length cap2] w fun e w' => e = .returned (.bool (decide (xs = ys))) ∧ Below w.heap.size w w' := by
 unfold maxLen at hm hm2
 by_cases hn : xs.length = ys.length
 ·have hb : ((xs.length : Int) != (ys.length : Int)) = false := by simp [hn]
  have Hn := Lib.hid hn; clear hn
  go_enter Tryz.func105, Tryz.ntmps105
  go_wp2
  go_loopw [13] (fun i wr => ∃ k : Nat, k ≤ xs.length ∧ i = .int .i64 k ∧ xs.take k = ys.take k ∧ Below w.heap.size w wr) (fun i _ => xs.length - (intOf i).toNat)
  case atStart => exact ⟨0, Nat.zero_le _, rfl, by simp, Below.refl _ _⟩
  case round =>
   obtain ⟨k, hk, rfl, hall, hbel⟩ := hrel
   have Hall := Lib.hid hall; clear hall
   by_cases hlt : k < xs.length
   ·have hlt2 : k < ys.length := by have := Hn.out; omega
    obtain ⟨x, hx⟩ := get_of_lt hlt
    obtain ⟨y, hy⟩ := get_of_lt hlt2
    obtain ⟨b, o, rfl, hc⟩ := h.here hlt
    obtain ⟨b2, o2, rfl, hc2⟩ := h2.here hlt2
    have c1 : ∀ W : Ext wr, W.W.cell? ⟨b, o + k, none⟩ = some (.int .i64 x) := fun W => W.cell (ext_cell hbel (hc k x hx))
    have c2 : ∀ W : Ext wr, W.W.cell? ⟨b2, o2 + k, none⟩ = some (.int .i64 y) := fun W => W.cell (ext_cell hbel (hc2 k y hy))
    have Hx := Lib.hid hx; have Hy := Lib.hid hy; clear hx hy hc hc2 h h2
    by_cases hf : x = y
    ·subst hf
     go_wp2
     refine wp_region_ext_lit (by kernel_rfl) (by kernel_rfl) ?_
     repeat (go_big_quiet_step (fail))
     refine wpQuiet_nil ?_
     rintro _ ⟨W, rfl⟩
     go_wp2
     go_roundw
     case rel => exact ⟨k+1, by omega, by go_num, take_eq_succ Hall.out Hx.out Hy.out, below_ext hbel W.ok⟩
     case measure => simp [intOf]; omega
    ·have hfb : (x != y) = true := by simp [hf]
     go_wp2
     refine wp_region_ext_lit (by kernel_rfl) (by kernel_rfl) ?_
     repeat (go_big_quiet_step (fail))
     refine wpQuiet_nil ?_
     rintro _ ⟨W, rfl⟩
     go_wp2
     go_ret
     exact ⟨ret_bool (decide_eq_false (ne_at Hx.out Hy.out hf)).symm, below_ext hbel W.ok⟩
   ·go_wp2
    go_ret
    exact ⟨ret_bool (decide_eq_true (eq_of_take Hall.out (by omega) (by have := Hn.out; omega))).symm, hbel⟩
 ·have hb : ((xs.length : Int) != (ys.length : Int)) = true := by simp; omega
  go_enter Tryz.func105, Tryz.ntmps105
  go_wp2
  go_ret
  exact ⟨ret_bool (decide_eq_false (fun e => hn (by rw [e]))).symm, Below.refl _ _⟩
set_option maxHeartbeats 1000000 in
theorem spSame_any (A A2 : Option Addr) (cap cap2 : Nat) (xs ys : List (List Int)) (w : World) (h : RowsAt w A xs) (h2 : RowsAt w A2 ys) (hm : xs.length ≤ maxLen) (hm2 : ys.length ≤ maxLen)
  (hms : ∀ r ∈ xs, r.length ≤ maxLen) (hms2 : ∀ r ∈ ys, r.length ≤ maxLen) :
  Calls Tryz.prog 117 #[.slice A xs.length cap, .slice A2 ys.length cap2] w fun e w' => e = .returned (.bool (decide (xs = ys))) ∧ Below w.heap.size w w' := by
 unfold maxLen at hm hm2
 by_cases hn : xs.length = ys.length
 ·have hb : ((xs.length : Int) != (ys.length : Int)) = false := by simp [hn]
  have Hn := Lib.hid hn; clear hn
  go_enter Tryz.func117, Tryz.ntmps117
  go_wp2
  go_loopw [13] (fun i wr => ∃ k : Nat, k ≤ xs.length ∧ i = .int .i64 k ∧ xs.take k = ys.take k ∧ Below w.heap.size w wr) (fun i _ => xs.length - (intOf i).toNat)
  case atStart => exact ⟨0, Nat.zero_le _, rfl, by simp, Below.refl _ _⟩
  case round =>
   obtain ⟨k, hk, rfl, hall, hbel⟩ := hrel
   have Hall := Lib.hid hall; clear hall
   by_cases hlt : k < xs.length
   ·have hlt2 : k < ys.length := by have := Hn.out; omega
    obtain ⟨x, hx⟩ := get_of_lt hlt
    obtain ⟨y, hy⟩ := get_of_lt hlt2
    obtain ⟨b, o, rfl, hc⟩ := (h.ext hbel).here hlt
    obtain ⟨b2, o2, rfl, hc2⟩ := (h2.ext hbel).here hlt2
    obtain ⟨A3, cap3, hck, hin⟩ := hc k x hx
    obtain ⟨A4, cap4, hck2, hin2⟩ := hc2 k y hy
    have c1 : ∀ W : Ext wr, W.W.cell? ⟨b, o + k, none⟩ = some (.slice A3 x.length cap3) := fun W => W.cell hck
    have c2 : ∀ W : Ext wr, W.W.cell? ⟨b2, o2 + k, none⟩ = some (.slice A4 y.length cap4) := fun W => W.cell hck2
    have hin' : ∀ W : Ext wr, IntsAt W.W A3 x := fun W => hin.ext W.ok
    have hin2' : ∀ W : Ext wr, IntsAt W.W A4 y := fun W => hin2.ext W.ok
    have HX := Lib.hid hin'; have HY := Lib.hid hin2'
    have M1 := Lib.hid (hms x (List.mem_of_getElem? hx))
    have M2 := Lib.hid (hms2 y (List.mem_of_getElem? hy))
    have Hx := Lib.hid hx; have Hy := Lib.hid hy; clear hx hy hc hc2 h h2 hms hms2 hin hin2 hin' hin2' hck hck2
    by_cases hf : x = y
    ·have F := Lib.hid (decide_eq_true hf)
     have HF := Lib.hid hf
     clear hf
     go_wp2
     refine wp_region_ext_lit (by kernel_rfl) (by kernel_rfl) ?_
     repeat (go_big_quiet_step ((go_at_call 105; exact Calls.ext_of (Calls.bool_eq' (l1Same_any _ _ _ _ _ _ _ (HX.out _) (HY.out _) M1.out M2.out) F.out))))
     refine wpQuiet_nil ?_
     rintro _ ⟨W, rfl⟩
     go_wp2
     go_roundw
     case rel => exact ⟨k+1, by omega, by go_num, take_eq_succ Hall.out Hx.out (by rw [HF.out]; exact Hy.out), below_ext hbel W.ok⟩
     case measure => simp [intOf]; omega
    ·have F := Lib.hid (decide_eq_false hf)
     have HF := Lib.hid hf
     clear hf
     go_wp2
     refine wp_region_ext_lit (by kernel_rfl) (by kernel_rfl) ?_
     repeat (go_big_quiet_step ((go_at_call 105; exact Calls.ext_of (Calls.bool_eq' (l1Same_any _ _ _ _ _ _ _ (HX.out _) (HY.out _) M1.out M2.out) F.out))))
     refine wpQuiet_nil ?_
     rintro _ ⟨W, rfl⟩
     go_wp2
     go_ret
     exact ⟨ret_bool (decide_eq_false (ne_at Hx.out Hy.out HF.out)).symm, below_ext hbel W.ok⟩
   ·go_wp2
    go_ret
    exact ⟨ret_bool (decide_eq_true (eq_of_take Hall.out (by omega) (by have := Hn.out; omega))).symm, hbel⟩
 ·have hb : ((xs.length : Int) != (ys.length : Int)) = true := by simp; omega
  go_enter Tryz.func117, Tryz.ntmps117
  go_wp2
  go_ret
  exact ⟨ret_bool (decide_eq_false (fun e => hn (by rw [e]))).symm, Below.refl _ _⟩
set_option maxHeartbeats 1000000 in
theorem equalFunc_any (A A2 : Option Addr) (cap cap2 : Nat) (xs ys : List (List Int)) (w : World) (h : RowsAt w A xs) (h2 : RowsAt w A2 ys) (hm : xs.length ≤ maxLen) (hm2 : ys.length ≤ maxLen)
  (hms : ∀ r ∈ xs, r.length ≤ maxLen) (hms2 : ∀ r ∈ ys, r.length ≤ maxLen) :
  Calls Tryz.prog 129 #[.slice A xs.length cap, .slice A2 ys.length cap2, .func (.func 119) #[] #[]] w fun e w' => e = .returned (.bool (decide (xs = ys))) ∧ Below w.heap.size w w' := by
 unfold maxLen at hm hm2
 by_cases hn : xs.length = ys.length
 ·have hb : ((xs.length : Int) != (ys.length : Int)) = false := by simp [hn]
  have Hn := Lib.hid hn; clear hn
  go_enter Tryz.func129, Tryz.ntmps129
  go_wp2
  go_loopw [17] (fun i wr => ∃ k : Nat, k ≤ xs.length ∧ i = .int .i64 k ∧ xs.take k = ys.take k ∧ Below w.heap.size w wr) (fun i _ => xs.length - (intOf i).toNat)
  case atStart => exact ⟨0, Nat.zero_le _, rfl, by simp, Below.refl _ _⟩
  case round =>
   obtain ⟨k, hk, rfl, hall, hbel⟩ := hrel
   have Hall := Lib.hid hall; clear hall
   by_cases hlt : k < xs.length
   ·have hlt2 : k < ys.length := by have := Hn.out; omega
    obtain ⟨x, hx⟩ := get_of_lt hlt
    obtain ⟨y, hy⟩ := get_of_lt hlt2
    obtain ⟨b, o, rfl, hc⟩ := (h.ext hbel).here hlt
    obtain ⟨b2, o2, rfl, hc2⟩ := (h2.ext hbel).here hlt2
    obtain ⟨A3, cap3, hck, hin⟩ := hc k x hx
    obtain ⟨A4, cap4, hck2, hin2⟩ := hc2 k y hy
    have HX := Lib.hid hin; have HY := Lib.hid hin2
    have M1 := Lib.hid (hms x (List.mem_of_getElem? hx))
    have M2 := Lib.hid (hms2 y (List.mem_of_getElem? hy))
    have Hx := Lib.hid hx; have Hy := Lib.hid hy; have HB := Lib.hid hbel; clear hx hy hc hc2 h h2 hms hms2 hin hin2 hbel
    by_cases hf : x = y
    ·have F := Lib.hid (decide_eq_true hf)
     have HF := Lib.hid hf
     clear hf
     go_wp2_with (go_at_call 119; refine (Calls.bool_eq' (sliceEqual_any _ _ _ _ x y _ HX.out HY.out M1.out M2.out) F.out).mono ?_; rintro e w2 ⟨rfl, hb2⟩; have HB2 := Lib.hid (below_ext HB.out hb2); clear hb2)
     go_roundw
     case rel => exact ⟨k+1, by omega, by go_num, take_eq_succ Hall.out Hx.out (by rw [HF.out]; exact Hy.out), HB2.out⟩
     case measure => simp [intOf]; omega
    ·have F := Lib.hid (decide_eq_false hf)
     have HF := Lib.hid hf
     clear hf
     go_wp2_with (go_at_call 119; refine (Calls.bool_eq' (sliceEqual_any _ _ _ _ x y _ HX.out HY.out M1.out M2.out) F.out).mono ?_; rintro e w2 ⟨rfl, hb2⟩; have HB2 := Lib.hid (below_ext HB.out hb2); clear hb2)
     go_ret
     exact ⟨ret_bool (decide_eq_false (ne_at Hx.out Hy.out HF.out)).symm, HB2.out⟩
   ·go_wp2
    go_ret
    exact ⟨ret_bool (decide_eq_true (eq_of_take Hall.out (by omega) (by have := Hn.out; omega))).symm, hbel⟩
 ·have hb : ((xs.length : Int) != (ys.length : Int)) = true := by simp; omega
  go_enter Tryz.func129, Tryz.ntmps129
  go_wp2
  go_ret
  exact ⟨ret_bool (decide_eq_false (fun e => hn (by rw [e]))).symm, Below.refl _ _⟩
theorem sameRows_any (A A2 : Option Addr) (cap cap2 : Nat) (xs ys : List (List Int)) (w : World) (h : RowsAt w A xs) (h2 : RowsAt w A2 ys) (hm : xs.length ≤ maxLen) (hm2 : ys.length ≤ maxLen)
  (hms : ∀ r ∈ xs, r.length ≤ maxLen) (hms2 : ∀ r ∈ ys, r.length ≤ maxLen) :
  Calls Tryz.prog 118 #[.slice A xs.length cap, .slice A2 ys.length cap2] w fun e w' => e = .returned (.bool (decide (xs = ys))) ∧ Below w.heap.size w w' := by
 go_enter Tryz.func118, Tryz.ntmps118
 go_wp2_with (go_at_call 129; refine (equalFunc_any _ _ _ _ xs ys _ h h2 hm hm2 hms hms2).mono ?_; rintro e w2 ⟨rfl, hb2⟩; have HB2 := Lib.hid hb2; clear hb2)
 go_ret
 exact ⟨rfl, HB2.out⟩
def sySame (a b : Sy) : Bool := decide (a.v = b.v) && (decide (a.h = b.h) && decide (a.rows = b.rows))
set_option maxRecDepth 100000 in
set_option maxHeartbeats 2000000 in
theorem equalSystems_any (a b : Sy) (A A2 : Option Addr) (cap cap2 : Nat) (w : World) (h : RowsAt w A a.rows) (h2 : RowsAt w A2 b.rows) (hm : a.rows.length ≤ maxLen) (hm2 : b.rows.length ≤ maxLen)
  (hms : ∀ r ∈ a.rows, r.length ≤ maxLen) (hms2 : ∀ r ∈ b.rows, r.length ≤ maxLen) :
  Calls Tryz.prog 103 #[.agg #[.int .i64 a.v, .int .i64 a.h, .slice A a.rows.length cap], .agg #[.int .i64 b.v, .int .i64 b.h, .slice A2 b.rows.length cap2]] w fun e w' => e = .returned (.bool (sySame a b)) ∧ Below w.heap.size w w' := by
 have hB := ((Below.refl w.heap.size w).alloc (by simp) (.cells #[.int .i64 a.v, .int .i64 a.h, .slice A a.rows.length cap] 30)).alloc (by simp) (.cells #[.int .i64 b.v, .int .i64 b.h, .slice A2 b.rows.length cap2] 30)
 have HB := Lib.hid hB
 have HR := Lib.hid (sameRows_any A A2 cap cap2 a.rows b.rows _ (h.ext hB) (h2.ext hB) hm hm2 hms hms2)
 clear hB h h2 hms hms2
 by_cases hv : a.v = b.v
 ·have hvb : (a.v == b.v) = true := by simp [hv]
  have HV := Lib.hid (decide_eq_true hv)
  clear hv
  by_cases hh : a.h = b.h
  ·have hhb : (a.h == b.h) = true := by simp [hh]
   have HH := Lib.hid (decide_eq_true hh)
   clear hh
   obtain ⟨q, hq⟩ : ∃ q, q = decide (a.rows = b.rows) := ⟨_, rfl⟩
   rw [← hq] at HR
   have HQ := Lib.hid hq
   clear hq
   go_enter Tryz.func103, Tryz.ntmps103
   go_wp2_with (go_at_call 118; refine HR.out.mono ?_; rintro e w2 ⟨rfl, hb2⟩; have HB2 := Lib.hid (below_ext HB.out hb2); clear hb2)
   go_ret
   exact ⟨ret_bool (by rw [sySame, HV.out, HH.out, ← HQ.out]; rfl), HB2.out⟩
  ·have hhb : (a.h == b.h) = false := by simp [hh]
   have HH := Lib.hid (decide_eq_false hh)
   clear hh
   go_enter Tryz.func103, Tryz.ntmps103
   go_wp2
   go_ret
   exact ⟨ret_bool (by rw [sySame, HV.out, HH.out]; rfl), HB.out⟩
 ·have hvb : (a.v == b.v) = false := by simp [hv]
  have HV := Lib.hid (decide_eq_false hv)
  clear hv
  go_enter Tryz.func103, Tryz.ntmps103
  go_wp2
  go_ret
  exact ⟨ret_bool (by rw [sySame, HV.out]; rfl), HB.out⟩
set_option maxRecDepth 100000 in
set_option maxHeartbeats 2000000 in
theorem stSame_any (a b : Sy) (A A2 : Option Addr) (cap cap2 : Nat) (w : World) (h : RowsAt w A a.rows) (h2 : RowsAt w A2 b.rows) (hm : a.rows.length ≤ maxLen) (hm2 : b.rows.length ≤ maxLen)
  (hms : ∀ r ∈ a.rows, r.length ≤ maxLen) (hms2 : ∀ r ∈ b.rows, r.length ≤ maxLen) :
  Calls Tryz.prog 102 #[.agg #[.int .i64 a.v, .int .i64 a.h, .slice A a.rows.length cap], .agg #[.int .i64 b.v, .int .i64 b.h, .slice A2 b.rows.length cap2]] w fun e w' => e = .returned (.bool (sySame a b)) ∧ Below w.heap.size w w' := by
 have hB := ((Below.refl w.heap.size w).alloc (by simp) (.cells #[.int .i64 a.v, .int .i64 a.h, .slice A a.rows.length cap] 30)).alloc (by simp) (.cells #[.int .i64 b.v, .int .i64 b.h, .slice A2 b.rows.length cap2] 30)
 have HB := Lib.hid hB
 have HR := Lib.hid (spSame_any A A2 cap cap2 a.rows b.rows _ (h.ext hB) (h2.ext hB) hm hm2 hms hms2)
 clear hB h h2 hms hms2
 by_cases hv : a.v = b.v
 ·have hvb : (a.v == b.v) = true := by simp [hv]
  have HV := Lib.hid (decide_eq_true hv)
  clear hv
  by_cases hh : a.h = b.h
  ·have hhb : (a.h == b.h) = true := by simp [hh]
   have HH := Lib.hid (decide_eq_true hh)
   clear hh
   obtain ⟨q, hq⟩ : ∃ q, q = decide (a.rows = b.rows) := ⟨_, rfl⟩
   rw [← hq] at HR
   have HQ := Lib.hid hq
   clear hq
   go_enter Tryz.func102, Tryz.ntmps102
   go_wp2_with (go_at_call 117; refine HR.out.mono ?_; rintro e w2 ⟨rfl, hb2⟩; have HB2 := Lib.hid (below_ext HB.out hb2); clear hb2)
   go_ret
   exact ⟨ret_bool (by rw [sySame, HV.out, HH.out, ← HQ.out]; rfl), HB2.out⟩
  ·have hhb : (a.h == b.h) = false := by simp [hh]
   have HH := Lib.hid (decide_eq_false hh)
   clear hh
   go_enter Tryz.func102, Tryz.ntmps102
   go_wp2
   go_ret
   exact ⟨ret_bool (by rw [sySame, HV.out, HH.out]; rfl), HB.out⟩
 ·have hvb : (a.v == b.v) = false := by simp [hv]
  have HV := Lib.hid (decide_eq_false hv)
  clear hv
  go_enter Tryz.func102, Tryz.ntmps102
  go_wp2
  go_ret
  exact ⟨ret_bool (by rw [sySame, HV.out]; rfl), HB.out⟩
end Go.Proofs.YtjdbfokbgmbphaaGreatDoor
