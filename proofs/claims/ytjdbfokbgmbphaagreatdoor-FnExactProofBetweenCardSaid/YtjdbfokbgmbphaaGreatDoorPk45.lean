/- The lists that satisfy a system: what becomes of them by a step; the relation of a system depends on them alone. Plain terms. Conditions: the system is valid and the step possible. | reduced, kernel, orthogonal, satisfying, canonicalSystem. Conditions: p is a field; rows of the right shape. | kernel, orthogonal, satisfying, canonicalSystem. Conditions: p is a field; rows of the right shape. | satisfying, canonicalSystem. Conditions: the system is valid. | canonicalSystem. Condition: the system is valid. -/
import Derived.Test.YtjdbfokbgmbphaaGreatDoorPk42
import Derived.Test.YtjdbfokbgmbphaaGreatDoorPk33
import Derived.Test.YtjdbfokbgmbphaaGreatDoorPk44
import Derived.Test.YtjdbfokbgmbphaaGreatDoorPk14
import Derived.Test.YtjdbfokbgmbphaaGreatDoorPk2
import Derived.Test.YtjdbfokbgmbphaaGreatDoorPk24
namespace Go.Proofs.YtjdbfokbgmbphaaGreatDoor
set_option linter.unusedVariables false
set_option linter.unusedSimpArgs false
open Go.RowKit
/-- x satisfies rows of n elements. -/
def SatF (p : Int) (n : Nat) (M : List (List Int)) (x : Nat → Int) : Prop := ∀ r ∈ M, p ∣ sumN (fun d => r.getD d 0 * x d) n
def Sy.n (s : Sy) : Nat := s.v.toNat + s.h.toNat
def Sy.Sat (p : Int) (s : Sy) (x : Nat → Int) : Prop := SatF p s.n s.rows x
/-- The vectors of the visible variables whose product with all that satisfies the system is 0. -/
def Sy.Vis (p : Int) (s : Sy) (z : Nat → Int) : Prop := ∀ x, s.Sat p x → p ∣ sumN (fun d => x d * z d) s.v.toNat
def relV (p : Int) (s : Sy) : List (List Int) := redI p s.v.toNat (cutL s.v.toNat (orthI p s.rows s.n))
theorem satF_iff {p : Int} {n : Nat} {M : List (List Int)} {x : Nat → Int} : SatF p n M x ↔ ∀ i, i < M.length → p ∣ sumN (fun d => eM M i d * x d) n := by
 constructor
 ·intro h i hi
  exact h _ (getD_mem hi)
 ·intro h r hr
  obtain ⟨i, hi⟩ := List.mem_iff_getElem?.1 hr
  have := h i (List.getElem?_eq_some_iff.1 hi).1
  unfold eM at this
  rwa [getD_some hi] at this
theorem Sy.n_eq {p : Int} {s : Sy} (h : s.Ok p) : (s.v + s.h).toNat = s.n := by
 have := Sys.v0 h; have := Sys.h0 h; unfold Sy.n; omega
theorem Sy.shp {p : Int} {s : Sy} (h : s.Ok p) : Shp p s.rows.length s.n s.rows := by rw [← Sy.n_eq h]; exact shp_of_ok h
/-- What annihilates the visible parts of the orthogonal list. -/
theorem vis_ann {p : Int} {s : Sy} (h : s.Ok p) : ∃ N, N ≤ s.n ∧ Shp p N s.v.toNat (cutL s.v.toNat (orthI p s.rows s.n)) ∧
  ∀ z, (∀ i, i < N → p ∣ sumN (fun d => eM (cutL s.v.toNat (orthI p s.rows s.n)) i d * z d) s.v.toNat) ↔ s.Vis p z := by
 obtain ⟨r, l, hr, a1, _, a2⟩ := orthI_spec (Sys.f h) (Sys.p2 h) (Sy.shp h)
 refine ⟨r, hr, cutL_shp a1 (by unfold Sy.n; omega), fun z => ?_⟩
 refine (cut_ann (h := s.h.toNat) z).trans ((a2 _).trans ?_)
 unfold Perp Sy.Vis Sy.Sat
 refine forall_congr' fun x => ?_
 rw [satF_iff]
 refine imp_congr_right fun _ => ?_
 have e : sumN (fun d => x d * padF s.v.toNat z d) s.n = sumN (fun d => x d * z d) s.v.toNat := by
  unfold Sy.n
  rw [sumN_ext _ _ _ (fun c hc => by unfold padF; rw [if_neg (by omega), Int.mul_zero])]
  exact sumN_congr fun c hc => by unfold padF; rw [if_pos hc]
 rw [e]
/-- Rows that can be read, each within its capacity. -/
def RowsCap (w : World) (A : Option Addr) (rows : List (List Int)) : Prop :=
 rows = [] ∨ ∃ b o, A = some ⟨b, o, none⟩ ∧ ∀ k r, rows[k]? = some r → ∃ A' cap, w.cell? ⟨b, o + k, none⟩ = some (.slice A' r.length cap) ∧ r.length ≤ cap ∧ IntsAt w A' r
theorem RowsCap.at {w : World} {A : Option Addr} {rows : List (List Int)} (h : RowsCap w A rows) : RowsAt w A rows :=
 h.imp id fun ⟨b, o, e, hc⟩ => ⟨b, o, e, fun k r hr => by obtain ⟨A', cap, h1, _, h2⟩ := hc k r hr; exact ⟨A', cap, h1, h2⟩⟩
theorem RowsCap.take {w : World} {A : Option Addr} {rows : List (List Int)} (h : RowsCap w A rows) (q : Nat) : RowsCap w A (rows.take q) := by
 rcases h with h | ⟨b, o, h, hc⟩
 ·exact Or.inl (by rw [h]; simp)
 ·refine Or.inr ⟨b, o, h, fun k x hk => hc k x ?_⟩
  rw [List.getElem?_take] at hk
  split at hk
  ·exact hk
  ·cases hk
theorem OwnRows.cap {w : World} {B n c : Nat} {A : Option Addr} {rows : List (List Int)} (h : OwnRows w B (.slice A n c) rows) : RowsCap w A rows := by
 obtain ⟨us, h⟩ := h
 rcases Nat.eq_zero_or_pos rows.length with h0 | h0
 ·exact Or.inl (List.eq_nil_of_length_eq_zero h0)
 ·obtain ⟨g, cap', e, _⟩ := h.form h0
  simp only [Value.slice.injEq] at e
  obtain ⟨rfl, rfl, rfl⟩ := e
  refine Or.inr ⟨g, 0, rfl, fun k r hr => ?_⟩
  obtain ⟨u, hu, ho⟩ := h.get hr
  obtain ⟨A', c', rfl, hi, h1, _⟩ := ho.view
  have hk := (List.getElem?_eq_some_iff.1 hr).1
  exact ⟨A', c', by rw [Nat.zero_add, h.outer.cellAt _ (by omega), hu], h1, hi⟩
/-- Rows that can be read, in blocks from B on. -/
def RowsFrom (w : World) (B : Nat) (A : Option Addr) (rows : List (List Int)) : Prop := ∀ W : World, (∀ k, B ≤ k → W.heap[k]? = w.heap[k]?) → RowsCap W A rows
theorem RowsFrom.cap {w : World} {B : Nat} {A : Option Addr} {rows : List (List Int)} (h : RowsFrom w B A rows) : RowsCap w A rows := h w fun _ _ => rfl
theorem RowsFrom.at {w : World} {B : Nat} {A : Option Addr} {rows : List (List Int)} (h : RowsFrom w B A rows) : RowsAt w A rows := h.cap.at
theorem RowsFrom.mono {w : World} {B B' : Nat} {A : Option Addr} {rows : List (List Int)} (h : RowsFrom w B A rows) (hB : B' ≤ B) : RowsFrom w B' A rows := fun W hW => h W fun k hk => hW k (by omega)
theorem RowsFrom.setCell {w : World} {B : Nat} {A : Option Addr} {rows : List (List Int)} (h : RowsFrom w B A rows) {a : Addr} (ha : a.block < B) (v : Value) : RowsFrom (w.setCell a v) B A rows := fun W hW => h W fun k hk => (hW k hk).trans (Below.heap_setCell _ _ _ _ (by omega))
theorem OwnRows.from {w : World} {B n c : Nat} {A : Option Addr} {rows : List (List Int)} (h : OwnRows w B (.slice A n c) rows) : RowsFrom w B A rows := fun W hW => (h.same hW).cap
theorem RowsFrom.take {w : World} {B : Nat} {A : Option Addr} {rows : List (List Int)} (h : RowsFrom w B A rows) (q : Nat) : RowsFrom w B A (rows.take q) := fun W hW => (h W hW).take q
/-- Rows that can be read, in new blocks, are handed back. -/
def RdTo (rows : List (List Int)) (w : World) (e : Ending) (w' : World) : Prop := ∃ A c, e = .returned (.slice A rows.length c) ∧ RowsFrom w' w.heap.size A rows ∧ Below w.heap.size w w'
theorem rows_drop {w : World} {g cap : Nat} {rows : List (List Int)} (h : RowsAt w (some ⟨g, 0, none⟩) rows) (hc : rows.length ≤ cap) (q : Nat) : ∃ A : Addr, (if cap = q then some (⟨g, 0, none⟩ : Addr) else some ⟨g, q, none⟩) = some A ∧ RowsAt w (some A) (rows.drop q) := by
 by_cases e : cap = q
 ·exact ⟨_, if_pos e, Or.inl (List.drop_of_length_le (by omega))⟩
 ·refine ⟨_, if_neg e, ?_⟩
  rcases h with h | ⟨b, o, h, hc⟩
  ·exact Or.inl (by rw [h]; simp)
  ·simp only [Option.some.injEq, Addr.mk.injEq] at h
   obtain ⟨rfl, rfl, _⟩ := h
   refine Or.inr ⟨g, q, rfl, fun k x hk => ?_⟩
   rw [List.getElem?_drop] at hk
   have := hc _ x hk
   rwa [Nat.zero_add] at this
theorem own_formR {w : World} {B n c : Nat} {A : Option Addr} {rows : List (List Int)} (h : OwnRows w B (.slice A n c) rows) : (A = none ∧ n = 0 ∧ c = 0 ∧ rows = []) ∨ (∃ g, A = some ⟨g, 0, none⟩ ∧ n = rows.length ∧ n ≤ c ∧ c ≤ maxLen) := by
 obtain ⟨us, h⟩ := h
 rcases h.outer.2 with ⟨e, h0⟩ | ⟨g, cap, cur, e, h1, h2, h3, h4, _⟩
 ·simp only [Value.slice.injEq] at e
  exact Or.inl ⟨e.1, e.2.1, e.2.2, List.eq_nil_of_length_eq_zero h0⟩
 ·simp only [Value.slice.injEq] at e
  obtain ⟨rfl, rfl, rfl⟩ := e
  exact Or.inr ⟨g, rfl, rfl, h3, h4⟩
theorem redI_len {p : Int} {N n : Nat} {M : List (List Int)} (hf : fieldB p = true) (s : Shp p N n M) : (redI p n M).length = (elimQ p n M (List.replicate N [])).1 ∧ (elimQ p n M (List.replicate N [])).1 ≤ N := by
 have h2 := (fieldB_bd hf).1
 obtain ⟨c, l, e, hr, _, _⟩ := elimQ_spec (n2 := 0) hf h2 s (shp_nil p N)
 unfold redI
 rw [s.1, List.length_take, e.s1.1]
 exact ⟨by omega, hr⟩
set_option maxRecDepth 100000 in
set_option maxHeartbeats 4000000 in
theorem reduced_any (p : Int) (M : List (List Int)) (A : Option Addr) (cap N n : Nat) (w : World) (hf : fieldB p = true) (hR : RowsAt w A M) (s : Shp p N n M) (hN : N ≤ 1048576) (hn : n ≤ 1048576) :
  Calls Tryz.prog 134 #[.int .i64 p, .slice A N cap, .int .i64 n] w (RdTo (redI p n M) w) := by
 obtain ⟨i0, hi, hz0, hz1, hz2⟩ := info_parts infoRow
 obtain ⟨l1, l2⟩ := redI_len hf s
 have hrows : redI p n M = (elimQ p n M (List.replicate N [])).2.1.take (elimQ p n M (List.replicate N [])).1 := by unfold redI; rw [s.1]
 obtain ⟨Z, hZ⟩ : ∃ Z, Z = elimQ p n M (List.replicate N []) := ⟨_, rfl⟩
 rw [← hZ] at l1 l2 hrows
 have HZ := Lib.hid hZ; have HROWS := Lib.hid hrows; have HLEN := Lib.hid l1
 have HRL := Lib.hid (show ∀ r ∈ M, r.length ≤ 1048576 from fun r hr => by rw [s.row r hr]; exact hn)
 have hNM := s.1
 subst hNM
 have HS := Lib.hid s; have HF := Lib.hid hf
 clear hZ hrows l1 s hf
 go_enter Tryz.func134, Tryz.ntmps134
 go_wp2_with fail
 refine (clones_any _ _ M _ hR hN HRL.out).mono ?_
 rintro e w1 ⟨u, rfl, hu, hb⟩
 obtain ⟨A1, c1, rfl, _, hc1, hc2⟩ := hu.view
 have HU := Lib.hid hu; have HB := Lib.hid hb
 have hsz := hb.size
 clear hu hb
 go_wp2_with ((at_make; refine wpList_make_full _ rfl _ _ 22 rfl w1.heap.size 25 i0 (.slice none 0 0) 1 Tryz.underlying22 hi hz0 hz1 .i64 .i64 M.length M.length M.length rfl rfl rfl rfl (by rw [hz2]; omega) (by unfold maxLen; omega) (Nat.le_refl _) ?_; intro w2 hown hgrow))
 have hb2 := grown_none_below hgrow
 have ho2 := OwnRowsW.made hown
 have hsz2 := hb2.size
 refine (reduction_any p w.heap.size w1.heap.size w1.heap.size w2.heap.size M.length n 0 c1 M.length A1 (some ⟨w1.heap.size, 0, none⟩) M (List.replicate M.length []) w2 HF.out ((Has.of HU.out).ext hb2) (Has.of ⟨_, ho2⟩) HS.out (shp_nil p M.length) (Nat.le_refl _) hsz hsz2 (Nat.le_refl _) hN hn (by omega)).mono ?_
 rintro e w3 ⟨rfl, h1, _, hwi⟩
 rw [← HZ.out] at h1 ⊢
 have HW := Lib.hid (show Below w.heap.size w w3 from (HB.out.trans (hb2.mono hsz)).trans (hwi.below (Nat.le_refl _) (by omega)))
 have HRD := Lib.hid (show RowsFrom w3 w.heap.size A1 (Z.2.1.take Z.1) from h1.own.from.take _)
 have hfm := own_formR HU.out
 clear h1 hwi hb2 ho2 hown hgrow
 rcases hfm with ⟨rfl, h0, rfl, _⟩ | ⟨g, rfl, _, _, _⟩
 ·have hz0 : Z.1 = 0 := by omega
  have HZ0 := Lib.hid hz0
  rw [hz0]
  clear hz0
  go_wp2
  go_ret
  exact ⟨none, 0, by rw [HLEN.out, HZ0.out]; rfl, by rw [HROWS.out]; exact HRD.out, HW.out⟩
 ·go_wp2
  go_ret
  exact ⟨some ⟨g, 0, none⟩, Z.1, by rw [HLEN.out]; rfl, by rw [HROWS.out]; exact HRD.out, HW.out⟩
theorem kerK_shp {p : Int} {N n : Nat} {M : List (List Int)} (hf : fieldB p = true) (s : Shp p N n M) : Shp p (N - (elimQ p n M (idL N)).1) N ((elimQ p n M (idL N)).2.2.drop (elimQ p n M (idL N)).1) ∧ (elimQ p n M (idL N)).1 ≤ N := by
 have h2 := (fieldB_bd hf).1
 obtain ⟨c, l, e, hr, _, _⟩ := elimQ_spec (n2 := N) hf h2 s (idL_shp h2)
 exact ⟨e.s2.drop hr, hr⟩
set_option maxRecDepth 100000 in
set_option maxHeartbeats 4000000 in
theorem kernel_any (p : Int) (M : List (List Int)) (A : Option Addr) (cap N n : Nat) (w : World) (hf : fieldB p = true) (hR : RowsAt w A M) (s : Shp p N n M) (hN : N ≤ 1048576) (hn : n ≤ 1048576) :
  Calls Tryz.prog 132 #[.int .i64 p, .slice A N cap, .int .i64 n] w (RdTo (kerI p n M) w) := by
 obtain ⟨l1, l2⟩ := kerK_shp hf s
 have hker : kerI p n M = redI p N ((elimQ p n M (idL N)).2.2.drop (elimQ p n M (idL N)).1) := by unfold kerI kerK; rw [s.1]
 obtain ⟨Z, hZ⟩ : ∃ Z, Z = elimQ p n M (idL N) := ⟨_, rfl⟩
 rw [← hZ] at l1 l2 hker
 have HZ := Lib.hid hZ; have HK := Lib.hid hker; have HSK := Lib.hid l1
 have HRL := Lib.hid (show ∀ r ∈ M, r.length ≤ 1048576 from fun r hr => by rw [s.row r hr]; exact hn)
 have hNM := s.1
 subst hNM
 have HS := Lib.hid s; have HF := Lib.hid hf
 clear hZ hker l1 s hf
 have p2 := (fieldB_bd HF.out).1
 go_enter Tryz.func132, Tryz.ntmps132
 go_wp2_with fail
 refine (clones_any _ _ M _ hR hN HRL.out).mono ?_
 rintro e w1 ⟨u, rfl, hu, hb⟩
 obtain ⟨A1, c1, rfl, _, hc1, hc2⟩ := hu.view
 have HU := Lib.hid hu; have HB := Lib.hid hb
 have hsz := hb.size
 clear hu hb
 go_wp2_with fail
 refine (identityRows_any M.length _ hN).mono ?_
 rintro e w2 ⟨u2, rfl, hu2, hb2⟩
 obtain ⟨A2, c2, rfl, _, hc3, hc4⟩ := hu2.view
 rw [idL_len] at hu2 hc3 ⊢
 have HU2 := Lib.hid hu2; have HB2 := Lib.hid hb2
 have hsz2 := hb2.size
 clear hu2 hb2
 go_wp2_with fail
 refine (reduction_any p w.heap.size w1.heap.size w1.heap.size w2.heap.size M.length n M.length c1 c2 A1 A2 M (idL M.length) w2 HF.out ((Has.of HU.out).ext HB2.out) (Has.of HU2.out) HS.out (idL_shp p2) (Nat.le_refl _) hsz hsz2 (Nat.le_refl _) hN hn hN).mono ?_
 rintro e w3 ⟨rfl, _, h1, hwi⟩
 rw [← HZ.out] at h1 ⊢
 have HW := Lib.hid (show Below w.heap.size w w3 from (HB.out.trans (HB2.out.mono hsz)).trans (hwi.below (Nat.le_refl _) (by omega)))
 have HOW := Lib.hid h1.own
 have hfm := own_formR HOW.out
 have hl3 : (Z.2.2.drop Z.1).length = M.length - Z.1 := HSK.out.1
 have hsub : ((M.length : Int) - (Z.1 : Int)) = ((M.length - Z.1 : Nat) : Int) := by omega
 clear h1 hwi
 rcases hfm with ⟨rfl, h0, rfl, hnil⟩ | ⟨g, rfl, hlen, _, _⟩
 ·have HZ0 := Lib.hid (show Z.1 = 0 by omega)
  have HD := Lib.hid (show RowsAt w3 none (Z.2.2.drop Z.1) from Or.inl (by rw [hnil]; simp))
  have HL3 := Lib.hid hl3
  rw [HZ0.out]
  clear hl3 hsub hnil
  have hk := reduced_any p (Z.2.2.drop Z.1) none 0 (M.length - Z.1) M.length w3 HF.out HD.out HSK.out (by omega) hN
  obtain ⟨R, hRR⟩ : ∃ R, R = redI p M.length (Z.2.2.drop Z.1) := ⟨_, rfl⟩
  have HRR := Lib.hid hRR
  rw [← hRR] at hk
  rw [show M.length - Z.1 = 0 by omega, h0] at hk
  have HKC := Lib.hid (show Calls Tryz.prog 134 #[.int .i64 p, .slice none 0 0, .int .i64 0] w3 (RdTo R w3) from hk)
  clear hk hRR
  go_wp2_with fail
  refine HKC.out.mono ?_
  rintro e w4 ⟨A9, c9, rfl, hr9, hb9⟩
  have HR9 := Lib.hid hr9; have HB9 := Lib.hid hb9
  clear hr9 hb9
  go_wp2
  go_ret
  exact ⟨A9, c9, by rw [HK.out, ← HRR.out]; rfl, by rw [HK.out, ← HRR.out]; exact HR9.out.mono HW.out.size, HW.out.trans (HB9.out.mono (by have := HW.out.size; omega))⟩
 ·obtain ⟨_, _, ev, hr4, _⟩ := HOW.out.view
  simp only [Value.slice.injEq] at ev
  obtain ⟨rfl, -, rfl⟩ := ev
  obtain ⟨A9, hA9, hd9⟩ := rows_drop hr4 (show Z.2.2.length ≤ c2 by omega) Z.1
  have HD := Lib.hid hd9
  have hzl : Z.1 ≤ c2 := by omega
  have HL3 := Lib.hid hl3
  clear hr4 hd9 hlen hl3
  go_wp2_with fail
  with_reducible refine (reduced_any p (Z.2.2.drop Z.1) (some A9) (c2 - Z.1) (M.length - Z.1) M.length w3 HF.out HD.out HSK.out (by omega) hN).mono ?_
  rintro e w4 ⟨A8, c9, rfl, hr9, hb9⟩
  have HR9 := Lib.hid hr9; have HB9 := Lib.hid hb9
  clear hr9 hb9
  go_wp2
  go_ret
  exact ⟨A8, c9, by rw [HK.out]; rfl, by rw [HK.out]; exact HR9.out.mono HW.out.size, HW.out.trans (HB9.out.mono (by have := HW.out.size; omega))⟩
set_option maxRecDepth 100000 in
set_option maxHeartbeats 4000000 in
theorem orthogonal_any (p : Int) (M : List (List Int)) (A : Option Addr) (cap N n : Nat) (w : World) (hf : fieldB p = true) (hR : RowsAt w A M) (s : Shp p N n M) (hN : N ≤ 1048576) (hn : n ≤ 1048576) :
  Calls Tryz.prog 123 #[.int .i64 p, .slice A N cap, .int .i64 n] w (RdTo (orthI p M n) w) := by
 have hor : orthI p M n = kerI p N (trL M n) := by unfold orthI; rw [s.1]
 have HO := Lib.hid hor
 have ht := trL_shp s
 have HT := Lib.hid ht
 have hNM := s.1
 subst hNM
 have HRL := Lib.hid (show ∀ r ∈ M, n ≤ r.length from fun r hr => by rw [s.row r hr]; exact Nat.le_refl _)
 have HF := Lib.hid hf
 clear hor ht s hf
 go_enter Tryz.func123, Tryz.ntmps123
 go_wp2_with fail
 refine (transposed_any M _ _ n _ hR hN hn HRL.out).mono ?_
 rintro e w1 ⟨u, rfl, hu, hb⟩
 obtain ⟨A1, c1, rfl, hr1, _⟩ := hu.view
 rw [trL_len] at ⊢
 have HR1 := Lib.hid hr1; have HB := Lib.hid hb
 have hsz := hb.size
 clear hu hb hr1
 go_wp2_with fail
 with_reducible refine (kernel_any p (trL M n) A1 c1 n M.length w1 HF.out HR1.out HT.out hn hN).mono ?_
 rintro e w4 ⟨A8, c9, rfl, hr9, hb9⟩
 have HR9 := Lib.hid hr9; have HB9 := Lib.hid hb9
 clear hr9 hb9
 go_wp2
 go_ret
 exact ⟨A8, c9, by rw [HO.out]; rfl, by rw [HO.out]; exact HR9.out.mono hsz, HB.out.trans (HB9.out.mono hsz)⟩
theorem relV_shp {p : Int} {s : Sy} (h : s.Ok p) : ∃ r, r ≤ s.n ∧ Shp p r s.v.toNat (relV p s) := by
 obtain ⟨N, hN, a1, _⟩ := vis_ann h
 obtain ⟨r, _, hr, b1, _⟩ := redI_spec (Sys.f h) (Sys.p2 h) a1
 exact ⟨r, by omega, b1⟩
theorem iota_mem {n : Nat} {i : Int} (h : i ∈ iota n) : 0 ≤ i ∧ i < n := by
 obtain ⟨k, hk, rfl⟩ := List.mem_map.1 h
 rw [List.mem_range] at hk
 omega
set_option maxRecDepth 100000 in
set_option maxHeartbeats 8000000 in
theorem satisfying_any (p : Int) (s : Sy) (A : Option Addr) (cap : Nat) (w : World) (hR : RowsAt w A s.rows) (hok : s.Ok p) :
  Calls Tryz.prog 124 #[.agg #[.int .i64 s.v, .int .i64 s.h, .slice A s.rows.length cap], .int .i64 p] w (RdTo (relV p s) w) := by
 have hv := Sys.v0 hok; have hv' := Sys.v24 hok; have hh := Sys.h0 hok; have hh' := Sys.h100 hok
 have hf := Sys.f hok
 obtain ⟨r1, l1, hr1, a1, _, _⟩ := orthI_spec hf (Sys.p2 hok) (Sy.shp hok)
 have hrel : relV p s = redI p s.v.toNat (pickAll (orthI p s.rows s.n) (iota s.v.toNat)) := by
  unfold relV; rw [pickAll_iota a1 (by unfold Sy.n; omega)]
 have hpsh : Shp p r1 s.v.toNat (pickAll (orthI p s.rows s.n) (iota s.v.toNat)) := by
  rw [pickAll_iota a1 (by unfold Sy.n; omega)]; exact cutL_shp a1 (by unfold Sy.n; omega)
 have hnb : s.n ≤ 124 := by unfold Sy.n; omega
 have hsn : ((s.n : Nat) : Int) = s.v + s.h := by unfold Sy.n; omega
 have hvn : ((s.v.toNat : Nat) : Int) = s.v := by omega
 obtain ⟨O, hO⟩ : ∃ O, O = orthI p s.rows s.n := ⟨_, rfl⟩
 rw [← hO] at a1 hrel hpsh
 have HREL := Lib.hid hrel; have HPSH := Lib.hid hpsh; have HA1 := Lib.hid a1; have HOL := Lib.hid a1.1
 have HORT := Lib.hid (fun (w1 : World) (hR1 : RowsAt w1 A s.rows) => (by
  have := orthogonal_any p s.rows A cap s.rows.length s.n w1 hf hR1 (Sy.shp hok) (by have := Sys.n hok; omega) (by omega)
  rw [hsn, ← hO] at this
  exact this : Calls Tryz.prog 123 #[.int .i64 p, .slice A s.rows.length cap, .int .i64 (s.v + s.h)] w1 (RdTo O w1)))
 have HF := Lib.hid hf; have HR := Lib.hid hR
 have HUP := Lib.hid (fun (w1 : World) => (by
  have := upTo_any s.v.toNat w1 (by omega)
  rw [hvn] at this
  exact this : Calls Tryz.prog 136 #[.int .i64 s.v] w1 fun e w' => ∃ u, e = .returned u ∧ OwnInts w' w1.heap.size u (iota s.v.toNat) ∧ Below w1.heap.size w1 w'))
 have HPL := Lib.hid (pickAll_len O (iota s.v.toNat))
 have HRED := Lib.hid (fun (w1 : World) (A1 : Option Addr) (c1 : Nat) (hR1 : RowsAt w1 A1 (pickAll O (iota s.v.toNat))) => (by
  have := reduced_any p (pickAll O (iota s.v.toNat)) A1 c1 r1 s.v.toNat w1 hf hR1 hpsh (by omega) (by omega)
  rw [hvn, ← hrel] at this
  exact this : Calls Tryz.prog 134 #[.int .i64 p, .slice A1 r1 c1, .int .i64 s.v] w1 (RdTo (relV p s) w1)))
 have HM := Lib.hid (show ∀ r ∈ O, ∀ i ∈ iota s.v.toNat, 0 ≤ i ∧ i < r.length from fun r hr i hi => by have := iota_mem hi; have := a1.row r hr; have : s.v.toNat ≤ s.n := (by unfold Sy.n; omega); omega)
 have HMS := Lib.hid (show ∀ r ∈ O, r.length ≤ 1048576 from fun r hr => by have := a1.row r hr; omega)
 have hol := a1.1
 clear hsn hvn hO hrel hpsh a1 hf hR hok
 have HOLN := Lib.hid hol
 have hol2 : O.length ≤ 1048576 := by omega
 clear hol
 obtain ⟨v, h, rows⟩ := s
 dsimp only at *
 have hwr : IntKind.i64.wrap (v + h) = v + h := by rw [IntKind.wrap_i64]; omega
 have HB := Lib.hid ((Below.refl w.heap.size w).alloc (Nat.le_refl _) (.cells #[.int .i64 v, .int .i64 h, .slice A rows.length cap] 30))
 go_enter Tryz.func124, Tryz.ntmps124
 go_upto_region 1 with (fail)
 have hq : (w.alloc (.cells #[.int .i64 v, .int .i64 h, .slice A rows.length cap] 30)).heap[w.heap.size]? = some (.cells #[.int .i64 v, .int .i64 h, .slice A rows.length cap] 30 (0, 0)) := heap_at _ _ rfl
 obtain ⟨W1, hW1⟩ : ∃ W1, W1 = w.alloc (.cells #[.int .i64 v, .int .i64 h, .slice A rows.length cap] 30) := ⟨_, rfl⟩
 rw [← hW1] at hq ⊢
 have hBW : Below w.heap.size w W1 := by rw [hW1]; exact HB.out
 clear hW1 HB
 have HBW := Lib.hid hBW
 have HRW := Lib.hid (HR.out.ext hBW)
 obtain ⟨x0, x1, x2⟩ := cells_3 hq
 clear hq hBW HR
 go_region_held3 (fun w' => w'.cell? ⟨w.heap.size, 0, none⟩ = some (.int .i64 v) ∧ w'.cell? ⟨w.heap.size, 1, none⟩ = some (.int .i64 h) ∧ w'.cell? ⟨w.heap.size, 2, none⟩ = some (.slice A rows.length cap))
  (first | exact hS5 | exact hS4 | exact ⟨x0, x1, x2⟩)
  ((first | (go_at_call 92; refine (size_any v h _ _ hv (by omega) hh (by omega)).mono ?_; rintro e wz ⟨rfl, hbz⟩; have hS4 := And.intro (ext_cell hbz x0) (And.intro (ext_cell hbz x1) (ext_cell hbz x2)); have HBZ := Lib.hid ((Below.refl W1.heap.size W1).drew.trans hbz); clear hbz) | (go_at_call 123; refine (HORT.out _ (HRW.out.ext HBZ.out)).mono ?_; rintro e w2 ⟨A2, c2, rfl, hr2, hb2⟩; have hS5 := And.intro (ext_cell hb2 hS4.1) (And.intro (ext_cell hb2 hS4.2.1) (ext_cell hb2 hS4.2.2)); have HR2 := Lib.hid hr2; have HB2 := Lib.hid (HBZ.out.trans (hb2.mono HBZ.out.size)); clear hr2 hb2 hS4)))
 have y0 := hS5.1
 clear hS5 x0 x1 x2
 go_wp2_with fail
 go_region_held3 (fun w' => w'.cell? ⟨w.heap.size, 0, none⟩ = some (.int .i64 v))
  (first | exact t3 | exact t2 | exact t1 | exact y0)
  ((first | (go_at_call 136; refine (HUP.out _).mono ?_; rintro e wz ⟨u3, rfl, hu3, hb3⟩; have t1 := ext_cell hb3 y0; obtain ⟨A3, c3, rfl, hi3, _⟩ := hu3.view; rw [iota_len] at ⊢; have HI3 := Lib.hid hi3; have HB3 := Lib.hid ((Below.refl w2.heap.size w2).drew.trans hb3); clear hu3 hi3 hb3) | (go_at_call 135; have hch := chosenAll_any O A2 c2 (iota v.toNat) A3 c3 _ (HR2.out.at.ext HB3.out) HI3.out hol2 HMS.out (by rw [iota_len]; omega) HM.out; rw [iota_len] at hch; refine hch.mono ?_; clear hch; rintro e w4 ⟨u4, rfl, hu4, hb4⟩; have t2 := ext_cell hb4 t1; obtain ⟨A4, c4, rfl, hr4, _⟩ := hu4.view; rw [HPL.out, HOL.out] at ⊢; have HR4 := Lib.hid hr4; have HB4 := Lib.hid (HB3.out.trans (hb4.mono HB3.out.size)); clear hu4 hr4 hb4) | (go_at_call 134; refine (HRED.out _ _ _ HR4.out).mono ?_; rintro e w5 ⟨A5, c5, rfl, hr5, hb5⟩; have t3 := ext_cell hb5 t2; have HR5 := Lib.hid hr5; have HB5 := Lib.hid (HB4.out.trans (hb5.mono HB4.out.size)); clear hr5 hb5)))
 all_goals go_wp2
 all_goals go_ret
 all_goals exact ⟨A5, c5, rfl, HR5.out.mono ((HBW.out.trans (HB2.out.mono HBW.out.size)).trans (HB4.out.mono (HBW.out.trans (HB2.out.mono HBW.out.size)).size)).size, (HBW.out.trans (HB2.out.mono HBW.out.size)).trans (HB5.out.mono (HBW.out.trans (HB2.out.mono HBW.out.size)).size)⟩
theorem set3_keep {w : World} {b : Nat} {v0 v1 v2 x : Value} {p : Addr} (h : p.block ≠ b) (hc : w.cell? p = some x) : (((w.setCell ⟨b, 0, none⟩ v0).setCell ⟨b, 1, none⟩ v1).setCell ⟨b, 2, none⟩ v2).cell? p = some x :=
 (cell_set_ne h).trans ((cell_set_ne h).trans ((cell_set_ne h).trans hc))
theorem RowsFrom.set3 {w : World} {B b : Nat} {A : Option Addr} {rows : List (List Int)} {v0 v1 v2 : Value} (h : RowsFrom w B A rows) (hb : b < B) : RowsFrom (((w.setCell ⟨b, 0, none⟩ v0).setCell ⟨b, 1, none⟩ v1).setCell ⟨b, 2, none⟩ v2) B A rows :=
 ((h.setCell (a := ⟨b, 0, none⟩) hb _).setCell (a := ⟨b, 1, none⟩) hb _).setCell (a := ⟨b, 2, none⟩) hb _
/-- A system that can be read, its rows in new blocks, is handed back. -/
def CanTo (t : Sy) (w : World) (e : Ending) (w' : World) : Prop := ∃ A c, e = .returned (.agg #[.int .i64 t.v, .int .i64 t.h, .slice A t.rows.length c]) ∧ RowsFrom w' w.heap.size A t.rows ∧ Below w.heap.size w w'
def canSy (p : Int) (s : Sy) : Sy := ⟨s.v, 0, canI p s.v.toNat s.h.toNat s.rows⟩
theorem canSy_rel {p : Int} {s : Sy} : (canSy p s).rows = orthI p (relV p s) s.v.toNat := rfl
set_option maxRecDepth 100000 in
set_option maxHeartbeats 8000000 in
theorem canonical_any (p : Int) (s : Sy) (A : Option Addr) (cap : Nat) (w : World) (hR : RowsAt w A s.rows) (hok : s.Ok p) :
  Calls Tryz.prog 109 #[.int .i64 p, .agg #[.int .i64 s.v, .int .i64 s.h, .slice A s.rows.length cap]] w (CanTo (canSy p s) w) := by
 have hv := Sys.v0 hok; have hv' := Sys.v24 hok
 obtain ⟨r, hr, hsh⟩ := relV_shp hok
 have hnb : s.n ≤ 124 := by have := Sys.h100 hok; unfold Sy.n; omega
 have hvn : ((s.v.toNat : Nat) : Int) = s.v := by omega
 have HSAT := Lib.hid (fun (w1 : World) (hR1 : RowsAt w1 A s.rows) => satisfying_any p s A cap w1 hR1 hok)
 obtain ⟨O, hO⟩ : ∃ O, O = relV p s := ⟨_, rfl⟩
 rw [← hO] at HSAT hsh
 have hol := hsh.1
 have HORT := Lib.hid (fun (w1 : World) (A1 : Option Addr) (c1 : Nat) (hR1 : RowsAt w1 A1 O) => (by
  have := orthogonal_any p O A1 c1 O.length s.v.toNat w1 (Sys.f hok) hR1 (by rw [hol]; exact hsh) (by omega) (by omega)
  rw [hvn] at this
  exact this : Calls Tryz.prog 123 #[.int .i64 p, .slice A1 O.length c1, .int .i64 s.v] w1 (RdTo (orthI p O s.v.toNat) w1)))
 have HCAN := Lib.hid (show (canSy p s).rows = orthI p O s.v.toNat by rw [canSy_rel, hO])
 obtain ⟨Q, hQ⟩ : ∃ Q, Q = orthI p O s.v.toNat := ⟨_, rfl⟩
 rw [← hQ] at HORT HCAN
 have HR := Lib.hid hR
 have HCV := Lib.hid (show (canSy p s).v = s.v ∧ (canSy p s).h = 0 from ⟨rfl, rfl⟩)
 obtain ⟨T, hT⟩ : ∃ T, T = canSy p s := ⟨_, rfl⟩
 rw [← hT] at HCAN HCV ⊢
 clear hT hQ hO hol hsh hvn hr hok hR
 obtain ⟨v, h, rows⟩ := s
 dsimp only at *
 go_enter Tryz.func109, Tryz.ntmps109
 go_upto_region 1 with (fail)
 have hB : Below w.heap.size w ((w.alloc (.cells #[.int .i64 v, .int .i64 h, .slice A rows.length cap] 30)).alloc (.cells #[.int .i64 0, .int .i64 0, .slice none 0 0] 30)) := ((Below.refl _ _).alloc (Nat.le_refl _) _).alloc (by simp) _
 have hq : ((w.alloc (.cells #[.int .i64 v, .int .i64 h, .slice A rows.length cap] 30)).alloc (.cells #[.int .i64 0, .int .i64 0, .slice none 0 0] 30)).heap[w.heap.size]? = some (.cells #[.int .i64 v, .int .i64 h, .slice A rows.length cap] 30 (0, 0)) := (heap_past _ _ (by simp)).trans (heap_at _ _ rfl)
 have hq2 : ((w.alloc (.cells #[.int .i64 v, .int .i64 h, .slice A rows.length cap] 30)).alloc (.cells #[.int .i64 0, .int .i64 0, .slice none 0 0] 30)).heap[w.heap.size + 1]? = some (.cells #[.int .i64 0, .int .i64 0, .slice none 0 0] 30 (0, 0)) := heap_at _ _ (by simp)
 have hsz : w.heap.size + 2 = ((w.alloc (.cells #[.int .i64 v, .int .i64 h, .slice A rows.length cap] 30)).alloc (.cells #[.int .i64 0, .int .i64 0, .slice none 0 0] 30)).heap.size := by simp
 obtain ⟨W1, hW1⟩ : ∃ W1, W1 = (w.alloc (.cells #[.int .i64 v, .int .i64 h, .slice A rows.length cap] 30)).alloc (.cells #[.int .i64 0, .int .i64 0, .slice none 0 0] 30) := ⟨_, rfl⟩
 rw [← hW1] at hB hq hq2 hsz ⊢
 clear hW1
 have HBW := Lib.hid hB; have HQ2 := Lib.hid hq2; have HSZ := Lib.hid hsz
 have HRW := Lib.hid (HR.out.ext hB)
 obtain ⟨x0, x1, x2⟩ := cells_3 hq
 clear hq hq2 hB HR hsz
 go_region_held3 (fun w' => w'.cell? ⟨w.heap.size, 0, none⟩ = some (.int .i64 v) ∧ w'.cell? ⟨w.heap.size, 1, none⟩ = some (.int .i64 h) ∧ w'.cell? ⟨w.heap.size, 2, none⟩ = some (.slice A rows.length cap))
  (first | exact t2 | exact t1 | exact ⟨x0, x1, x2⟩ | exact ⟨set3_keep (by simp) t2.1, set3_keep (by simp) t2.2.1, set3_keep (by simp) t2.2.2⟩)
  ((first | (go_at_call 124; refine (HSAT.out _ (HRW.out.ext (Below.refl _ _).drew)).mono ?_; rintro e w2 ⟨A2, c2, rfl, hr2, hb2⟩; have t1 := And.intro (ext_cell hb2 x0) (And.intro (ext_cell hb2 x1) (ext_cell hb2 x2)); have HR2 := Lib.hid hr2.at; have HB2 := Lib.hid ((Below.refl W1.heap.size W1).drew.trans hb2); clear hr2 hb2) | (go_at_call 123; refine (HORT.out _ _ _ HR2.out).mono ?_; rintro e w3 ⟨A3, c3, rfl, hr3, hb3⟩; have t2 := And.intro (ext_cell hb3 t1.1) (And.intro (ext_cell hb3 t1.2.1) (ext_cell hb3 t1.2.2)); have HR3 := Lib.hid (hr3.mono HB2.out.size); have HB3 := Lib.hid (HB2.out.trans (hb3.mono HB2.out.size)); have hz := boxb HB3.out HQ2.out; obtain ⟨r0, r1, r2⟩ := cells_3 hz; have s0 := blk_free hz 0; have s1 := blk_free hz 1; have s2 := blk_free hz 2; have HZ := Lib.hid hz; clear hr3 hb3 hz)))
 have hb3 := set3_block (v0 := .int .i64 v) (v1 := .int .i64 0) (v2 := .slice A3 Q.length c3) HZ.out
 have HF := Lib.hid (HR3.out.set3 (b := w.heap.size + 1) (v0 := .int .i64 v) (v1 := .int .i64 0) (v2 := .slice A3 Q.length c3) (by have := HSZ.out; omega))
 have HE := Lib.hid (below_set3' (b := w.heap.size + 1) (HBW.out.trans (HB3.out.mono HBW.out.size)) (by omega) (.int .i64 v) (.int .i64 0) (.slice A3 Q.length c3))
 obtain ⟨W5, hW5⟩ : ∃ W5, W5 = ((w3.setCell ⟨w.heap.size + 1, 0, none⟩ (.int .i64 v)).setCell ⟨w.heap.size + 1, 1, none⟩ (.int .i64 0)).setCell ⟨w.heap.size + 1, 2, none⟩ (.slice A3 Q.length c3) := ⟨_, rfl⟩
 rw [← hW5] at hb3 HF HE ⊢
 clear hW5 r0 r1 r2 s0 s1 s2 t2 x0 x1 x2
 obtain ⟨y0, y1, y2⟩ := cells_3 hb3
 clear hb3
 go_wp2
 refine bodyPost_ret (v := .agg #[.int .i64 v, .int .i64 0, .slice A3 Q.length c3]) (by simp [results, Tryz.results109, go_sem, *]) rfl ⟨A3, c3, ?_, ?_, HE.out⟩
 ·rw [HCAN.out, HCV.out.1, HCV.out.2]
 ·rw [HCAN.out]; exact HF.out.mono HBW.out.size
end Go.Proofs.YtjdbfokbgmbphaaGreatDoor
