/- transposed; single cells of rows of the call's own. Conditions: lengths of at most 2^20. | rowOperation.apply: rows of the call's own change places, are scaled, are added up. Conditions: rows of the right shape. | rowOperation.apply: a row scaled, a multiple of a row taken from another one. Conditions: rows of the right shape. -/
import Derived.Test.YtjdbfokbgmbphaaGreatDoorPk42
import Derived.Test.YtjdbfokbgmbphaaGreatDoorPk9
import Derived.Test.YtjdbfokbgmbphaaGreatDoorPk20
namespace Go.Proofs.YtjdbfokbgmbphaaGreatDoor
set_option linter.unusedVariables false
set_option linter.unusedSimpArgs false
open Go.RowKit
/-- A row of own rows: where its slice lies. -/
theorem OwnRowsW.at {w : World} {B n cap k : Nat} {A : Option Addr} {rows : List (List Int)} {us : List Value} {r : List Int} (h : OwnRowsW w B (.slice A n cap) rows us) (hr : rows[k]? = some r) :
  ∃ g A' c, A = some ⟨g, 0, none⟩ ∧ us[k]? = some (.slice A' r.length c) ∧ w.cell? ⟨g, k, none⟩ = some (.slice A' r.length c) ∧ w.frozen? ⟨g, k, none⟩ = false ∧ B ≤ g ∧ g < w.heap.size ∧ OwnInts w B (.slice A' r.length c) r := by
 have hk := (List.getElem?_eq_some_iff.1 hr).1
 obtain ⟨g, cap', e, h1, h2⟩ := h.form (by omega)
 simp only [Value.slice.injEq] at e
 obtain ⟨rfl, rfl, rfl⟩ := e
 obtain ⟨u, hu, ho⟩ := h.get hr
 obtain ⟨A', c, rfl, _⟩ := ho.view
 exact ⟨g, A', c, rfl, hu, by rw [h.outer.cellAt _ (by omega), hu], h.outer.frozenAt k, h1, h2, ho⟩
/-- An element of own rows: where it lies, and what a store there makes of the rows. -/
theorem OwnRowsW.ent {w : World} {B k j : Nat} {v : Value} {rows : List (List Int)} {us : List Value} {r : List Int} {x : Int} (h : OwnRowsW w B v rows us) (hr : rows[k]? = some r) (hx : r[j]? = some x) :
  ∃ ga c, us[k]? = some (.slice (some ⟨ga, 0, none⟩) r.length c) ∧ w.cell? ⟨ga, j, none⟩ = some (.int .i64 x) ∧ w.frozen? ⟨ga, j, none⟩ = false ∧ B ≤ ga ∧ ga < w.heap.size ∧ v.ownBlock ≠ some ga ∧
   ∀ y : Int, OwnRowsW (w.setCell ⟨ga, j, none⟩ (.int .i64 y)) B v (rows.set k (r.set j y)) us ∧ w.grownBy (w.setCell ⟨ga, j, none⟩ (.int .i64 y)) (some ga) := by
 have hj := (List.getElem?_eq_some_iff.1 hx).1
 obtain ⟨u, hu, ho⟩ := h.get hr
 obtain ⟨ga, c, rfl, h1, h2⟩ := World.ownsRow.form ho (by omega)
 have ho' := ho
 unfold OwnInts at ho'
 refine ⟨ga, c, hu, by rw [ho'.cellAt _ (by omega), List.getElem?_map, hx]; rfl, ho'.frozenAt j, h1, h2, ?_, fun y => ?_⟩
 ·rcases apart_types' h.outer ho with h3 | h3
  ·rw [h3]; simp
  ·exact h3
 ·have hst := ho'.stored j (.int .i64 y)
  rw [← List.map_set] at hst
  exact ⟨h.inner hu hst.2 (by unfold OwnInts; rw [List.length_set]; exact hst.1), hst.2⟩
theorem trL_len (M : List (List Int)) (n : Nat) : (trL M n).length = n := by simp [trL]
theorem trL_get {M : List (List Int)} {n j : Nat} (h : j < n) : (trL M n)[j]? = some (colOf M j) := by simp [trL, h, colOf]
theorem colOf_len (M : List (List Int)) (c : Nat) : (colOf M c).length = M.length := by simp [colOf]
theorem colOf_get {M : List (List Int)} {c k : Nat} {r : List Int} {x : Int} (hr : M[k]? = some r) (hx : r[c]? = some x) : (colOf M c)[k]? = some x := by simp [colOf, hr, hx]
set_option maxHeartbeats 2000000 in
theorem transposed_any (rows : List (List Int)) (A : Option Addr) (cap n : Nat) (w : World) (hR : RowsAt w A rows) (hm : rows.length ≤ 1048576) (hn : n ≤ 1048576) (hl : ∀ r ∈ rows, n ≤ r.length) :
  Calls Tryz.prog 133 #[.slice A rows.length cap, .int .i64 n] w fun e w' => ∃ u, e = .returned u ∧ OwnRows w' w.heap.size u (trL rows n) ∧ Below w.heap.size w w' := by
 obtain ⟨i0, hi, hz0, hz1, hz2⟩ := info_parts infoRow
 have HR := Lib.hid hR; have HLL := Lib.hid hl
 clear hR hl
 go_enter Tryz.func133, Tryz.ntmps133
 go_wp2_with ((at_make; refine wpList_make_full _ rfl _ _ 22 rfl w.heap.size 25 i0 (.slice none 0 0) 1 Tryz.underlying22 hi hz0 hz1 .i64 .i64 n n n rfl rfl rfl rfl (by rw [hz2]; omega) (by unfold maxLen; omega) (Nat.le_refl _) ?_; intro w1 hown hgrow))
 have HB := Lib.hid (grown_none_below hgrow)
 have HO := Lib.hid (OwnRowsW.made hown)
 clear hown hgrow
 go_loopw [13] (fun i wr => ∃ k : Nat, k ≤ n ∧ i = .int .i64 k ∧ (∃ us, OwnRowsW wr w.heap.size (.slice (some ⟨w.heap.size, 0, none⟩) n n) (fillTo (trL rows n) [] k) us) ∧ Below w.heap.size w wr)
  (fun i _ => n - (intOf i).toNat)
 case atStart => exact ⟨0, Nat.zero_le _, rfl, ⟨_, by rw [fillTo_zero, trL_len]; exact HO.out⟩, HB.out⟩
 case round =>
  obtain ⟨k, hk, rfl, ⟨us, hown⟩, hbel⟩ := hrel
  have Hown := Lib.hid hown
  clear hown HO HB
  by_cases hlt : k < n
  ·have hsz := hbel.size
   have HL := Lib.hid (show n = (fillTo (trL rows n) [] k).length by simp [fillTo, trL_len]; omega)
   go_wp2_with ((go_at_call 140; refine (zeros_any rows.length _ (by omega)).mono ?_; rintro e w' ⟨u2, rfl, hu2, hbel2⟩; obtain ⟨A2, c2, rfl, _⟩ := hu2.view; rw [List.length_replicate] at hu2 ⊢; obtain ⟨q1, q2, ⟨v0, q3⟩, q4⟩ := OwnRowsW.set HL.out Hown.out hbel2 hu2 hsz hlt; have Q1 := Lib.hid q1; have Q2 := Lib.hid q2; clear q1 q2 hu2))
   go_loopw [24] (fun i W => ∃ m : Nat, m ≤ rows.length ∧ i = .int .i64 m ∧ (∃ us, OwnRowsW W w.heap.size (.slice (some ⟨w.heap.size, 0, none⟩) n n) ((fillTo (trL rows n) [] k).set k (fillTo (colOf rows k) 0 m)) us) ∧ Below w.heap.size w W)
    (fun i _ => rows.length - (intOf i).toNat)
   case atStart => exact ⟨0, Nat.zero_le _, rfl, ⟨_, by rw [fillTo_zero, colOf_len]; exact Q1.out⟩, hbel.trans Q2.out⟩
   case round =>
    obtain ⟨m, hm', rfl, ⟨us2, hown2⟩, hbel3⟩ := hrel
    clear q3 q4 Q1 Q2 hbel2
    by_cases hlt2 : m < rows.length
    ·obtain ⟨r, hr⟩ := get_of_lt hlt2
     obtain ⟨bb, o, rfl, hc⟩ := (HR.out.ext hbel3).here hlt2
     obtain ⟨A', cap', hck, hin⟩ := hc m r hr
     have hrl := HLL.out r (List.mem_of_getElem? hr)
     obtain ⟨x, hx⟩ := get_of_lt (show k < r.length by omega)
     obtain ⟨b2, o2, rfl, hc2⟩ := hin.here (show k < r.length by omega)
     have hcx := hc2 _ _ hx
     have hb2 : b2 < w.heap.size := by
      obtain ⟨b3, o3, e3, hc3⟩ := HR.out.here hlt2
      obtain ⟨A3, cap3, hck3, hin3⟩ := hc3 m r hr
      cases e3
      have := (ext_cell hbel3 hck3).symm.trans hck
      simp only [Option.some.injEq, Value.slice.injEq] at this
      obtain ⟨rfl, _, _⟩ := this
      obtain ⟨b4, o4, e4, hc4⟩ := hin3.here (show k < r.length by omega)
      cases e4
      exact World.block_lt_of_cell? w _ (hc4 _ _ hx)
     have hrow : ((fillTo (trL rows n) [] k).set k (fillTo (colOf rows k) 0 m))[k]? = some (fillTo (colOf rows k) 0 m) := List.getElem?_set_self (by rw [← HL.out]; exact hlt)
     have hel : (fillTo (colOf rows k) (0 : Int) m)[m]? = some 0 := fillTo_get _ _ _ (by rw [colOf_len]; exact hlt2)
     obtain ⟨g, A9, c9, e9, hu9, hc9, _⟩ := hown2.at hrow
     cases e9
     obtain ⟨ga, c, hu, hca, hfa, hga1, hga2, hga3, hst⟩ := hown2.ent hrow hel
     rw [hu9] at hu
     simp only [Option.some.injEq, Value.slice.injEq] at hu
     obtain ⟨rfl, _, rfl⟩ := hu
     obtain ⟨s1, s2⟩ := hst x
     rw [List.set_set, fillTo_set _ _ _ _ (colOf_get hr hx)] at s1
     have S1 := Lib.hid s1
     have S2 := Lib.hid (hbel3.setCell (p := ⟨ga, m, none⟩) hga1 (.int .i64 x))
     have hne : w.heap.size ≠ ga := fun e => hga3 (by rw [← e]; rfl)
     have hne2 : b2 ≠ ga := by omega
     have hkr : k < r.length := by omega
     have hlf : (fillTo (colOf rows k) (0 : Int) m).length = rows.length := by simp [fillTo, colOf_len]; omega
     rw [hlf] at hc9
     clear hr hc hin hx hc2 hrow hel hu9 hst s1 s2 hown2 hlf
     go_wp2_with fail
     go_region_held3 (fun w' => w'.cell? ⟨w.heap.size, k, none⟩ = some (.slice (some ⟨ga, 0, none⟩) rows.length c9) ∧ w'.cell? ⟨b2, o2 + k, none⟩ = some (.int .i64 x))
      (first | (simp [*]; done) | (refine ⟨?_, ?_⟩ <;> (first | (refine (cell_set_ne2 (by simp <;> omega)).trans ?_; assumption) | (refine (cell_set_ne' (by simp <;> omega)).trans ?_; assumption)))) (fail)
     go_wp2
     go_roundw
     case rel => exact ⟨m+1, by omega, by go_num, ⟨_, S1.out.ext (Below.refl _ _).drew⟩, S2.out.drew⟩
     case measure => simp [intOf]; omega
    ·have hm2 : m = rows.length := by omega
     have hlast : (fillTo (trL rows n) [] k).set k (fillTo (colOf rows k) 0 m) = fillTo (trL rows n) [] (k + 1) := by
      rw [fillTo_all (colOf rows k) (0 : Int) m (by rw [colOf_len]; omega)]; exact fillTo_set _ _ _ _ (trL_get hlt)
     rw [hlast] at hown2
     have H2 := Lib.hid hown2
     clear hlast hown2 hm2
     go_wp2
     go_roundw
     case rel => exact ⟨k+1, by omega, by go_num, ⟨_, H2.out⟩, hbel3⟩
     case measure => simp [intOf]; omega
  ·go_wp2
   go_ret
   have h := Hown.out
   rw [fillTo_all _ _ _ (by rw [trL_len]; omega)] at h
   exact ⟨_, rfl, ⟨_, h⟩, hbel⟩
theorem Shp.el {p : Int} {N n : Nat} {M : List (List Int)} (h : Shp p N n M) : ∀ r ∈ M, ∀ x ∈ r, 0 ≤ x ∧ x < p := fun r hr x hx => by
 obtain ⟨i, hi⟩ := List.mem_iff_getElem?.1 hr
 obtain ⟨d, hd⟩ := List.mem_iff_getElem?.1 hx
 have hil := (List.getElem?_eq_some_iff.1 hi).1
 have hdl := (List.getElem?_eq_some_iff.1 hd).1
 have := h.2.2 i d (by rw [← h.1]; exact hil) (by rw [← h.row r hr]; exact hdl)
 unfold eM at this
 rwa [getD_some hi, getD_some hd] at this
theorem HasW.inner {w w' : World} {lo hi k : Nat} {v u : Value} {M : List (List Int)} {us : List Value} {r' : List Int} (h : HasW w lo hi v M us) (hk : us[k]? = some u) (hgr : w.grownBy w' u.ownBlock) (hu' : OwnInts w' lo u r') : HasW w' lo hi v (M.set k r') us :=
 ⟨h.own.inner hk hgr hu', h.up, h.ups⟩
theorem HasW.swap {w : World} {lo hi g n cap i j : Nat} {M : List (List Int)} {us : List Value} {ui uj : Value} {ri rj : List Int} (h : HasW w lo hi (.slice (some ⟨g, 0, none⟩) n cap) M us) (hn : n = M.length)
  (hi' : us[i]? = some ui) (hj : us[j]? = some uj) (hri : M[i]? = some ri) (hrj : M[j]? = some rj) :
  HasW ((w.setCell ⟨g, i, none⟩ uj).setCell ⟨g, j, none⟩ ui) lo hi (.slice (some ⟨g, 0, none⟩) n cap) ((M.set i rj).set j ri) ((us.set i uj).set j ui) :=
 ⟨h.own.swap hn hi' hj hri hrj, h.up, fun u hu b hb => by
  rcases mem_set hu with h1 | rfl
  ·rcases mem_set h1 with h1 | rfl
   ·exact h.ups u h1 b hb
   ·exact h.ups _ (List.mem_of_getElem? hj) b hb
  ·exact h.ups _ (List.mem_of_getElem? hi') b hb⟩
/-- What a change in place hands back. -/
def Chg (lo hi : Nat) (v : Value) (M : List (List Int)) (w : World) (e : Ending) (w' : World) : Prop := e = .returned (.tuple #[]) ∧ Has w' lo hi v M ∧ Within lo hi w w'
set_option maxRecDepth 100000 in
set_option maxHeartbeats 4000000 in
theorem applySw_any (p c : Int) (a b lo hi n cap : Nat) (A : Option Addr) (M : List (List Int)) (us : List Value) (w : World) (h : HasW w lo hi (.slice A n cap) M us) (hiw : hi ≤ w.heap.size) (ha : a < M.length) (hb : b < M.length) (hab : a ≠ b) :
  Calls Tryz.prog 144 #[.agg #[.int .i64 0, .int .i64 a, .int .i64 b, .int .i64 c], .int .i64 p, .slice A n cap] w (Chg lo hi (.slice A n cap) (swL M a b) w) := by
 obtain ⟨ra, hra⟩ := get_of_lt ha
 obtain ⟨rb, hrb⟩ := get_of_lt hb
 have HSW := Lib.hid (show swL M a b = (M.set a rb).set b ra by unfold swL; rw [getD_some hra, getD_some hrb])
 have hn : n = M.length := by
  obtain ⟨g, cap', e, _⟩ := h.own.form (by omega)
  simp only [Value.slice.injEq] at e; exact e.2.1
 subst hn
 go_enter Tryz.func144, Tryz.ntmps144
 go_upto_region 3 with (fail)
 have hB : Below w.heap.size w (w.alloc (.cells #[.int .i64 0, .int .i64 a, .int .i64 b, .int .i64 c] 147)) := (Below.refl _ _).alloc (Nat.le_refl _) _
 have h2 := h.ext hB
 obtain ⟨g, Aa, ca, rfl, hua, hca, hfa, hg1, hg2, _⟩ := h2.own.at hra
 obtain ⟨g', Ab, cb, e', hub, hcb, hfb, _⟩ := h2.own.at hrb
 cases e'
 have hgh := h.up g rfl
 have hq : (w.alloc (.cells #[.int .i64 0, .int .i64 a, .int .i64 b, .int .i64 c] 147)).heap[w.heap.size]? = some (.cells #[.int .i64 0, .int .i64 a, .int .i64 b, .int .i64 c] 147 (0, 0)) := heap_at _ _ rfl
 obtain ⟨W2, hW2⟩ : ∃ W2, W2 = w.alloc (.cells #[.int .i64 0, .int .i64 a, .int .i64 b, .int .i64 c] 147) := ⟨_, rfl⟩
 rw [← hW2] at hB h2 hca hfa hcb hfb hq ⊢
 have x0 := blk_cell hq 0
 have x1 := blk_cell hq 1
 have x2 := blk_cell hq 2
 have x3 := blk_cell hq 3
 simp only [List.getElem?_cons_zero, List.getElem?_cons_succ] at x0 x1 x2 x3
 have hsw := h2.swap rfl hua hub hra hrb
 have HS := Lib.hid hsw
 have HE := Lib.hid ((Within.of_below (lo := lo) (hi := hi) hB).trans ((Within.of_grown (b := g) (w := W2) (w' := (W2.setCell ⟨g, a, none⟩ (.slice Ab rb.length cb)).setCell ⟨g, b, none⟩ (.slice Aa ra.length ca)) (grownBy_trans (h2.own.outer.stored a _).2 ((h2.own.outer.stored a (.slice Ab rb.length cb)).1.stored b _).2) hg1 hgh)))
 have hne : g ≠ w.heap.size := by omega
 clear hW2 hsw hua hub hra hrb hq hB h2 h
 refine wp_region_held_drew (S := fun w' => w'.cell? ⟨w.heap.size, 1, none⟩ = some (.int .i64 a) ∧ w'.cell? ⟨w.heap.size, 2, none⟩ = some (.int .i64 b)) (by kernel_rfl) (by simp [*]) (fun hHeld => ?_)
 refine takeHQ 0 (v := ?_) rfl (Or.inl ⟨by rfl, ?_⟩) ?_
 rotate_left
 ·intro w h; (try dsimp only at h); go_simp; (try with_reducible rfl)
 simp only [Act.put, List.setIfInBounds_toArray, List.set_cons_zero, List.set_cons_succ]
 refine takeHQ 1 (v := ?_) rfl (Or.inl ⟨by rfl, ?_⟩) ?_
 rotate_left
 ·intro w h; (try dsimp only at h); go_simp; (try with_reducible rfl)
 simp only [Act.put, List.setIfInBounds_toArray, List.set_cons_zero, List.set_cons_succ]
 refine takeHQ 2 (v := ?_) rfl (Or.inl ⟨by rfl, ?_⟩) ?_
 rotate_left
 ·intro w h; (try dsimp only at h); go_simp; (try with_reducible rfl)
 simp only [Act.put, List.setIfInBounds_toArray, List.set_cons_zero, List.set_cons_succ]
 refine takeHQ 3 (v := ?_) rfl (Or.inl ⟨by rfl, ?_⟩) ?_
 rotate_left
 ·intro w h; (try dsimp only at h); go_simp; (try with_reducible rfl)
 simp only [Act.put, List.setIfInBounds_toArray, List.set_cons_zero, List.set_cons_succ]
 refine takeHQ 4 (v := ?_) rfl (Or.inl ⟨by rfl, ?_⟩) ?_
 rotate_left
 ·intro w h; (try dsimp only at h); go_simp; (try with_reducible rfl)
 simp only [Act.put, List.setIfInBounds_toArray, List.set_cons_zero, List.set_cons_succ]
 refine takeHQ 5 (v := ?_) rfl (Or.inl ⟨by rfl, ?_⟩) ?_
 rotate_left
 ·intro w h; (try dsimp only at h); go_simp; (try with_reducible rfl)
 simp only [Act.put, List.setIfInBounds_toArray, List.set_cons_zero, List.set_cons_succ]
 refine takeHQ 6 (v := ?_) rfl (Or.inl ⟨by rfl, ?_⟩) ?_
 rotate_left
 ·intro w h; (try dsimp only at h); go_simp; (try with_reducible rfl)
 simp only [Act.put, List.setIfInBounds_toArray, List.set_cons_zero, List.set_cons_succ]
 refine takeHQ 7 (v := ?_) rfl (Or.inl ⟨by rfl, ?_⟩) ?_
 rotate_left
 ·intro w h; (try dsimp only at h); go_simp; (try with_reducible rfl)
 simp only [Act.put, List.setIfInBounds_toArray, List.set_cons_zero, List.set_cons_succ]
 refine takeHQ 8 (v := ?_) rfl (Or.inl ⟨by rfl, ?_⟩) ?_
 rotate_left
 ·intro w h; (try dsimp only at h); go_simp; (try with_reducible rfl)
 simp only [Act.put, List.setIfInBounds_toArray, List.set_cons_zero, List.set_cons_succ]
 refine takeHQ 9 (v := ?_) rfl (Or.inl ⟨by rfl, ?_⟩) ?_
 rotate_left
 ·intro w h; (try dsimp only at h); go_simp; (try with_reducible rfl)
 simp only [Act.put, List.setIfInBounds_toArray, List.set_cons_zero, List.set_cons_succ]
 refine takeHQ 11 (v := ?_) rfl (Or.inl ⟨by rfl, ?_⟩) ?_
 rotate_left
 ·intro w h; (try dsimp only at h); go_simp; (try with_reducible rfl)
 simp only [Act.put, List.setIfInBounds_toArray, List.set_cons_zero, List.set_cons_succ]
 refine takeHQ 12 (v := ?_) rfl (Or.inl ⟨by rfl, ?_⟩) ?_
 rotate_left
 ·intro w h; (try dsimp only at h); go_simp; (try with_reducible rfl)
 simp only [Act.put, List.setIfInBounds_toArray, List.set_cons_zero, List.set_cons_succ]
 refine takeHQ 13 (v := ?_) rfl (Or.inl ⟨by rfl, ?_⟩) ?_
 rotate_left
 ·intro w h; (try dsimp only at h); go_simp; (try with_reducible rfl)
 simp only [Act.put, List.setIfInBounds_toArray, List.set_cons_zero, List.set_cons_succ]
 refine takeHQ 14 (v := ?_) rfl (Or.inl ⟨by rfl, ?_⟩) ?_
 rotate_left
 ·intro w h; (try dsimp only at h); go_simp; (try with_reducible rfl)
 simp only [Act.put, List.setIfInBounds_toArray, List.set_cons_zero, List.set_cons_succ]
 refine wpAnyH_ready (rs := [10, 15]) (by kernel_rfl) (by simp) ?_
 refine consH rfl (fun K hK => ?_) (consH rfl (fun K hK => ?_) AllReadyH.nil)
 ·go_simp
  refine hK.out _ _ (by assumption) (fun hHeld => ?_)
  clear hK K
  try simp only [Act.put, List.setIfInBounds_toArray, List.set_cons_zero, List.set_cons_succ]
  refine wpAnyH_ready (rs := [15]) (by kernel_rfl) (by simp) ?_
  refine consH rfl (fun K hK => ?_) AllReadyH.nil
  go_simp
  refine hK.out _ _ (by assumption) (fun hHeld => ?_)
  clear hK K
  try simp only [Act.put, List.setIfInBounds_toArray, List.set_cons_zero, List.set_cons_succ]
  refine takeHQ 16 (v := ?_) rfl (Or.inl ⟨by rfl, ?_⟩) ?_
  rotate_left
  ·intro w h; (try dsimp only at h); go_simp; (try with_reducible rfl)
  simp only [Act.put, List.setIfInBounds_toArray, List.set_cons_zero, List.set_cons_succ]
  refine wpAnyH_ready (rs := [17]) (by kernel_rfl) (by simp) ?_
  refine consH rfl (fun K hK => ?_) AllReadyH.nil
  go_simp
  refine hK.out _ _ (by refine ⟨?_, ?_⟩ <;> (refine (cell_set_ne2 (by simp <;> omega)).trans ?_; assumption)) (fun hHeld => ?_)
  clear hK K
  try simp only [Act.put, List.setIfInBounds_toArray, List.set_cons_zero, List.set_cons_succ]
  refine takeHQ 18 (v := ?_) rfl (Or.inl ⟨by rfl, ?_⟩) ?_
  rotate_left
  ·intro w h; (try dsimp only at h); go_simp; (try with_reducible rfl)
  simp only [Act.put, List.setIfInBounds_toArray, List.set_cons_zero, List.set_cons_succ]
  refine wpAnyH_ready (rs := [19]) (by kernel_rfl) (by simp) ?_
  refine consH rfl (fun K hK => ?_) AllReadyH.nil
  have z3 : (W2.drew.setCell ⟨g, a, none⟩ (.slice Ab rb.length cb)).cell? ⟨g, b, none⟩ = some (.slice Ab rb.length cb) := by rw [World.cell?_setCell_other _ _ _ _ (by simp <;> omega)]; simpa using hcb
  have z4 : (W2.drew.setCell ⟨g, a, none⟩ (.slice Ab rb.length cb)).frozen? ⟨g, b, none⟩ = false := by simpa using hfb
  go_simp
  refine hK.out _ _ (by refine ⟨?_, ?_⟩ <;> (refine (cell_set_ne (by simp <;> omega)).trans ((cell_set_ne2 (by simp <;> omega)).trans ?_); assumption)) (fun hHeld => ?_)
  clear hK K
  refine wpAnyH_done (by kernel_rfl) ?_ _
  clear hHeld
  try dsimp only
  go_wp2
  go_end0
  refine ⟨rfl, ⟨_, by rw [HSW.out]; exact HS.out.ext (Below.refl _ _).drew⟩, HE.out.trans (Within.of_below (Below.refl _ _).drew)⟩
 ·go_simp
  refine hK.out _ _ (by assumption) (fun hHeld => ?_)
  clear hK K
  try simp only [Act.put, List.setIfInBounds_toArray, List.set_cons_zero, List.set_cons_succ]
  refine wpAnyH_ready (rs := [10]) (by kernel_rfl) (by simp) ?_
  refine consH rfl (fun K hK => ?_) AllReadyH.nil
  go_simp
  refine hK.out _ _ (by assumption) (fun hHeld => ?_)
  clear hK K
  try simp only [Act.put, List.setIfInBounds_toArray, List.set_cons_zero, List.set_cons_succ]
  refine takeHQ 16 (v := ?_) rfl (Or.inl ⟨by rfl, ?_⟩) ?_
  rotate_left
  ·intro w h; (try dsimp only at h); go_simp; (try with_reducible rfl)
  simp only [Act.put, List.setIfInBounds_toArray, List.set_cons_zero, List.set_cons_succ]
  refine wpAnyH_ready (rs := [17]) (by kernel_rfl) (by simp) ?_
  refine consH rfl (fun K hK => ?_) AllReadyH.nil
  go_simp
  refine hK.out _ _ (by refine ⟨?_, ?_⟩ <;> (refine (cell_set_ne2 (by simp <;> omega)).trans ?_; assumption)) (fun hHeld => ?_)
  clear hK K
  try simp only [Act.put, List.setIfInBounds_toArray, List.set_cons_zero, List.set_cons_succ]
  refine takeHQ 18 (v := ?_) rfl (Or.inl ⟨by rfl, ?_⟩) ?_
  rotate_left
  ·intro w h; (try dsimp only at h); go_simp; (try with_reducible rfl)
  simp only [Act.put, List.setIfInBounds_toArray, List.set_cons_zero, List.set_cons_succ]
  refine wpAnyH_ready (rs := [19]) (by kernel_rfl) (by simp) ?_
  refine consH rfl (fun K hK => ?_) AllReadyH.nil
  have z3 : (W2.drew.setCell ⟨g, a, none⟩ (.slice Ab rb.length cb)).cell? ⟨g, b, none⟩ = some (.slice Ab rb.length cb) := by rw [World.cell?_setCell_other _ _ _ _ (by simp <;> omega)]; simpa using hcb
  have z4 : (W2.drew.setCell ⟨g, a, none⟩ (.slice Ab rb.length cb)).frozen? ⟨g, b, none⟩ = false := by simpa using hfb
  go_simp
  refine hK.out _ _ (by refine ⟨?_, ?_⟩ <;> (refine (cell_set_ne (by simp <;> omega)).trans ((cell_set_ne2 (by simp <;> omega)).trans ?_); assumption)) (fun hHeld => ?_)
  clear hK K
  refine wpAnyH_done (by kernel_rfl) ?_ _
  clear hHeld
  try dsimp only
  go_wp2
  go_end0
  refine ⟨rfl, ⟨_, by rw [HSW.out]; exact HS.out.ext (Below.refl _ _).drew⟩, HE.out.trans (Within.of_below (Below.refl _ _).drew)⟩
set_option maxRecDepth 100000 in
set_option maxHeartbeats 4000000 in
theorem applyDiv_any (p c b : Int) (a lo hi n cap N m : Nat) (A : Option Addr) (M : List (List Int)) (us : List Value) (w : World) (h : HasW w lo hi (.slice A n cap) M us) (hiw : hi ≤ w.heap.size) (hf : fieldB p = true) (hc : 1 ≤ c) (hc' : c < p) (ha : a < M.length) (hs : Shp p N m M) (hm : m ≤ 1048576) :
  Calls Tryz.prog 144 #[.agg #[.int .i64 1, .int .i64 a, .int .i64 b, .int .i64 c], .int .i64 p, .slice A n cap] w (Chg lo hi (.slice A n cap) (scL p (invP p c) M a) w) := by
 obtain ⟨ra, hra⟩ := get_of_lt ha
 obtain ⟨f1, f2, f3⟩ := inv_spec hf hc hc'
 obtain ⟨p2, p97⟩ := fieldB_bd hf
 have hx := Lib.hid (hs.el ra (List.mem_of_getElem? hra))
 have hml : ra.length < 9223372036854775807 := by have := hs.row ra (List.mem_of_getElem? hra); omega
 obtain ⟨F, hF⟩ : ∃ F, F = invP p c := ⟨_, rfl⟩
 have HSC := Lib.hid (show scL p (invP p c) M a = M.set a (mulRow p F ra) by unfold scL; rw [getD_some hra, hF])
 have INV := Lib.hid (fun w => (by rw [hF]; exact inverse_any p c w hf hc hc' : Calls Tryz.prog 116 #[.int .i64 p, .int .i64 c] w fun e w' => e = .returned (.int .i64 F) ∧ w = w'))
 rw [← hF] at f2 f3
 clear f1 hF hs hf
 have hn : n = M.length := by
  obtain ⟨g, cap', e, _⟩ := h.own.form (by omega)
  simp only [Value.slice.injEq] at e; exact e.2.1
 subst hn
 go_enter Tryz.func144, Tryz.ntmps144
 go_upto_region 5 with (fail)
 have hB : Below w.heap.size w (w.alloc (.cells #[.int .i64 1, .int .i64 a, .int .i64 b, .int .i64 c] 147)) := (Below.refl _ _).alloc (Nat.le_refl _) _
 have h2 := h.ext hB
 obtain ⟨g, Aa, ca, rfl, hua, hca, hfa, hg1, hg2, hoa⟩ := h2.own.at hra
 have hgh := h.up g rfl
 have hq : (w.alloc (.cells #[.int .i64 1, .int .i64 a, .int .i64 b, .int .i64 c] 147)).heap[w.heap.size]? = some (.cells #[.int .i64 1, .int .i64 a, .int .i64 b, .int .i64 c] 147 (0, 0)) := heap_at _ _ rfl
 obtain ⟨W2, hW2⟩ : ∃ W2, W2 = w.alloc (.cells #[.int .i64 1, .int .i64 a, .int .i64 b, .int .i64 c] 147) := ⟨_, rfl⟩
 rw [← hW2] at hB h2 hca hfa hq hoa ⊢
 have x1 := blk_cell hq 1
 have x3 := blk_cell hq 3
 simp only [List.getElem?_cons_zero, List.getElem?_cons_succ] at x1 x3
 have hups := h2.ups _ (List.mem_of_getElem? hua)
 have H2 := Lib.hid h2; have HUA := Lib.hid hua; have HOA := Lib.hid hoa; have HB := Lib.hid hB; have HUP := Lib.hid hups
 have hap := Lib.hid (apart_types' h2.own.outer hoa)
 have hne : g ≠ w.heap.size := by omega
 clear hW2 hua hq hB h2 h hra hoa hups
 go_wp2_with ((go_at_call 116; refine (INV.out _).mono ?_; rintro e w' ⟨rfl, rfl⟩))
 go_loopw [43] (fun i wr => ∃ k : Nat, k ≤ ra.length ∧ i = .int .i64 k ∧ wr.ownsRow lo 3 1 (.slice Aa ra.length ca) ra.length ((mulTo p F ra k).map (Value.int .i64)) ∧ W2.grownBy wr (Value.slice Aa ra.length ca).ownBlock)
  (fun i _ => ra.length - (intOf i).toNat)
 case atStart => exact ⟨0, Nat.zero_le _, rfl, by rw [mulTo_zero]; exact HOA.out, ⟨rfl, rfl, rfl, Nat.le_refl _, fun _ _ _ => rfl⟩⟩
 case round =>
  obtain ⟨k, hk, rfl, hown, hgr⟩ := hrel
  by_cases hlt : k < ra.length
  ·obtain ⟨x, hx'⟩ := get_of_lt hlt
   obtain ⟨ga, rfl, hga, _⟩ := own_at1 HOA.out (by omega)
   have hga' := HUP.out ga rfl
   have hne2 : g ≠ ga := by
    rcases hap.out with h | h
    ·cases h
    ·exact fun e => h (by rw [e]; rfl)
   have y1 : wr.cell? ⟨w.heap.size, 1, none⟩ = some (.int .i64 a) := hgr.cell x1 (by simp [Value.ownBlock]; omega)
   have y3 : wr.cell? ⟨g, a, none⟩ = some (.slice (some ⟨ga, 0, none⟩) ra.length ca) := hgr.cell hca (by simp [Value.ownBlock]; omega)
   have hcx : wr.cell? ⟨ga, k, none⟩ = some (.int .i64 x) := by
    rw [hown.cellAt k (by omega), List.getElem?_map, mulTo_get _ _ _ _ hlt, hx']; rfl
   have hfr := hown.frozenAt k
   obtain ⟨v1, v2⟩ := hx.out x (List.mem_of_getElem? hx')
   have m0 : 0 ≤ x * F := Int.mul_nonneg v1 (by omega)
   have m1 : x * F ≤ 1000000 := by
    have := Int.mul_le_mul (show x ≤ 97 by omega) (show F ≤ 97 by omega) (by omega) (by omega)
    omega
   have hst := hown.stored k (.int .i64 (x * F % p))
   rw [← List.map_set, mulTo_set _ _ _ _ _ hx'] at hst
   have HS := Lib.hid hst.1
   have HG := Lib.hid (grownBy_trans hgr hst.2)
   have h1 := Int.emod_nonneg (x * F) (show p ≠ 0 by omega)
   have h2 := Int.emod_lt_of_pos (x * F) (show 0 < p by omega)
   have h0 : ¬ p = 0 := by omega
   have h3 : (x * F).tmod p = x * F % p := Int.tmod_eq_emod_of_nonneg m0
   clear hst hx' hown hgr x1 x3 hca hx
   go_wp2_with fail
   go_region_held3 (fun w' => w'.cell? ⟨w.heap.size, 1, none⟩ = some (.int .i64 a) ∧ w'.cell? ⟨g, a, none⟩ = some (.slice (some ⟨ga, 0, none⟩) ra.length ca))
    (first | (simp [*]; done) | (refine ⟨?_, ?_⟩ <;> (first | (refine (cell_set_ne2 (by simp <;> omega)).trans ?_; assumption) | (refine (cell_set_ne' (by simp <;> omega)).trans ?_; assumption)))) (fail)
   go_wp2
   go_roundw
   case rel => exact ⟨k+1, by omega, by go_num, HS.out, grownBy_trans HG.out (grownBy_drew _ _)⟩
   case measure => simp [intOf]; omega
  ·have hk' : k = ra.length := by omega
   subst hk'
   rw [mulTo_all p F ra ra.length (Nat.le_refl _)] at hown
   have HN := Lib.hid (H2.out.inner (r' := mulRow p F ra) HUA.out hgr (by unfold OwnInts; rw [show (mulRow p F ra).length = ra.length by simp [mulRow]]; exact hown))
   have HE := Lib.hid (show Within lo hi w wr from (Within.of_below HB.out).trans (by
    cases hb : (Value.slice Aa ra.length ca).ownBlock with
    | none => rw [hb] at hgr; exact Within.of_below ⟨hgr.os, hgr.tape, hgr.output, hgr.size, fun k hk => hgr.block k hk (by simp)⟩
    | some b => rw [hb] at hgr; exact Within.of_grown hgr (HOA.out.lt b hb).1 (HUP.out b hb)))
   clear hown hgr hca x1 x3 hx
   go_wp2
   go_end0
   exact ⟨rfl, ⟨_, by rw [HSC.out]; exact HN.out⟩, HE.out⟩
end Go.Proofs.YtjdbfokbgmbphaaGreatDoor
