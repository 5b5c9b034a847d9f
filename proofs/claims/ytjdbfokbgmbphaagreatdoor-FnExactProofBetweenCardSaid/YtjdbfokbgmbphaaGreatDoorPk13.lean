/- The reference's stMake, kinds 6 and 8. Conditions: a system of moderate size, a possible step. -/
import Derived.Test.YtjdbfokbgmbphaaGreatDoorPk9
import Derived.Test.YtjdbfokbgmbphaaGreatDoorPk12
namespace Go.Proofs.YtjdbfokbgmbphaaGreatDoor
set_option linter.unusedVariables false
set_option linter.unusedSimpArgs false
open Go.RowKit
theorem cut_ints (W : World) (B g cap j : Nat) (xs : List Int) (h : OwnInts W B (.slice (some ⟨g, 0, none⟩) xs.length cap) xs) (hj : j < xs.length) :
  ∃ (A9 : Addr) (news : List Value) (W5 : World), Hid (W5 = W.setCells g (0 + j * 1) news) ∧ (if cap = j + 1 then some (⟨g, 0, none⟩ : Addr) else some ⟨g, j + 1, none⟩) = some A9 ∧
   Hid (∀ t u, news[t]? = some u → W.cell? (A9.add t) = some u) ∧ Hid (news.length = (xs.length - (j + 1)) * 1) ∧ Hid (∀ u ∈ news, u.oneCell' = true) ∧
   Hid (∀ t, t < news.length → (W.cell? ⟨g, 0 + j * 1 + t, none⟩).isSome = true ∧ W.frozen? ⟨g, 0 + j * 1 + t, none⟩ = false) ∧
   Hid (W.grownBy W5 (some g)) ∧ Hid (OwnInts W5 B (.slice (some ⟨g, 0, none⟩) (xs.length - 1) cap) (xs.eraseIdx j)) ∧ xs.length ≤ cap := by
 obtain ⟨us, hus⟩ : ∃ us, us = xs.map (Value.int .i64) := ⟨_, rfl⟩
 have h1 : ∀ u ∈ us, u.oneCell' = true := by rw [hus]; intro u hu; simp at hu; obtain ⟨x, _, rfl⟩ := hu; rfl
 unfold OwnInts at h
 rw [← hus] at h
 obtain ⟨news, hnews⟩ : ∃ news, news = us.drop (j + 1) := ⟨_, rfl⟩
 obtain ⟨hus0, ⟨hx0, _⟩ | ⟨g', cap', cur, hv0, hB0, hg0, hnc0, hcm0, hcs0, htake0⟩⟩ := h
 ·cases hx0
 cases hv0
 simp only [Nat.mul_one] at hus0 hcs0 htake0
 have hlen : news.length = xs.length - (j + 1) := by rw [hnews]; simp [hus0]
 have hcell : ∀ t, t < xs.length → cur.toList[t]? = us[t]? := fun t ht => by rw [← htake0, List.getElem?_take, if_pos ht]
 have hsrc : ∀ t u, news[t]? = some u → t < xs.length - (j + 1) := fun t u hu => by
  have := (List.getElem?_eq_some_iff.1 hu).1; rwa [hlen] at this
 obtain ⟨A9, hA, hsrc⟩ : ∃ A9 : Addr, (if cap = j + 1 then some (⟨g, 0, none⟩ : Addr) else some ⟨g, j + 1, none⟩) = some A9 ∧ (∀ t u, news[t]? = some u → W.cell? (A9.add t) = some u) := by
  by_cases hc : cap = j + 1
  ·refine ⟨⟨g, 0, none⟩, by simp [hc], fun t u hu => ?_⟩
   have := hsrc t u hu
   omega
  ·refine ⟨⟨g, j + 1, none⟩, by simp [hc], fun t u hu => ?_⟩
   have ht := hsrc t u hu
   rw [addr_add]
   rw [blk_cell hg0, hcell _ (by omega), ← hu, hnews, List.getElem?_drop]
 have hb5 := setCells_block g 3 news (0 + j * 1) W cur hg0 (by rw [hlen]; omega)
 refine ⟨A9, news, _, Lib.hid rfl, hA, Lib.hid hsrc, Lib.hid (by rw [Nat.mul_one]; exact hlen), Lib.hid ?_, Lib.hid ?_, Lib.hid hb5.2, Lib.hid ?_, hnc0⟩
 ·intro u hu
  rw [hnews] at hu
  exact h1 u (List.mem_of_mem_drop hu)
 ·intro t ht
  rw [hlen] at ht
  refine ⟨?_, blk_free hg0 _⟩
  rw [blk_cell hg0, List.getElem?_eq_getElem (by simp; omega)]
  rfl
 ·unfold OwnInts
  rw [← erase_map, ← hus, List.length_eraseIdx_of_lt hj]
  refine ⟨by simp [List.length_eraseIdx, hus0]; omega, Or.inr ⟨g, cap, _, rfl, hB0, hb5.1, by omega, hcm0, ?_, ?_⟩⟩
  ·rw [List.size_toArray, splice_len _ _ _ (by simp [hlen]; omega)]
   simpa using hcs0
  ·simp only [Nat.mul_one, Nat.zero_add]
   rw [show xs.length - 1 = j + news.length by omega, take_splice_all _ _ _ (by simp; omega), hnews, List.eraseIdx_eq_take_drop_succ, ← htake0, List.take_take, Nat.min_eq_left (by omega)]
set_option maxRecDepth 100000 in
set_option maxHeartbeats 8000000 in
theorem sm_solve (p v h a b c : Int) (A : Option Addr) (cap : Nat) (rows : List (List Int)) (w : World) (XA : Option Addr) (n xcap : Nat) (hR : RowsAt w A rows) (hm : rows.length ≤ 160) (hms : ∀ r ∈ rows, r.length ≤ 1000) (ha : 0 ≤ a) (ha' : a < rows.length) (hv : 0 ≤ v) (hv' : v ≤ 1000) (hb : 0 ≤ b) (hb' : b ≤ 1000) (hh : 1 ≤ h) (hh' : h ≤ 1000) (hlen : ∀ r ∈ rows, v + b < r.length) :
  Calls Tryz.prog 49 #[.int .i64 p, .agg #[.int .i64 v, .int .i64 h, .slice A rows.length cap], .agg #[.int .i64 6, .int .i64 a, .int .i64 b, .int .i64 c, .slice XA n xcap]] w fun e w' =>
   ∃ u, e = .returned (.agg #[.int .i64 v, .int .i64 (h - 1), u]) ∧ OwnRows w' w.heap.size u ((rows.map (fun r => r.eraseIdx (v + b).toNat)).eraseIdx a.toNat) ∧ Below w.heap.size w w' := by
 obtain ⟨q, hq⟩ := Int.eq_ofNat_of_zero_le (show 0 ≤ v + b by omega)
 have hqn : (v + b).toNat = q := by omega
 rw [hqn]
 have HLEN := Lib.hid (show ∀ r ∈ rows.eraseIdx a.toNat, (q : Int) < r.length ∧ r.length ≤ 1000 from fun r hr => ⟨by have := hlen r (List.mem_of_mem_eraseIdx hr); omega, hms r (List.mem_of_mem_eraseIdx hr)⟩)
 clear hlen
 have hwq : IntKind.i64.wrap (v + b) = (q : Int) := by rw [IntKind.wrap_i64]; omega
 have hwh : IntKind.i64.wrap (h - 1) = h - 1 := by rw [IntKind.wrap_i64]; omega
 have HM := Lib.hid (show rows.length ≤ 1048576 by omega)
 have HMS := Lib.hid (show ∀ r ∈ rows, r.length ≤ 1048576 from fun r hr => by have := hms r hr; omega)
 go_enter Tryz.func49, Tryz.ntmps49
 go_wp2_with fail
 refine (stOwn_any _ _ _ _ _ _ (hR.ext (((Below.refl _ _).alloc (by simp) _ |>.alloc (by simp) _).alloc (by simp <;> omega) _)) HM.out HMS.out).mono ?_
 rintro e w1 ⟨u, rfl, ⟨us, hu⟩, hb1⟩
 obtain ⟨gA, gcap, rfl, _, _, _⟩ := OwnRows.view ⟨us, hu⟩
 obtain ⟨q0, q1, q2⟩ := heap_at3 w (.cells #[.int .i64 v, .int .i64 h, .slice A rows.length cap] 30) (.cells #[.int .i64 6, .int .i64 a, .int .i64 b, .int .i64 c, .slice XA n xcap] 34) (.cells #[.int .i64 0, .int .i64 0, .slice none 0 0] 30)
 have hsz1 := hb1.size
 simp only [World.size_alloc] at hsz1
 go_upto_region 2 with (fail)
 obtain ⟨W2, hW2⟩ : ∃ W2, W2 = w1.alloc (.cells #[.int .i64 v, .int .i64 h, .slice gA rows.length gcap] 30) := ⟨_, rfl⟩
 rw [← hW2]
 have hb2 : Below w1.heap.size w1 W2 := by rw [hW2]; exact (Below.refl _ _).alloc (Nat.le_refl _) _
 have hsz2 : W2.heap.size = w1.heap.size + 1 := by rw [hW2]; simp
 have hb02 := hb1.trans (hb2.mono hb1.size)
 have m2 : W2.heap[w1.heap.size]? = some (.cells #[.int .i64 v, .int .i64 h, .slice gA rows.length gcap] 30 (0, 0)) := by rw [hW2]; exact heap_at _ _ rfl
 have k0 := boxb hb02 q0
 have k1 := boxb hb02 q1
 have k2 := boxb hb02 q2
 have hu2 : OwnRowsW W2 (w.heap.size + 3) (.slice gA rows.length gcap) rows us := (hu.ext hb2).mono (by simp)
 have hub : ∀ g', gA = some ⟨g', 0, none⟩ → g' < w1.heap.size := fun g' e => by subst e; exact (World.ownsRow.lt hu.outer g' rfl).2
 have hin : ∀ (k : Nat) (x : Value), us[k]? = some x → ∀ b, x.ownBlock = some b → b < w1.heap.size := fun k x hx b hb => by obtain ⟨r, _, ho⟩ := hu.getR hx; exact (ho.lt b hb).2
 have hb3 : Below w.heap.size w W2 := (below_alloc3 w _ _ _).trans (hb02.mono (by simp <;> omega))
 clear hu hb1 hb2 hb02 hR hms q0 q1 q2 hW2
 obtain ⟨j, rfl⟩ := Int.eq_ofNat_of_zero_le ha
 obtain ⟨g, hgv, hgB, hgl⟩ : ∃ g, gA = some ⟨g, 0, none⟩ ∧ w.heap.size + 3 ≤ g ∧ g < W2.heap.size := own_at hu2 (by omega)
 subst hgv
 have hgu := hub g rfl
 obtain ⟨i0, hi0, hz0, hz1, hz2⟩ := info_parts infoRow
 obtain ⟨news, hnews⟩ : ∃ news, news = us.drop (j + 1) := ⟨_, rfl⟩
 obtain ⟨hus0, ⟨hx0, _⟩ | ⟨g', cap', cur, hv0, hB0, hg0, hnc0, hcm0, hcs0, htake0⟩⟩ := hu2.outer
 ·cases hx0
 cases hv0
 simp only [Nat.mul_one] at hus0 hcs0 htake0
 have hlen : news.length = rows.length - (j + 1) := by rw [hnews]; simp [hus0]
 have hcell : ∀ t, t < rows.length → cur.toList[t]? = us[t]? := fun t ht => by rw [← htake0, List.getElem?_take, if_pos ht]
 obtain ⟨A9, hA, hsrc⟩ : ∃ A9 : Addr, (if gcap = j + 1 then some (⟨g, 0, none⟩ : Addr) else some ⟨g, j + 1, none⟩) = some A9 ∧ Hid (∀ t u, news[t]? = some u → W2.drew.cell? (A9.add t) = some u) := by
  by_cases hc : gcap = j + 1
  ·refine ⟨⟨g, 0, none⟩, by simp [hc], fun t u hu => ?_⟩
   have h0 : news.length = 0 := by rw [hlen]; omega
   rw [List.length_eq_zero_iff.1 h0] at hu
   simp at hu
  ·refine ⟨⟨g, j + 1, none⟩, by simp [hc], fun t u hu => ?_⟩
   have ht : t < rows.length - (j + 1) := by have := (List.getElem?_eq_some_iff.1 hu).1; rwa [hlen] at this
   rw [addr_add]
   show W2.cell? _ = _
   rw [blk_cell hg0, hcell _ (by omega), ← hu, hnews, List.getElem?_drop]
 have s1 : Hid (news.length = (rows.length - (j + 1)) * 1) := by rw [Nat.mul_one]; exact hlen
 have s2 : Hid (∀ u ∈ news, u.oneCell' = true) := by
  intro u hu
  rw [hnews] at hu
  exact own_one hu2 u (List.mem_of_mem_drop hu)
 have s3 : Hid (∀ t, t < news.length → (W2.drew.cell? ⟨g, 0 + j * 1 + t, none⟩).isSome = true ∧ W2.drew.frozen? ⟨g, 0 + j * 1 + t, none⟩ = false) := by
  intro t ht
  rw [hlen] at ht
  have hg1 : W2.drew.heap[g]? = some (.cells cur 25 (0, 0)) := hg0
  refine ⟨?_, blk_free hg1 _⟩
  rw [blk_cell hg1, List.getElem?_eq_getElem (by simp; omega)]
  rfl
 obtain ⟨W5, hW5⟩ : ∃ W5, W5 = W2.drew.setCells g (0 + j * 1) news := ⟨_, rfl⟩
 have hb5 := setCells_block g 25 news (0 + j * 1) W2.drew cur hg0 (by rw [hlen]; omega)
 rw [← hW5] at hb5
 have HGR := Lib.hid (show W2.grownBy W5 (some g) from grownBy_trans (grownBy_drew W2 (some g)) hb5.2)
 have HOW := Lib.hid (show W5.ownsRow (w.heap.size + 3) 25 1 (.slice (some ⟨g, 0, none⟩) (rows.length - 1) gcap) (rows.length - 1) (us.eraseIdx j) by
  refine ⟨by simp [List.length_eraseIdx, hus0]; omega, Or.inr ⟨g, gcap, _, rfl, hB0, hb5.1, by omega, hcm0, ?_, ?_⟩⟩
  ·rw [List.size_toArray, splice_len _ _ _ (by simp [hlen]; omega)]
   simpa using hcs0
  ·simp only [Nat.mul_one, Nat.zero_add]
   rw [show rows.length - 1 = j + news.length by omega, take_splice_all _ _ _ (by simp; omega), hnews, List.eraseIdx_eq_take_drop_succ, ← htake0, List.take_take, Nat.min_eq_left (by omega)])
 have HW5 := Lib.hid hW5
 have hjc : j ≤ gcap := by omega
 have hjc1 : j + 1 ≤ gcap := by omega
 have hjn1 : j + 1 ≤ rows.length := by omega
 have hwj : IntKind.i64.wrap ((j : Int) + 1) = (j : Int) + 1 := by rw [IntKind.wrap_i64]; omega
 have htn : ((j : Int) + 1).toNat = j + 1 := by omega
 have hji0 : (0 : Int) ≤ (j : Int) + 1 := by omega
 have hji1 : (j : Int) + 1 ≤ (rows.length : Int) := by omega
 clear hus0 hcs0 htake0 hg0 hnews hlen hW5 hb5 hcell hB0 hnc0 hcm0
 obtain ⟨y0, y1, y2, y3, y4⟩ := cells_5 k1
 obtain ⟨x0, x1, x2⟩ := cells_3 m2
 have HU := Lib.hid hu2; have HB := Lib.hid hb3; have K0 := Lib.hid k0; have K1 := Lib.hid k1; have K2 := Lib.hid k2; have M2 := Lib.hid m2
 clear hu2 hb3 hub hin k0 k1 k2 m2
 go_upto_region 22 with (fail)
 refine wp_region_T (S := fun W => W.cell? ⟨w.heap.size + 1, 1, none⟩ = some (.int .i64 j) ∧ W.cell? ⟨w1.heap.size, 2, none⟩ = some (.slice (some ⟨g, 0, none⟩) rows.length gcap)) 13 (by kernel_rfl) (by simp [*]) (fun hHeld => ?_)
 refine takeQ 0 (v := ?_) rfl (Or.inl ⟨by rfl, ?_⟩) ?_
 rotate_left
 ·intro w h; (try dsimp only at h); go_simp; (try with_reducible rfl)
 simp only [Act.put, List.setIfInBounds_toArray, List.set_cons_zero, List.set_cons_succ]
 refine takeQ 1 (v := ?_) rfl (Or.inl ⟨by rfl, ?_⟩) ?_
 rotate_left
 ·intro w h; (try dsimp only at h); go_simp; (try with_reducible rfl)
 simp only [Act.put, List.setIfInBounds_toArray, List.set_cons_zero, List.set_cons_succ]
 refine takeQ 2 (v := ?_) rfl (Or.inl ⟨by rfl, ?_⟩) ?_
 rotate_left
 ·intro w h; (try dsimp only at h); go_simp; (try with_reducible rfl)
 simp only [Act.put, List.setIfInBounds_toArray, List.set_cons_zero, List.set_cons_succ]
 refine takeQ 3 (v := ?_) rfl (Or.inl ⟨by rfl, ?_⟩) ?_
 rotate_left
 ·intro w h; (try dsimp only at h); go_simp; (try with_reducible rfl)
 simp only [Act.put, List.setIfInBounds_toArray, List.set_cons_zero, List.set_cons_succ]
 refine takeQ 4 (v := ?_) rfl (Or.inl ⟨by rfl, ?_⟩) ?_
 rotate_left
 ·intro w h; (try dsimp only at h); go_simp; (try with_reducible rfl)
 simp only [Act.put, List.setIfInBounds_toArray, List.set_cons_zero, List.set_cons_succ]
 refine takeQ 5 (v := ?_) rfl (Or.inl ⟨by rfl, ?_⟩) ?_
 rotate_left
 ·intro w h; (try dsimp only at h); go_simp; (try with_reducible rfl)
 simp only [Act.put, List.setIfInBounds_toArray, List.set_cons_zero, List.set_cons_succ]
 refine takeQ 6 (v := ?_) rfl (Or.inl ⟨by rfl, ?_⟩) ?_
 rotate_left
 ·intro w h; (try dsimp only at h); go_simp; (try with_reducible rfl)
 simp only [Act.put, List.setIfInBounds_toArray, List.set_cons_zero, List.set_cons_succ]
 refine takeQ 7 (v := ?_) rfl (Or.inl ⟨by rfl, ?_⟩) ?_
 rotate_left
 ·intro w h; (try dsimp only at h); go_simp; (try with_reducible rfl)
 simp only [Act.put, List.setIfInBounds_toArray, List.set_cons_zero, List.set_cons_succ]
 refine takeQ 8 (v := ?_) rfl (Or.inl ⟨by rfl, ?_⟩) ?_
 rotate_left
 ·intro w h; (try dsimp only at h); go_simp; (try with_reducible rfl)
 simp only [Act.put, List.setIfInBounds_toArray, List.set_cons_zero, List.set_cons_succ]
 refine takeQ 9 (v := ?_) rfl (Or.inl ⟨by rfl, ?_⟩) ?_
 rotate_left
 ·intro w h; (try dsimp only at h); go_simp; (try with_reducible rfl)
 simp only [Act.put, List.setIfInBounds_toArray, List.set_cons_zero, List.set_cons_succ]
 refine takeQ 10 (v := ?_) rfl (Or.inl ⟨by rfl, ?_⟩) ?_
 rotate_left
 ·intro w h; (try dsimp only at h); go_simp; (try with_reducible rfl)
 simp only [Act.put, List.setIfInBounds_toArray, List.set_cons_zero, List.set_cons_succ]
 refine oneT (i := 11) (by kernel_rfl) rfl (fun K hK => ?_)
 refine step_append_room rfl (.tmp 140) (.tmp 146) 22 rfl 25 i0 1 Tryz.underlying22 hi0 hz1 g 0 j gcap rfl A9 (rows.length - (j + 1)) (gcap - (j + 1)) news rfl s1.out hsrc.out s2.out (by omega) s3.out ?_
 rw [← HW5.out, show j + (rows.length - (j + 1)) = rows.length - 1 by omega]
 have hF : W5.heap[w1.heap.size]? = _ := (HGR.out.block _ (by omega) (by simp <;> omega)).trans M2.out
 have k1w : W5.heap[w.heap.size + 1]? = _ := (HGR.out.block _ (by omega) (by simp <;> omega)).trans K1.out
 have HF := Lib.hid hF
 have f2 := blk_free hF 2
 obtain ⟨z0, z1, z2⟩ := cells_3 hF
 obtain ⟨t0, t1, t2, t3, t4⟩ := cells_5 k1w
 clear hF k1w y0 y1 y2 y3 y4 x0 x1 x2
 refine hK.out _ _ (fun _ => ⟨t1, z2⟩) (fun hHeld => ?_)
 clear hK K
 try simp only [Act.put, List.setIfInBounds_toArray, List.set_cons_zero, List.set_cons_succ]
 have hHeld := hHeld (by decide)
 refine oneT (i := 12) (by kernel_rfl) rfl (fun K hK => ?_)
 go_simp
 refine hK.out _ _ (fun _ => ⟨t1, z2⟩) (fun hHeld => ?_)
 clear hK K
 try simp only [Act.put, List.setIfInBounds_toArray, List.set_cons_zero, List.set_cons_succ]
 have hHeld := hHeld (by decide)
 refine oneT (i := 13) (by kernel_rfl) rfl (fun K hK => ?_)
 go_simp
 refine hK.out _ _ (fun h => absurd h (by decide)) (fun _ => ?_)
 clear hK K
 try simp only [Act.put, List.setIfInBounds_toArray, List.set_cons_zero, List.set_cons_succ]
 refine doneT (by kernel_rfl) ?_ _
 clear z0 z1 z2 t0 t1 t2 t3 t4 f2 s1 s2 s3 hA hsrc
 obtain ⟨rows1, hr1⟩ : ∃ rows1, rows1 = rows.eraseIdx j := ⟨_, rfl⟩
 have hl1 : rows.length - 1 = rows1.length := by rw [hr1, List.length_eraseIdx_of_lt (by omega)]
 have hW := HU.out.erase (by omega) HOW.out HGR.out
 rw [← hr1, hl1] at hW
 simp only [Int.toNat_natCast] at HLEN ⊢
 rw [hl1]
 rw [← hr1] at HLEN
 have HR1 := Lib.hid hr1
 clear hr1
 obtain ⟨W7, hW7⟩ : ∃ W7, W7 = W5.setCell ⟨w1.heap.size, 2, none⟩ (.slice (some ⟨g, 0, none⟩) rows1.length gcap) := ⟨_, rfl⟩
 rw [← hW7]
 obtain ⟨us7, hus7⟩ : ∃ us7, us7 = us.eraseIdx j := ⟨_, rfl⟩
 rw [← hus7] at hW
 have hu7 := hW.setSys HF.out (j := 2) (u := .slice (some ⟨g, 0, none⟩) rows1.length gcap)
 rw [← hW7] at hu7
 have m2 := heap_setCell_same W5 w1.heap.size 2 _ _ (.slice (some ⟨g, 0, none⟩) rows1.length gcap) HF.out
 simp only [List.setIfInBounds_toArray, List.set_cons_zero, List.set_cons_succ] at m2
 rw [← hW7] at m2
 have hp7 : ∀ j, j ≠ w1.heap.size → W7.heap[j]? = W5.heap[j]? := fun j hj => by rw [hW7]; exact Below.heap_setCell _ _ _ _ hj
 have k0 := (hp7 w.heap.size (by omega)).trans ((HGR.out.block _ (by omega) (by simp <;> omega)).trans K0.out)
 have k1 := (hp7 (w.heap.size + 1) (by omega)).trans ((HGR.out.block _ (by omega) (by simp <;> omega)).trans K1.out)
 have k2 := (hp7 (w.heap.size + 1 + 1) (by omega)).trans ((HGR.out.block _ (by omega) (by simp <;> omega)).trans K2.out)
 have hb7 := (HB.out.grown HGR.out (by omega) fun b hb => by cases hb; omega).setCell (p := ⟨w1.heap.size, 2, none⟩) (by simp <;> omega) (.slice (some ⟨g, 0, none⟩) rows1.length gcap)
 rw [← hW7] at hb7
 have hsz7 : w1.heap.size < W7.heap.size := by
  have := HGR.out.size
  rw [hW7]; simp; omega
 clear HU HB K0 K1 K2 M2 HF HOW HGR hp7 hW hW7 hus7
 obtain ⟨y0, y1, y2, y3, y4⟩ := cells_5 k1
 obtain ⟨x0, x1, x2⟩ := cells_3 m2
 obtain ⟨s0, s1, s2⟩ := cells_3 k0
 have f1 := blk_free m2 1
 have HU := Lib.hid hu7; have HB := Lib.hid hb7; have K0 := Lib.hid k0; have K1 := Lib.hid k1; have K2 := Lib.hid k2; have M2 := Lib.hid m2
 clear hu7 hb7 k0 k1 k2 m2
 go_upto_region 26 with (fail)
 obtain ⟨W6, hW6⟩ : ∃ W6, W6 = W7.setCell ⟨w1.heap.size, 1, none⟩ (.int .i64 (h - 1)) := ⟨_, rfl⟩
 rw [← hW6]
 have hm6 := heap_setCell_same W7 w1.heap.size 1 _ _ (.int .i64 (h - 1)) M2.out
 simp only [List.setIfInBounds_toArray, List.set_cons_zero, List.set_cons_succ] at hm6
 rw [← hW6] at hm6
 have hp6 : ∀ j, j ≠ w1.heap.size → W6.heap[j]? = W7.heap[j]? := fun j hj => by rw [hW6]; exact Below.heap_setCell _ _ _ _ hj
 have M6 := Lib.hid hm6
 have K06 := Lib.hid ((hp6 _ (by omega)).trans K0.out)
 have K16 := Lib.hid ((hp6 _ (by omega)).trans K1.out)
 have K26 := Lib.hid ((hp6 _ (by omega)).trans K2.out)
 have hu6 := HU.out.setSys M2.out (j := 1) (u := .int .i64 (h - 1))
 rw [← hW6] at hu6
 have hb6 := HB.out.setCell (p := ⟨w1.heap.size, 1, none⟩) (by simp <;> omega) (.int .i64 (h - 1))
 rw [← hW6] at hb6
 have hsz6 : W6.heap.size = W7.heap.size := by rw [hW6]; simp
 have HU6 := Lib.hid hu6; have HB6 := Lib.hid hb6
 obtain ⟨us6, hus6⟩ : ∃ us6, us6 = us7 := ⟨_, rfl⟩
 rw [← hus6] at HU6
 clear hm6 hp6 hu6 hb6 hW6 hus6
 clear y0 y1 y2 y3 y4 x0 x1 x2 s0 s1 s2 f1
 obtain ⟨gA, hgA⟩ : ∃ gA : Option Addr, gA = some ⟨g, 0, none⟩ := ⟨_, rfl⟩
 rw [← hgA] at HU6 M6
 simp only [← hgA]
 clear hgA
 obtain ⟨y0, y1, y2, y3, y4⟩ := cells_5 K16.out
 obtain ⟨x0, x1, x2⟩ := cells_3 M6.out
 go_wp2
 go_loopw [169] (fun i wr => ∃ k : Nat, k ≤ rows1.length ∧ i = .int .i64 k ∧ (∃ usk, OwnRowsW wr (w.heap.size + 3) (.slice gA rows1.length gcap) (mapTo (fun r => r.eraseIdx q) rows1 k) usk) ∧
   wr.heap[w1.heap.size]? = some (.cells #[.int .i64 v, .int .i64 (h - 1), .slice gA rows1.length gcap] 30 (0, 0)) ∧ Below (w.heap.size + 3) W6 wr)
  (fun i _ => rows1.length - (intOf i).toNat)
 case atStart => exact ⟨0, Nat.zero_le _, rfl, ⟨us6, by rw [mapTo_zero]; exact HU6.out⟩, M6.out, Below.refl _ _⟩
 case round =>
  obtain ⟨k, hk, rfl, ⟨usk, hown⟩, hm2, hbw⟩ := hrel
  clear y0 y1 y2 y3 y4 x0 x1 x2
  by_cases hlt : k < rows1.length
  ·obtain ⟨r, hr⟩ := get_of_lt hlt
   have hrk : (mapTo (fun r => r.eraseIdx q) rows1 k)[k]? = some r := (mapTo_get _ _ _ hlt).trans hr
   obtain ⟨ur, hur, hor⟩ := hown.get hrk
   obtain ⟨hl1, hl2⟩ := HLEN.out r (List.mem_of_getElem? hr)
   obtain ⟨Ar, cr, rfl, _⟩ := hor.view
   obtain ⟨gr, rfl, hgr1, hgr2⟩ := own_at1 hor (by omega)
   obtain ⟨g, rfl, hg1, hg2⟩ := own_at hown (by rw [mapTo_len _ _ _ hk]; omega)
   have hout := hown.outer
   rw [mapTo_len _ _ _ hk] at hout
   have z0 : wr.cell? ⟨g, k, none⟩ = some (.slice (some ⟨gr, 0, none⟩) r.length cr) := by rw [hout.cellAt _ (by omega), hur]
   have y2 : wr.cell? ⟨w1.heap.size, 2, none⟩ = some (.slice (some ⟨g, 0, none⟩) rows1.length gcap) := blk_cell hm2 2
   have hne : gr ≠ w1.heap.size := fun e => by
    rcases ownsRow_neSys hor hm2 (by decide) with h1 | h1
    ·cases h1
    ·exact h1 (by rw [← e]; rfl)
   have hne2 : g ≠ w1.heap.size := fun e => by
    rcases ownsRow_neSys hown.outer hm2 (by decide) with h1 | h1
    ·cases h1
    ·exact h1 (by rw [← e]; rfl)
   have f0 := hout.frozenAt k
   have hne3 : g ≠ gr := by
    rcases apart_types' hown.outer hor with h1 | h1
    ·cases h1
    ·exact fun e => h1 (by rw [e]; rfl)
   have HO := Lib.hid hown; have HW := Lib.hid hbw; have HM2 := Lib.hid hm2; have HUR := Lib.hid hur; have HRR := Lib.hid hr
   obtain ⟨i0, hi0, hz0, hz1, hz2⟩ := info_parts infoInt
   obtain ⟨A9, news, W5, HW5, hA, hsrc, s1, s2, s3, HGR, HOU, hcr⟩ := cut_ints wr.drew (w.heap.size + 3) gr cr q r (World.ownsRow.drew hor) (by omega)
   clear hout hown hbw hm2 hrk hur hr hor
   have hwq1 : IntKind.i64.wrap ((q : Int) + 1) = (q : Int) + 1 := by rw [IntKind.wrap_i64]; omega
   have htn : ((q : Int) + 1).toNat = q + 1 := by omega
   have hqc : q ≤ cr := by omega
   have hqc1 : q + 1 ≤ cr := by omega
   have hqn1 : q + 1 ≤ r.length := by omega
   have hji0 : (0 : Int) ≤ (q : Int) + 1 := by omega
   have hji1 : (q : Int) + 1 ≤ (r.length : Int) := by omega
   have y25 : W5.cell? ⟨w1.heap.size, 2, none⟩ = some (.slice (some ⟨g, 0, none⟩) rows1.length gcap) := HGR.out.cell (w := wr.drew) y2 (by simp <;> omega)
   have z05 : W5.cell? ⟨g, k, none⟩ = some (.slice (some ⟨gr, 0, none⟩) r.length cr) := HGR.out.cell (w := wr.drew) z0 (by simp <;> omega)
   have f05 : W5.frozen? ⟨g, k, none⟩ = false := frz (w := wr.drew) HGR.out f0 z0 hne3
   have Z05 := Lib.hid z05; have F05 := Lib.hid f05; have Y25 := Lib.hid y25
   clear z05 f05 y25
   go_wp2_with fail
   refine wp_region_T (S := fun W => W.cell? ⟨w1.heap.size, 2, none⟩ = some (.slice (some ⟨g, 0, none⟩) rows1.length gcap)) 12 (by kernel_rfl) y2 (fun hHeld => ?_)
   refine takeQ 0 (v := ?_) rfl (Or.inl ⟨by rfl, ?_⟩) ?_
   rotate_left
   ·intro w h; (try dsimp only at h); go_simp; (try with_reducible rfl)
   simp only [Act.put, List.setIfInBounds_toArray, List.set_cons_zero, List.set_cons_succ]
   refine takeQ 1 (v := ?_) rfl (Or.inl ⟨by rfl, ?_⟩) ?_
   rotate_left
   ·intro w h; (try dsimp only at h); go_simp; (try with_reducible rfl)
   simp only [Act.put, List.setIfInBounds_toArray, List.set_cons_zero, List.set_cons_succ]
   refine takeQ 2 (v := ?_) rfl (Or.inl ⟨by rfl, ?_⟩) ?_
   rotate_left
   ·intro w h; (try dsimp only at h); go_simp; (try with_reducible rfl)
   simp only [Act.put, List.setIfInBounds_toArray, List.set_cons_zero, List.set_cons_succ]
   refine takeQ 3 (v := ?_) rfl (Or.inl ⟨by rfl, ?_⟩) ?_
   rotate_left
   ·intro w h; (try dsimp only at h); go_simp; (try with_reducible rfl)
   simp only [Act.put, List.setIfInBounds_toArray, List.set_cons_zero, List.set_cons_succ]
   refine takeQ 4 (v := ?_) rfl (Or.inl ⟨by rfl, ?_⟩) ?_
   rotate_left
   ·intro w h; (try dsimp only at h); go_simp; (try with_reducible rfl)
   simp only [Act.put, List.setIfInBounds_toArray, List.set_cons_zero, List.set_cons_succ]
   refine takeQ 5 (v := ?_) rfl (Or.inl ⟨by rfl, ?_⟩) ?_
   rotate_left
   ·intro w h; (try dsimp only at h); go_simp; (try with_reducible rfl)
   simp only [Act.put, List.setIfInBounds_toArray, List.set_cons_zero, List.set_cons_succ]
   refine takeQ 6 (v := ?_) rfl (Or.inl ⟨by rfl, ?_⟩) ?_
   rotate_left
   ·intro w h; (try dsimp only at h); go_simp; (try with_reducible rfl)
   simp only [Act.put, List.setIfInBounds_toArray, List.set_cons_zero, List.set_cons_succ]
   refine takeQ 7 (v := ?_) rfl (Or.inl ⟨by rfl, ?_⟩) ?_
   rotate_left
   ·intro w h; (try dsimp only at h); go_simp; (try with_reducible rfl)
   simp only [Act.put, List.setIfInBounds_toArray, List.set_cons_zero, List.set_cons_succ]
   refine takeQ 8 (v := ?_) rfl (Or.inl ⟨by rfl, ?_⟩) ?_
   rotate_left
   ·intro w h; (try dsimp only at h); go_simp; (try with_reducible rfl)
   simp only [Act.put, List.setIfInBounds_toArray, List.set_cons_zero, List.set_cons_succ]
   refine takeQ 9 (v := ?_) rfl (Or.inl ⟨by rfl, ?_⟩) ?_
   rotate_left
   ·intro w h; (try dsimp only at h); go_simp; (try with_reducible rfl)
   simp only [Act.put, List.setIfInBounds_toArray, List.set_cons_zero, List.set_cons_succ]
   refine oneT (i := 10) (by kernel_rfl) rfl (fun K hK => ?_)
   refine step_append_room rfl (.tmp 179) (.tmp 183) 25 rfl 3 i0 1 Tryz.underlying25 hi0 hz1 gr 0 q cr rfl A9 (r.length - (q + 1)) (cr - (q + 1)) news rfl s1.out hsrc.out s2.out (by omega) s3.out ?_
   rw [← HW5.out, show q + (r.length - (q + 1)) = r.length - 1 by omega]
   refine hK.out _ _ (fun _ => Y25.out) (fun hHeld => ?_)
   clear hK K z0 f0 y2
   have z0 := Z05.out
   have f0 := F05.out
   try simp only [Act.put, List.setIfInBounds_toArray, List.set_cons_zero, List.set_cons_succ]
   have hHeld := hHeld (by decide)
   refine oneT (i := 11) (by kernel_rfl) rfl (fun K hK => ?_)
   go_simp
   refine hK.out _ _ (fun _ => Y25.out) (fun hHeld => ?_)
   clear hK K
   try simp only [Act.put, List.setIfInBounds_toArray, List.set_cons_zero, List.set_cons_succ]
   have hHeld := hHeld (by decide)
   refine oneT (i := 12) (by kernel_rfl) rfl (fun K hK => ?_)
   go_simp
   refine hK.out _ _ (fun h => absurd h (by decide)) (fun _ => ?_)
   clear hK K
   try simp only [Act.put, List.setIfInBounds_toArray, List.set_cons_zero, List.set_cons_succ]
   refine doneT (by kernel_rfl) ?_ _
   have hgx := grownBy_trans (grownBy_drew wr (some gr)) HGR.out
   have hou : OwnInts W5 (w.heap.size + 3) (.slice (some ⟨gr, 0, none⟩) (r.length - 1) cr) (r.eraseIdx q) := HOU.out
   have hnew := HO.out.put (mapTo_len _ _ _ hk).symm HUR.out hgx hou (fun b hb => Or.inl hb)
   rw [mapTo_set (fun r => r.eraseIdx q) rows1 k r HRR.out] at hnew
   have HN := Lib.hid hnew
   have HM3 := Lib.hid ((heap_setCell_other W5 ⟨g, k, none⟩ w1.heap.size (.slice (some ⟨gr, 0, none⟩) (r.length - 1) cr) (by simp <;> omega)).trans ((hgx.block w1.heap.size (by have := HW.out.size; simp; omega) (by simp; omega)).trans HM2.out))
   have HB3 := Lib.hid (Below.setCell (Below.grown HW.out hgx (by have := HW.out.size; simp; omega) (fun b hb => by cases hb; omega)) (p := ⟨g, k, none⟩) (by simp <;> omega) (.slice (some ⟨gr, 0, none⟩) (r.length - 1) cr))
   clear hnew hou hgx
   go_wp2
   go_roundw
   case rel => exact ⟨k+1, by omega, by go_num, ⟨_, HN.out⟩, HM3.out, HB3.out⟩
   case measure => simp [intOf]; omega
  ·have hk' : k = rows1.length := by omega
   subst hk'
   rw [mapTo_all _ _ _ (Nat.le_refl _)] at hown
   have m2w := hm2
   have k0w := (hbw.block _ (by omega)).trans K06.out
   have k1w := (hbw.block _ (by omega)).trans K16.out
   have k2w := (hbw.block _ (by omega)).trans K26.out
   have HO := Lib.hid (show OwnRows wr (w.heap.size + 3) (.slice gA rows1.length gcap) ((rows.map (fun r => r.eraseIdx q)).eraseIdx j) by (rw [erase_map, ← HR1.out]); exact ⟨_, hown⟩)
   have HE := Lib.hid (HB6.out.trans (hbw.mono (by omega)))
   clear hown hbw hm2
   obtain ⟨y0, y1, y2, y3, y4⟩ := cells_5 k1w
   obtain ⟨s0, s1, s2⟩ := cells_3 k0w
   clear k0w k1w
   have e0 := blk_cell m2w 0
   have e1 := blk_cell m2w 1
   have e2 := blk_cell m2w 2
   have e3 := blk_cell k2w 0
   have e4 := blk_cell k2w 1
   have e5 := blk_cell k2w 2
   have e6 := blk_free k2w 0
   have e7 := blk_free k2w 1
   have e8 := blk_free k2w 2
   simp only [List.getElem?_cons_zero, List.getElem?_cons_succ] at e0 e1 e2 e3 e4 e5
   clear m2w k2w
   go_wp2
   refine bodyPost_ret (v := .agg #[.int .i64 v, .int .i64 (h - 1), .slice gA rows1.length gcap]) (by simp [results, Tryz.results49, go_sem, *]) rfl ⟨_, rfl, ?_, ?_⟩
   ·exact (((HO.out.setCell (by simp <;> omega) _).setCell (by simp <;> omega) _).setCell (by simp <;> omega) _).mono (by omega)
   ·exact ((HE.out.setCell (by simp <;> omega) _).setCell (by simp <;> omega) _).setCell (by simp <;> omega) _
set_option maxRecDepth 100000 in
set_option maxHeartbeats 8000000 in
theorem sm_forget (p v h a b c : Int) (A : Option Addr) (cap : Nat) (rows : List (List Int)) (w : World) (XA : Option Addr) (n xcap : Nat) (hR : RowsAt w A rows) (hm : rows.length ≤ 160) (hms : ∀ r ∈ rows, r.length ≤ 1000) (hv : 0 ≤ v) (hv' : v ≤ 1000) (hb : 0 ≤ b) (hb' : b ≤ 1000) (hh : 1 ≤ h) (hh' : h ≤ 1000) (hlen : ∀ r ∈ rows, v + b < r.length) :
  Calls Tryz.prog 49 #[.int .i64 p, .agg #[.int .i64 v, .int .i64 h, .slice A rows.length cap], .agg #[.int .i64 8, .int .i64 a, .int .i64 b, .int .i64 c, .slice XA n xcap]] w fun e w' =>
   ∃ u, e = .returned (.agg #[.int .i64 v, .int .i64 (h - 1), u]) ∧ OwnRows w' w.heap.size u (rows.map (fun r => r.eraseIdx (v + b).toNat)) ∧ Below w.heap.size w w' := by
 obtain ⟨q, hq⟩ := Int.eq_ofNat_of_zero_le (show 0 ≤ v + b by omega)
 have hqn : (v + b).toNat = q := by omega
 rw [hqn]
 have HLEN := Lib.hid (show ∀ r ∈ rows, (q : Int) < r.length ∧ r.length ≤ 1000 from fun r hr => ⟨by have := hlen r hr; omega, hms r hr⟩)
 clear hlen
 have hwq : IntKind.i64.wrap (v + b) = (q : Int) := by rw [IntKind.wrap_i64]; omega
 have hwh : IntKind.i64.wrap (h - 1) = h - 1 := by rw [IntKind.wrap_i64]; omega
 have HM := Lib.hid (show rows.length ≤ 1048576 by omega)
 have HMS := Lib.hid (show ∀ r ∈ rows, r.length ≤ 1048576 from fun r hr => by have := hms r hr; omega)
 go_enter Tryz.func49, Tryz.ntmps49
 go_wp2_with fail
 refine (stOwn_any _ _ _ _ _ _ (hR.ext (((Below.refl _ _).alloc (by simp) _ |>.alloc (by simp) _).alloc (by simp <;> omega) _)) HM.out HMS.out).mono ?_
 rintro e w1 ⟨u, rfl, ⟨us, hu⟩, hb1⟩
 obtain ⟨gA, gcap, rfl, _, _, _⟩ := OwnRows.view ⟨us, hu⟩
 obtain ⟨q0, q1, q2⟩ := heap_at3 w (.cells #[.int .i64 v, .int .i64 h, .slice A rows.length cap] 30) (.cells #[.int .i64 8, .int .i64 a, .int .i64 b, .int .i64 c, .slice XA n xcap] 34) (.cells #[.int .i64 0, .int .i64 0, .slice none 0 0] 30)
 have hsz1 := hb1.size
 simp only [World.size_alloc] at hsz1
 go_upto_region 2 with (fail)
 obtain ⟨W2, hW2⟩ : ∃ W2, W2 = w1.alloc (.cells #[.int .i64 v, .int .i64 h, .slice gA rows.length gcap] 30) := ⟨_, rfl⟩
 rw [← hW2]
 have hb2 : Below w1.heap.size w1 W2 := by rw [hW2]; exact (Below.refl _ _).alloc (Nat.le_refl _) _
 have hsz2 : W2.heap.size = w1.heap.size + 1 := by rw [hW2]; simp
 have hb02 := hb1.trans (hb2.mono hb1.size)
 have m2 : W2.heap[w1.heap.size]? = some (.cells #[.int .i64 v, .int .i64 h, .slice gA rows.length gcap] 30 (0, 0)) := by rw [hW2]; exact heap_at _ _ rfl
 have k0 := boxb hb02 q0
 have k1 := boxb hb02 q1
 have k2 := boxb hb02 q2
 have hu2 : OwnRowsW W2 (w.heap.size + 3) (.slice gA rows.length gcap) rows us := (hu.ext hb2).mono (by simp)
 have hub : ∀ g', gA = some ⟨g', 0, none⟩ → g' < w1.heap.size := fun g' e => by subst e; exact (World.ownsRow.lt hu.outer g' rfl).2
 have hin : ∀ (k : Nat) (x : Value), us[k]? = some x → ∀ b, x.ownBlock = some b → b < w1.heap.size := fun k x hx b hb => by obtain ⟨r, _, ho⟩ := hu.getR hx; exact (ho.lt b hb).2
 have hb3 : Below w.heap.size w W2 := (below_alloc3 w _ _ _).trans (hb02.mono (by simp <;> omega))
 clear hu hb1 hb2 hb02 hR hms q0 q1 q2 hW2
 obtain ⟨y0, y1, y2, y3, y4⟩ := cells_5 k1
 obtain ⟨x0, x1, x2⟩ := cells_3 m2
 obtain ⟨s0, s1, s2⟩ := cells_3 k0
 have f1 := blk_free m2 1
 have HU := Lib.hid hu2; have HB := Lib.hid hb3; have K0 := Lib.hid k0; have K1 := Lib.hid k1; have K2 := Lib.hid k2; have M2 := Lib.hid m2
 clear hu2 hb3 hub hin k0 k1 k2 m2
 go_upto_region 26 with (fail)
 obtain ⟨W6, hW6⟩ : ∃ W6, W6 = W2.setCell ⟨w1.heap.size, 1, none⟩ (.int .i64 (h - 1)) := ⟨_, rfl⟩
 rw [← hW6]
 have hm6 := heap_setCell_same W2 w1.heap.size 1 _ _ (.int .i64 (h - 1)) M2.out
 simp only [List.setIfInBounds_toArray, List.set_cons_zero, List.set_cons_succ] at hm6
 rw [← hW6] at hm6
 have hp6 : ∀ j, j ≠ w1.heap.size → W6.heap[j]? = W2.heap[j]? := fun j hj => by rw [hW6]; exact Below.heap_setCell _ _ _ _ hj
 have M6 := Lib.hid hm6
 have K06 := Lib.hid ((hp6 _ (by omega)).trans K0.out)
 have K16 := Lib.hid ((hp6 _ (by omega)).trans K1.out)
 have K26 := Lib.hid ((hp6 _ (by omega)).trans K2.out)
 have hu6 := HU.out.setSys M2.out (j := 1) (u := .int .i64 (h - 1))
 rw [← hW6] at hu6
 have hb6 := HB.out.setCell (p := ⟨w1.heap.size, 1, none⟩) (by simp <;> omega) (.int .i64 (h - 1))
 rw [← hW6] at hb6
 have hsz6 : W6.heap.size = w1.heap.size + 1 := by rw [hW6]; simpa using hsz2
 have HU6 := Lib.hid hu6; have HB6 := Lib.hid hb6
 obtain ⟨us6, hus6⟩ : ∃ us6, us6 = us := ⟨_, rfl⟩
 rw [← hus6] at HU6
 clear hm6 hp6 hu6 hb6 hW6 hus6
 clear y0 y1 y2 y3 y4 x0 x1 x2 s0 s1 s2 f1
 obtain ⟨y0, y1, y2, y3, y4⟩ := cells_5 K16.out
 obtain ⟨x0, x1, x2⟩ := cells_3 M6.out
 go_wp2
 go_loopw [169] (fun i wr => ∃ k : Nat, k ≤ rows.length ∧ i = .int .i64 k ∧ (∃ usk, OwnRowsW wr (w.heap.size + 3) (.slice gA rows.length gcap) (mapTo (fun r => r.eraseIdx q) rows k) usk) ∧
   wr.heap[w1.heap.size]? = some (.cells #[.int .i64 v, .int .i64 (h - 1), .slice gA rows.length gcap] 30 (0, 0)) ∧ Below (w.heap.size + 3) W6 wr)
  (fun i _ => rows.length - (intOf i).toNat)
 case atStart => exact ⟨0, Nat.zero_le _, rfl, ⟨us6, by rw [mapTo_zero]; exact HU6.out⟩, M6.out, Below.refl _ _⟩
 case round =>
  obtain ⟨k, hk, rfl, ⟨usk, hown⟩, hm2, hbw⟩ := hrel
  clear y0 y1 y2 y3 y4 x0 x1 x2
  by_cases hlt : k < rows.length
  ·obtain ⟨r, hr⟩ := get_of_lt hlt
   have hrk : (mapTo (fun r => r.eraseIdx q) rows k)[k]? = some r := (mapTo_get _ _ _ hlt).trans hr
   obtain ⟨ur, hur, hor⟩ := hown.get hrk
   obtain ⟨hl1, hl2⟩ := HLEN.out r (List.mem_of_getElem? hr)
   obtain ⟨Ar, cr, rfl, _⟩ := hor.view
   obtain ⟨gr, rfl, hgr1, hgr2⟩ := own_at1 hor (by omega)
   obtain ⟨g, rfl, hg1, hg2⟩ := own_at hown (by rw [mapTo_len _ _ _ hk]; omega)
   have hout := hown.outer
   rw [mapTo_len _ _ _ hk] at hout
   have z0 : wr.cell? ⟨g, k, none⟩ = some (.slice (some ⟨gr, 0, none⟩) r.length cr) := by rw [hout.cellAt _ (by omega), hur]
   have y2 : wr.cell? ⟨w1.heap.size, 2, none⟩ = some (.slice (some ⟨g, 0, none⟩) rows.length gcap) := blk_cell hm2 2
   have hne : gr ≠ w1.heap.size := fun e => by
    rcases ownsRow_neSys hor hm2 (by decide) with h1 | h1
    ·cases h1
    ·exact h1 (by rw [← e]; rfl)
   have hne2 : g ≠ w1.heap.size := fun e => by
    rcases ownsRow_neSys hown.outer hm2 (by decide) with h1 | h1
    ·cases h1
    ·exact h1 (by rw [← e]; rfl)
   have f0 := hout.frozenAt k
   have hne3 : g ≠ gr := by
    rcases apart_types' hown.outer hor with h1 | h1
    ·cases h1
    ·exact fun e => h1 (by rw [e]; rfl)
   have HO := Lib.hid hown; have HW := Lib.hid hbw; have HM2 := Lib.hid hm2; have HUR := Lib.hid hur; have HRR := Lib.hid hr
   obtain ⟨i0, hi0, hz0, hz1, hz2⟩ := info_parts infoInt
   obtain ⟨A9, news, W5, HW5, hA, hsrc, s1, s2, s3, HGR, HOU, hcr⟩ := cut_ints wr.drew (w.heap.size + 3) gr cr q r (World.ownsRow.drew hor) (by omega)
   clear hout hown hbw hm2 hrk hur hr hor
   have hwq1 : IntKind.i64.wrap ((q : Int) + 1) = (q : Int) + 1 := by rw [IntKind.wrap_i64]; omega
   have htn : ((q : Int) + 1).toNat = q + 1 := by omega
   have hqc : q ≤ cr := by omega
   have hqc1 : q + 1 ≤ cr := by omega
   have hqn1 : q + 1 ≤ r.length := by omega
   have hji0 : (0 : Int) ≤ (q : Int) + 1 := by omega
   have hji1 : (q : Int) + 1 ≤ (r.length : Int) := by omega
   have y25 : W5.cell? ⟨w1.heap.size, 2, none⟩ = some (.slice (some ⟨g, 0, none⟩) rows.length gcap) := HGR.out.cell (w := wr.drew) y2 (by simp <;> omega)
   have z05 : W5.cell? ⟨g, k, none⟩ = some (.slice (some ⟨gr, 0, none⟩) r.length cr) := HGR.out.cell (w := wr.drew) z0 (by simp <;> omega)
   have f05 : W5.frozen? ⟨g, k, none⟩ = false := frz (w := wr.drew) HGR.out f0 z0 hne3
   have Z05 := Lib.hid z05; have F05 := Lib.hid f05; have Y25 := Lib.hid y25
   clear z05 f05 y25
   go_wp2_with fail
   refine wp_region_T (S := fun W => W.cell? ⟨w1.heap.size, 2, none⟩ = some (.slice (some ⟨g, 0, none⟩) rows.length gcap)) 12 (by kernel_rfl) y2 (fun hHeld => ?_)
   refine takeQ 0 (v := ?_) rfl (Or.inl ⟨by rfl, ?_⟩) ?_
   rotate_left
   ·intro w h; (try dsimp only at h); go_simp; (try with_reducible rfl)
   simp only [Act.put, List.setIfInBounds_toArray, List.set_cons_zero, List.set_cons_succ]
   refine takeQ 1 (v := ?_) rfl (Or.inl ⟨by rfl, ?_⟩) ?_
   rotate_left
   ·intro w h; (try dsimp only at h); go_simp; (try with_reducible rfl)
   simp only [Act.put, List.setIfInBounds_toArray, List.set_cons_zero, List.set_cons_succ]
   refine takeQ 2 (v := ?_) rfl (Or.inl ⟨by rfl, ?_⟩) ?_
   rotate_left
   ·intro w h; (try dsimp only at h); go_simp; (try with_reducible rfl)
   simp only [Act.put, List.setIfInBounds_toArray, List.set_cons_zero, List.set_cons_succ]
   refine takeQ 3 (v := ?_) rfl (Or.inl ⟨by rfl, ?_⟩) ?_
   rotate_left
   ·intro w h; (try dsimp only at h); go_simp; (try with_reducible rfl)
   simp only [Act.put, List.setIfInBounds_toArray, List.set_cons_zero, List.set_cons_succ]
   refine takeQ 4 (v := ?_) rfl (Or.inl ⟨by rfl, ?_⟩) ?_
   rotate_left
   ·intro w h; (try dsimp only at h); go_simp; (try with_reducible rfl)
   simp only [Act.put, List.setIfInBounds_toArray, List.set_cons_zero, List.set_cons_succ]
   refine takeQ 5 (v := ?_) rfl (Or.inl ⟨by rfl, ?_⟩) ?_
   rotate_left
   ·intro w h; (try dsimp only at h); go_simp; (try with_reducible rfl)
   simp only [Act.put, List.setIfInBounds_toArray, List.set_cons_zero, List.set_cons_succ]
   refine takeQ 6 (v := ?_) rfl (Or.inl ⟨by rfl, ?_⟩) ?_
   rotate_left
   ·intro w h; (try dsimp only at h); go_simp; (try with_reducible rfl)
   simp only [Act.put, List.setIfInBounds_toArray, List.set_cons_zero, List.set_cons_succ]
   refine takeQ 7 (v := ?_) rfl (Or.inl ⟨by rfl, ?_⟩) ?_
   rotate_left
   ·intro w h; (try dsimp only at h); go_simp; (try with_reducible rfl)
   simp only [Act.put, List.setIfInBounds_toArray, List.set_cons_zero, List.set_cons_succ]
   refine takeQ 8 (v := ?_) rfl (Or.inl ⟨by rfl, ?_⟩) ?_
   rotate_left
   ·intro w h; (try dsimp only at h); go_simp; (try with_reducible rfl)
   simp only [Act.put, List.setIfInBounds_toArray, List.set_cons_zero, List.set_cons_succ]
   refine takeQ 9 (v := ?_) rfl (Or.inl ⟨by rfl, ?_⟩) ?_
   rotate_left
   ·intro w h; (try dsimp only at h); go_simp; (try with_reducible rfl)
   simp only [Act.put, List.setIfInBounds_toArray, List.set_cons_zero, List.set_cons_succ]
   refine oneT (i := 10) (by kernel_rfl) rfl (fun K hK => ?_)
   refine step_append_room rfl (.tmp 179) (.tmp 183) 25 rfl 3 i0 1 Tryz.underlying25 hi0 hz1 gr 0 q cr rfl A9 (r.length - (q + 1)) (cr - (q + 1)) news rfl s1.out hsrc.out s2.out (by omega) s3.out ?_
   rw [← HW5.out, show q + (r.length - (q + 1)) = r.length - 1 by omega]
   refine hK.out _ _ (fun _ => Y25.out) (fun hHeld => ?_)
   clear hK K z0 f0 y2
   have z0 := Z05.out
   have f0 := F05.out
   try simp only [Act.put, List.setIfInBounds_toArray, List.set_cons_zero, List.set_cons_succ]
   have hHeld := hHeld (by decide)
   refine oneT (i := 11) (by kernel_rfl) rfl (fun K hK => ?_)
   go_simp
   refine hK.out _ _ (fun _ => Y25.out) (fun hHeld => ?_)
   clear hK K
   try simp only [Act.put, List.setIfInBounds_toArray, List.set_cons_zero, List.set_cons_succ]
   have hHeld := hHeld (by decide)
   refine oneT (i := 12) (by kernel_rfl) rfl (fun K hK => ?_)
   go_simp
   refine hK.out _ _ (fun h => absurd h (by decide)) (fun _ => ?_)
   clear hK K
   try simp only [Act.put, List.setIfInBounds_toArray, List.set_cons_zero, List.set_cons_succ]
   refine doneT (by kernel_rfl) ?_ _
   have hgx := grownBy_trans (grownBy_drew wr (some gr)) HGR.out
   have hou : OwnInts W5 (w.heap.size + 3) (.slice (some ⟨gr, 0, none⟩) (r.length - 1) cr) (r.eraseIdx q) := HOU.out
   have hnew := HO.out.put (mapTo_len _ _ _ hk).symm HUR.out hgx hou (fun b hb => Or.inl hb)
   rw [mapTo_set (fun r => r.eraseIdx q) rows k r HRR.out] at hnew
   have HN := Lib.hid hnew
   have HM3 := Lib.hid ((heap_setCell_other W5 ⟨g, k, none⟩ w1.heap.size (.slice (some ⟨gr, 0, none⟩) (r.length - 1) cr) (by simp <;> omega)).trans ((hgx.block w1.heap.size (by have := HW.out.size; simp; omega) (by simp; omega)).trans HM2.out))
   have HB3 := Lib.hid (Below.setCell (Below.grown HW.out hgx (by have := HW.out.size; simp; omega) (fun b hb => by cases hb; omega)) (p := ⟨g, k, none⟩) (by simp <;> omega) (.slice (some ⟨gr, 0, none⟩) (r.length - 1) cr))
   clear hnew hou hgx
   go_wp2
   go_roundw
   case rel => exact ⟨k+1, by omega, by go_num, ⟨_, HN.out⟩, HM3.out, HB3.out⟩
   case measure => simp [intOf]; omega
  ·have hk' : k = rows.length := by omega
   subst hk'
   rw [mapTo_all _ _ _ (Nat.le_refl _)] at hown
   have m2w := hm2
   have k0w := (hbw.block _ (by omega)).trans K06.out
   have k1w := (hbw.block _ (by omega)).trans K16.out
   have k2w := (hbw.block _ (by omega)).trans K26.out
   have HO := Lib.hid (show OwnRows wr (w.heap.size + 3) (.slice gA rows.length gcap) (rows.map (fun r => r.eraseIdx q)) by skip; exact ⟨_, hown⟩)
   have HE := Lib.hid (HB6.out.trans (hbw.mono (by omega)))
   clear hown hbw hm2
   obtain ⟨y0, y1, y2, y3, y4⟩ := cells_5 k1w
   obtain ⟨s0, s1, s2⟩ := cells_3 k0w
   clear k0w k1w
   have e0 := blk_cell m2w 0
   have e1 := blk_cell m2w 1
   have e2 := blk_cell m2w 2
   have e3 := blk_cell k2w 0
   have e4 := blk_cell k2w 1
   have e5 := blk_cell k2w 2
   have e6 := blk_free k2w 0
   have e7 := blk_free k2w 1
   have e8 := blk_free k2w 2
   simp only [List.getElem?_cons_zero, List.getElem?_cons_succ] at e0 e1 e2 e3 e4 e5
   clear m2w k2w
   go_wp2
   refine bodyPost_ret (v := .agg #[.int .i64 v, .int .i64 (h - 1), .slice gA rows.length gcap]) (by simp [results, Tryz.results49, go_sem, *]) rfl ⟨_, rfl, ?_, ?_⟩
   ·exact (((HO.out.setCell (by simp <;> omega) _).setCell (by simp <;> omega) _).setCell (by simp <;> omega) _).mono (by omega)
   ·exact ((HE.out.setCell (by simp <;> omega) _).setCell (by simp <;> omega) _).setCell (by simp <;> omega) _
end Go.Proofs.YtjdbfokbgmbphaaGreatDoor
