/- slices.Delete of one element, at slices of the call's own. Conditions: lengths of at most 2^20. -/
import Derived.Test.YtjdbfokbgmbphaaGreatDoorBlk
namespace Go.Proofs.YtjdbfokbgmbphaaGreatDoor
set_option linter.unusedVariables false
set_option linter.unusedSimpArgs false
open Go.RowKit


set_option maxHeartbeats 1000000 in
set_option maxRecDepth 100000 in
theorem deleteInts_any (B g n cap : Nat) (i : Int) (us : List Value) (w : World) (h : w.ownsRow B 3 1 (.slice (some ⟨g, 0, none⟩) n cap) n us) (h1 : ∀ u ∈ us, u.oneCell' = true) (hi : 0 ≤ i) (hin : i < n) (hn : n ≤ 1048576) :
    Calls Tryz.prog 191 #[.slice (some ⟨g, 0, none⟩) n cap, .int .i64 i, .int .i64 (i + 1)] w fun e w' => e = .returned (.slice (some ⟨g, 0, none⟩) (n - 1) cap) ∧ w'.ownsRow B 3 1 (.slice (some ⟨g, 0, none⟩) (n - 1) cap) (n - 1) (us.eraseIdx i.toNat) ∧ w.grownBy w' (some g) := by
  obtain ⟨k, rfl⟩ := Int.eq_ofNat_of_zero_le hi
  obtain ⟨i0, hi0, hz0, hz1, hz2⟩ := info_parts infoInt
  obtain ⟨hus, hr⟩ := h
  rcases hr with ⟨hx, _⟩ | ⟨g', cap', cur, hv, hB, hg, hnc, hcm, hcs, htake⟩
  · cases hx
  cases hv
  simp only [Nat.mul_one] at hus hcs htake
  have hk : k < n := by omega
  obtain ⟨j, hj⟩ : ∃ j, j = k + 1 := ⟨_, rfl⟩
  rw [show ((k : Int) + 1) = (j : Int) by omega]
  have hcell : ∀ t, t < n → cur.toList[t]? = us[t]? := fun t ht => by rw [← htake, List.getElem?_take, if_pos ht]
  have hg' : w.drew.heap[g]? = some (.cells cur 3 (0, 0)) := hg
  obtain ⟨news, hnews⟩ : ∃ news, news = us.drop j := ⟨_, rfl⟩
  have hlen : news.length = n - j := by rw [hnews]; simp; omega
  obtain ⟨A, hA, hsrc⟩ : ∃ A : Addr, (if cap = j then some (⟨g, 0, none⟩ : Addr) else some ⟨g, j, none⟩) = some A ∧ Hid (∀ t u, news[t]? = some u → w.drew.cell? (A.add t) = some u) := by
    by_cases hc : cap = j
    · refine ⟨⟨g, 0, none⟩, by simp [hc], fun t u hu => ?_⟩
      have h0 : news.length = 0 := by rw [hlen]; omega
      rw [List.length_eq_zero_iff.1 h0] at hu
      simp at hu
    · refine ⟨⟨g, j, none⟩, by simp [hc], fun t u hu => ?_⟩
      have ht : t < n - j := by have := (List.getElem?_eq_some_iff.1 hu).1; rwa [hlen] at this
      rw [addr_add, blk_cell hg', hcell _ (by omega), ← hu, hnews, List.getElem?_drop]
  have s1 : Hid (news.length = (n - j) * 1) := by rw [Nat.mul_one]; exact hlen
  have s2 : Hid (∀ u ∈ news, u.oneCell' = true) := by
    intro u hu
    rw [hnews] at hu
    exact h1 u (List.mem_of_mem_drop hu)
  have s3 : Hid (∀ t, t < news.length → (w.drew.cell? ⟨g, 0 + k * 1 + t, none⟩).isSome = true ∧ w.drew.frozen? ⟨g, 0 + k * 1 + t, none⟩ = false) := by
    intro t ht
    rw [hlen] at ht
    refine ⟨?_, blk_free hg' _⟩
    rw [blk_cell hg', List.getElem?_eq_getElem (by simp; omega)]
    rfl
  obtain ⟨W1, hW1⟩ : ∃ W1, W1 = w.drew.setCells g (0 + k * 1) news := ⟨_, rfl⟩
  obtain ⟨b1, b2⟩ := setCells_block g 3 news (0 + k * 1) w.drew cur hg' (by rw [hlen]; omega)
  rw [← hW1] at b1 b2
  have hsz1 : (splice cur.toList (0 + k * 1) news).length = cap := by rw [splice_len _ _ _ (by simp [hlen]; omega)]; simp [hcs]
  have hcl : ∀ ty, (Builtin.clear_ #[25] ty #[.slice (some ⟨g, k + (n - j), none⟩) (n - (k + (n - j))) (cap - (k + (n - j)))]).run Tryz.prog W1 = .ok (.tuple #[]) (W1.setCells g (k + (n - j)) (List.replicate (n - (k + (n - j))) (.int .i64 0))) :=
    fun ty => Lib.run_clear_slice (P := Tryz.prog) W1 25 3 ty (.int .i64 0) Tryz.underlying25 (fun _ => by kernel_rfl) rfl rfl g (k + (n - j)) _ _ (by omega)
      (fun t ht => by rw [blk_cell b1, List.getElem?_eq_getElem (by have := hsz1; simp at this ⊢; omega)]; rfl) (fun t ht => blk_free b1 _)
  obtain ⟨c1, c2⟩ := setCells_block g 3 (List.replicate (n - (k + (n - j))) (.int .i64 0)) (k + (n - j)) W1 _ b1 (by have := hsz1; simp at this ⊢; omega)
  have HP := Lib.hid (show (W1.setCells g (k + (n - j)) (List.replicate (n - (k + (n - j))) (.int .i64 0))).ownsRow B 3 1 (.slice (some ⟨g, 0, none⟩) (n - 1) cap) (n - 1) (us.eraseIdx k) by
    refine ⟨by simp [List.length_eraseIdx, hus, hk], Or.inr ⟨g, cap, _, rfl, hB, c1, by omega, hcm, ?_, ?_⟩⟩
    · rw [List.size_toArray, splice_len _ _ _ (by have := hsz1; simp at this ⊢; omega)]
      simpa using hsz1
    · skip
      simp only [Nat.mul_one, Nat.zero_add]
      exact del_list cur.toList us news _ n k (k + (n - j)) htake (by simp; omega) hk (by rw [hnews, hj]) (by omega) (by rw [hlen]; omega))
  have HGR := Lib.hid (grownBy_trans (grownBy_drew w (some g)) (grownBy_trans b2 c2))
  have HW := Lib.hid hW1
  have hkj : k < j := by omega
  have hjn : j ≤ n := by omega
  have hjc : j ≤ cap := by omega
  have hkc : k ≤ cap := by omega
  have hx1 : k + (n - j) < cap := by omega
  have hx2 : k + (n - j) ≤ n := by omega
  have hx3 : k + (n - j) + 1 = n := by omega
  have HX := Lib.hid hx3
  unfold maxLen at hcm
  clear hus hcs htake hg hg' h1 hi hcell hnews hlen hW1 b1 b2 hsz1 c1 c2 hin hj hx3
  go_enter Tryz.func191, Tryz.ntmps191
  go_wp2_with fail
  go_region_law (refine step_append_room rfl (.tmp 22) (.tmp 25) 25 rfl 3 i0 1 Tryz.underlying25 hi0 hz1 g 0 k cap (by simp [Act.eval, Act.put]) A (n - j) (cap - j) news (by simp [Act.eval, Act.put]) s1.out hsrc.out s2.out (by omega) s3.out ?_; rw [← HW.out])
  go_wp2
  go_ret
  refine ⟨?_, ?_, HGR.out⟩
  · rw [show k + (n - j) = n - 1 by have := HX.out; omega]
    rfl
  · exact HP.out


set_option maxHeartbeats 1000000 in
set_option maxRecDepth 100000 in
theorem deleteRows_any (B g n cap : Nat) (i : Int) (us : List Value) (w : World) (h : w.ownsRow B 25 1 (.slice (some ⟨g, 0, none⟩) n cap) n us) (h1 : ∀ u ∈ us, u.oneCell' = true) (hi : 0 ≤ i) (hin : i < n) (hn : n ≤ 1048576) :
    Calls Tryz.prog 175 #[.slice (some ⟨g, 0, none⟩) n cap, .int .i64 i, .int .i64 (i + 1)] w fun e w' => e = .returned (.slice (some ⟨g, 0, none⟩) (n - 1) cap) ∧ w'.ownsRow B 25 1 (.slice (some ⟨g, 0, none⟩) (n - 1) cap) (n - 1) (us.eraseIdx i.toNat) ∧ w.grownBy w' (some g) := by
  obtain ⟨k, rfl⟩ := Int.eq_ofNat_of_zero_le hi
  obtain ⟨i0, hi0, hz0, hz1, hz2⟩ := info_parts infoRow
  obtain ⟨hus, hr⟩ := h
  rcases hr with ⟨hx, _⟩ | ⟨g', cap', cur, hv, hB, hg, hnc, hcm, hcs, htake⟩
  · cases hx
  cases hv
  simp only [Nat.mul_one] at hus hcs htake
  have hk : k < n := by omega
  obtain ⟨j, hj⟩ : ∃ j, j = k + 1 := ⟨_, rfl⟩
  rw [show ((k : Int) + 1) = (j : Int) by omega]
  have hcell : ∀ t, t < n → cur.toList[t]? = us[t]? := fun t ht => by rw [← htake, List.getElem?_take, if_pos ht]
  have hg' : w.drew.heap[g]? = some (.cells cur 25 (0, 0)) := hg
  obtain ⟨news, hnews⟩ : ∃ news, news = us.drop j := ⟨_, rfl⟩
  have hlen : news.length = n - j := by rw [hnews]; simp; omega
  obtain ⟨A, hA, hsrc⟩ : ∃ A : Addr, (if cap = j then some (⟨g, 0, none⟩ : Addr) else some ⟨g, j, none⟩) = some A ∧ Hid (∀ t u, news[t]? = some u → w.drew.cell? (A.add t) = some u) := by
    by_cases hc : cap = j
    · refine ⟨⟨g, 0, none⟩, by simp [hc], fun t u hu => ?_⟩
      have h0 : news.length = 0 := by rw [hlen]; omega
      rw [List.length_eq_zero_iff.1 h0] at hu
      simp at hu
    · refine ⟨⟨g, j, none⟩, by simp [hc], fun t u hu => ?_⟩
      have ht : t < n - j := by have := (List.getElem?_eq_some_iff.1 hu).1; rwa [hlen] at this
      rw [addr_add, blk_cell hg', hcell _ (by omega), ← hu, hnews, List.getElem?_drop]
  have s1 : Hid (news.length = (n - j) * 1) := by rw [Nat.mul_one]; exact hlen
  have s2 : Hid (∀ u ∈ news, u.oneCell' = true) := by
    intro u hu
    rw [hnews] at hu
    exact h1 u (List.mem_of_mem_drop hu)
  have s3 : Hid (∀ t, t < news.length → (w.drew.cell? ⟨g, 0 + k * 1 + t, none⟩).isSome = true ∧ w.drew.frozen? ⟨g, 0 + k * 1 + t, none⟩ = false) := by
    intro t ht
    rw [hlen] at ht
    refine ⟨?_, blk_free hg' _⟩
    rw [blk_cell hg', List.getElem?_eq_getElem (by simp; omega)]
    rfl
  obtain ⟨W1, hW1⟩ : ∃ W1, W1 = w.drew.setCells g (0 + k * 1) news := ⟨_, rfl⟩
  obtain ⟨b1, b2⟩ := setCells_block g 25 news (0 + k * 1) w.drew cur hg' (by rw [hlen]; omega)
  rw [← hW1] at b1 b2
  have hsz1 : (splice cur.toList (0 + k * 1) news).length = cap := by rw [splice_len _ _ _ (by simp [hlen]; omega)]; simp [hcs]
  have hcl : ∀ ty, (Builtin.clear_ #[22] ty #[.slice (some ⟨g, k + (n - j), none⟩) (n - (k + (n - j))) (cap - (k + (n - j)))]).run Tryz.prog W1 = .ok (.tuple #[]) (W1.setCells g (k + (n - j)) (List.replicate (n - (k + (n - j))) (.slice none 0 0))) :=
    fun ty => Lib.run_clear_slice (P := Tryz.prog) W1 22 25 ty (.slice none 0 0) Tryz.underlying22 (fun _ => by kernel_rfl) rfl rfl g (k + (n - j)) _ _ (by omega)
      (fun t ht => by rw [blk_cell b1, List.getElem?_eq_getElem (by have := hsz1; simp at this ⊢; omega)]; rfl) (fun t ht => blk_free b1 _)
  obtain ⟨c1, c2⟩ := setCells_block g 25 (List.replicate (n - (k + (n - j))) (.slice none 0 0)) (k + (n - j)) W1 _ b1 (by have := hsz1; simp at this ⊢; omega)
  have HP := Lib.hid (show (W1.setCells g (k + (n - j)) (List.replicate (n - (k + (n - j))) (.slice none 0 0))).ownsRow B 25 1 (.slice (some ⟨g, 0, none⟩) (n - 1) cap) (n - 1) (us.eraseIdx k) by
    refine ⟨by simp [List.length_eraseIdx, hus, hk], Or.inr ⟨g, cap, _, rfl, hB, c1, by omega, hcm, ?_, ?_⟩⟩
    · rw [List.size_toArray, splice_len _ _ _ (by have := hsz1; simp at this ⊢; omega)]
      simpa using hsz1
    · skip
      simp only [Nat.mul_one, Nat.zero_add]
      exact del_list cur.toList us news _ n k (k + (n - j)) htake (by simp; omega) hk (by rw [hnews, hj]) (by omega) (by rw [hlen]; omega))
  have HGR := Lib.hid (grownBy_trans (grownBy_drew w (some g)) (grownBy_trans b2 c2))
  have HW := Lib.hid hW1
  have hkj : k < j := by omega
  have hjn : j ≤ n := by omega
  have hjc : j ≤ cap := by omega
  have hkc : k ≤ cap := by omega
  have hx1 : k + (n - j) < cap := by omega
  have hx2 : k + (n - j) ≤ n := by omega
  have hx3 : k + (n - j) + 1 = n := by omega
  have HX := Lib.hid hx3
  unfold maxLen at hcm
  clear hus hcs htake hg hg' h1 hi hcell hnews hlen hW1 b1 b2 hsz1 c1 c2 hin hj hx3
  go_enter Tryz.func175, Tryz.ntmps175
  go_wp2_with fail
  go_region_law (refine step_append_room rfl (.tmp 22) (.tmp 25) 22 rfl 25 i0 1 Tryz.underlying22 hi0 hz1 g 0 k cap (by simp [Act.eval, Act.put]) A (n - j) (cap - j) news (by simp [Act.eval, Act.put]) s1.out hsrc.out s2.out (by omega) s3.out ?_; rw [← HW.out])
  go_wp2
  go_ret
  refine ⟨?_, ?_, HGR.out⟩
  · rw [show k + (n - j) = n - 1 by have := HX.out; omega]
    rfl
  · exact HP.out

end Go.Proofs.YtjdbfokbgmbphaaGreatDoor
