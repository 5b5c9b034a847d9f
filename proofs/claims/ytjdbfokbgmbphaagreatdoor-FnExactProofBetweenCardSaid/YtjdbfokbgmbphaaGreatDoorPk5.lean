/- slices.Insert of one element, at slices of the call's own. Conditions: lengths of at most 2^20. -/
import Derived.Test.YtjdbfokbgmbphaaGreatDoorPk4
namespace Go.Proofs.YtjdbfokbgmbphaaGreatDoor
set_option linter.unusedVariables false
set_option linter.unusedSimpArgs false
open Go.RowKit
set_option maxHeartbeats 2000000 in
set_option maxRecDepth 100000 in
theorem insertShiftInts_any (B g n cap vb : Nat) (i : Int) (us : List Value) (x : Value) (w : World) (h : w.ownsRow B 3 1 (.slice (some ⟨g, 0, none⟩) n cap) n us) (h1 : ∀ u ∈ us, u.oneCell' = true) (hx1 : x.oneCell' = true)
  (hv : w.heap[vb]? = some (.cells #[x] 3 (0, 0))) (hne : vb ≠ g) (hi : 0 ≤ i) (hin : i < n) (hroom : n + 1 ≤ cap) (hn : n ≤ 1048576) :
  Calls Tryz.prog 196 #[.slice (some ⟨g, 0, none⟩) n cap, .int .i64 i, .slice (some ⟨vb, 0, none⟩) 1 1] w fun e w' => e = .returned (.slice (some ⟨g, 0, none⟩) (n + 1) cap) ∧ w'.ownsRow B 3 1 (.slice (some ⟨g, 0, none⟩) (n + 1) cap) (n + 1) (insAt us i.toNat x) ∧ w.grownBy w' (some g) := by
 obtain ⟨k, rfl⟩ := Int.eq_ofNat_of_zero_le hi
 obtain ⟨i0, hi0, hz0, hz1, hz2⟩ := info_parts infoInt
 have hsz : (Tryz.prog.info? 3).map (·.size) = some 1 := by rw [hi0]; simp [hz1]
 obtain ⟨hus, hr⟩ := h
 rcases hr with ⟨hx, _⟩ | ⟨g', cap', cur, hv', hB, hg, hnc, hcm, hcs, htake⟩
 ·cases hx
 cases hv'
 simp only [Nat.mul_one] at hus hcs htake
 unfold maxLen at hcm
 have hk : k < n := by omega
 have hcell : ∀ t, t < n → cur.toList[t]? = us[t]? := fun t ht => by rw [← htake, List.getElem?_take, if_pos ht]
 have hg' : w.drew.heap[g]? = some (.cells cur 3 (0, 0)) := hg
 have hvd : w.drew.heap[vb]? = some (.cells #[x] 3 (0, 0)) := hv
 have hov : ∀ lb cb, (callFunc 197 #[.slice (some ⟨vb, 0, none⟩) 1 1, .slice (some ⟨g, k + 1, none⟩) lb cb]).run Tryz.prog w = .ok (.value (.bool false)) w := fun lb cb => by
  rw [run_callFunc_extern Tryz.func197 (by kernel_rfl) (by kernel_rfl) (by kernel_rfl) (e := Extern.SlicesOverlaps.overlaps #[25, 25] #[4]) (by kernel_rfl),
   Lib.run_overlaps_apart w 25 4 3 Tryz.underlying25 1 Tryz.sizeOf3 ⟨vb, 0, none⟩ ⟨g, k + 1, none⟩ 1 1 lb cb hne 3 3 1 cap (by simp [World.shape?, hv]) (by simp [World.shape?, hg, hcs]) (by omega) (blk_free hv _) (blk_free hv _)]
  rfl
 obtain ⟨ds, hds⟩ : ∃ ds, ds = us.drop k := ⟨_, rfl⟩
 have hdl : ds.length = n - k := by rw [hds]; simp; omega
 have hcp1 : ∀ ty dc sc, (Builtin.copy_ #[25, 25] ty #[.slice (some ⟨g, k + 1, none⟩) (n - k) dc, .slice (some ⟨g, k, none⟩) (n + 1 - k) sc]).run Tryz.prog w.drew = .ok (goInt ds.length) (w.drew.setCells g (k + 1) ds) := fun ty dc sc =>
  run_copy_cells w.drew _ _ ty 3 g (k + 1) (n - k) dc ⟨g, k, none⟩ (n + 1 - k) sc ds Tryz.underlying25 hsz (by rw [hdl]; simp only [Nat.min_def]; split <;> omega)
   (fun j v hj => by rw [addr_add, blk_cell hg', hcell _ (by have := (List.getElem?_eq_some_iff.1 hj).1; omega), ← hj, hds, List.getElem?_drop])
   (fun j hj => by rw [blk_cell hg', List.getElem?_eq_getElem (by simp; omega)]; rfl) (fun j hj => blk_free hg' _) (fun v hv => h1 v (List.mem_of_mem_drop (by rw [← hds]; exact hv)))
 obtain ⟨W1, hW1⟩ : ∃ W1, W1 = w.drew.setCells g (k + 1) ds := ⟨_, rfl⟩
 obtain ⟨b1, b2⟩ := setCells_block g 3 ds (k + 1) w.drew cur hg' (by rw [hdl]; omega)
 rw [← hW1] at b1 b2 hcp1
 have hsz1 : (splice cur.toList (k + 1) ds).length = cap := by rw [splice_len _ _ _ (by simp [hdl]; omega)]; simp [hcs]
 have hvW : W1.heap[vb]? = some (.cells #[x] 3 (0, 0)) := (b2.block vb (Array.getElem?_eq_some_iff.1 hv).1 (by simpa using hne)).trans hv
 have hcp2 : ∀ ty dc, (Builtin.copy_ #[25, 25] ty #[.slice (some ⟨g, k, none⟩) (n + 1 - k) dc, .slice (some ⟨vb, 0, none⟩) 1 1]).run Tryz.prog W1 = .ok (goInt [x].length) (W1.setCells g k [x]) := fun ty dc =>
  run_copy_cells W1 _ _ ty 3 g k (n + 1 - k) dc ⟨vb, 0, none⟩ 1 1 [x] Tryz.underlying25 hsz (by simp only [Nat.min_def]; split <;> simp <;> omega)
   (fun j v hj => by
    match j, hj with
    | 0, hj => simp at hj; subst hj; rw [addr_add, blk_cell hvW]; rfl
    | j + 1, hj => simp at hj)
   (fun j hj => by rw [blk_cell b1, List.getElem?_eq_getElem (by have := hsz1; simp at this hj ⊢; omega)]; rfl) (fun j hj => blk_free b1 _) (fun v hv => by simp at hv; subst hv; exact hx1)
 obtain ⟨c1, c2⟩ := setCells_block g 3 [x] k W1 _ b1 (by have := hsz1; simp at this ⊢; omega)
 have HP := Lib.hid (show (W1.setCells g k [x]).ownsRow B 3 1 (.slice (some ⟨g, 0, none⟩) (n + 1) cap) (n + 1) (insAt us k x) by
  refine ⟨by simp [insAt, hus]; omega, Or.inr ⟨g, cap, _, rfl, hB, c1, by omega, by unfold maxLen; omega, ?_, ?_⟩⟩
  ·rw [List.size_toArray, splice_len _ _ _ (by have := hsz1; simp at this ⊢; omega)]
   simpa using hsz1
  ·simp only [Nat.mul_one]
   exact ins_list cur.toList us ds n k x htake (by simp; omega) hk hds)
 have HGR := Lib.hid (grownBy_trans (grownBy_drew w (some g)) (grownBy_trans b2 c2))
 have HW := Lib.hid hW1
 have hz1' : ¬ ((1 : Int) = 0) := by omega
 have hz2' : ¬ ((k : Int) = (n : Int)) := by omega
 have hin' : k ≤ n := by omega
 have hw1 : IntKind.i64.wrap ((k : Int) + 1) = (k : Int) + 1 := by rw [IntKind.wrap_i64]; omega
 have hb1 : (0 : Int) ≤ (k : Int) + 1 := by omega
 have htn : ((k : Int) + 1).toNat = k + 1 := by omega
 have hb2 : ¬ (cap = k + 1) := by omega
 have hb3 : (k : Int) ≤ (n : Int) + 1 := by omega
 have hb4 : ¬ (cap = k) := by omega
 clear hus hcs htake hg hg' h1 hi hcell hds hdl hW1 b1 b2 hsz1 c1 c2 hin hv hvd hvW hz0
 go_enter Tryz.func196, Tryz.ntmps196
 go_wp2_with (simp only [hov])
 go_region_law (refine step_copy_eq rfl (.tmp 73) (.tmp 76) 25 25 rfl _ _ (by simp [Act.eval, Act.put]) (by simp [Act.eval, Act.put]) (hcp1 _ _ _) ?_)
 go_wp2_with (with_reducible refine wpList_copy_eq _ rfl (.tmp 80) (.tmp 81) 25 25 rfl _ _ rfl rfl (hcp2 _ _) ?_)
 go_ret
 exact ⟨rfl, HP.out, HGR.out⟩
set_option maxHeartbeats 1000000 in
set_option maxRecDepth 100000 in
theorem insertEndInts_any (B n vb : Nat) (v : Value) (us : List Value) (x : Value) (w : World) (h : w.ownsRow B 3 1 v n us) (hx1 : x.oneCell' = true)
  (hv : w.heap[vb]? = some (.cells #[x] 3 (0, 0))) (hn : n ≤ 1048576) (hB : B ≤ w.heap.size) :
  Calls Tryz.prog 196 #[v, .int .i64 n, .slice (some ⟨vb, 0, none⟩) 1 1] w fun e w' => ∃ g cap, e = .returned (.slice (some ⟨g, 0, none⟩) (n + 1) cap) ∧ w'.ownsRow B 3 1 (.slice (some ⟨g, 0, none⟩) (n + 1) cap) (n + 1) (insAt us n x) ∧ w.grownBy w' v.ownBlock ∧ (v.ownBlock = some g ∨ w.heap.size ≤ g) := by
 obtain ⟨i0, hi0, hz0, hz1, hz2⟩ := info_parts infoInt
 have hus : us.length = n := by simpa using h.1
 have hins : insAt us n x = us ++ [x] := by simp [insAt, ← hus]
 have HI := Lib.hid hins; clear hins
 have hnw : Hid (∀ j u, ([x] : List Value)[j]? = some u → w.cell? ((⟨vb, 0, none⟩ : Addr).add j) = some u) := fun j u hj => by
  match j, hj with
  | 0, hj => simp at hj; subst hj; rw [addr_add, blk_cell hv]; rfl
  | j + 1, hj => simp at hj
 have h1x : Hid (∀ u ∈ ([x] : List Value), u.oneCell' = true) := fun u hu => by simp at hu; subst hu; exact hx1
 have HO := Lib.hid h
 rcases h.2 with ⟨rfl, rfl⟩ | ⟨g, cap, cur, rfl, _, _, hnc, hcm, _⟩
 ·clear h hus hv
  go_enter Tryz.func196, Tryz.ntmps196
  go_wp2_with (at_builtin; refine wpList_append_lies _ rfl (.tmp 23) (.tmp 24) 25 rfl B 3 i0 (.int .i64 0) 1 8 Tryz.underlying25 hi0 hz0 hz1 hz2 rfl (by decide) _ 0 us rfl HO.out ⟨vb, 0, none⟩ 1 1 [x] rfl rfl hnw.out h1x.out (by decide) (by decide) (by decide) hB w.heap.size rfl ?_; intro g cap w1 hown hgr hwh hlt)
  go_ret
  exact ⟨g, cap, rfl, by rw [HI.out]; exact hown, hgr, hwh.imp id fun e => by omega⟩
 ·unfold maxLen at hcm
  have hb0 : (n + 1) ≤ maxLen := by unfold maxLen; omega
  have hb1 : (n + 1) * 8 ≤ 140737488355328 := by omega
  have HB0 := Lib.hid hb0; have HB1 := Lib.hid hb1
  clear h hus hv hb0 hb1 hn
  go_enter Tryz.func196, Tryz.ntmps196
  go_wp2_with (at_builtin; refine wpList_append_lies _ rfl (.tmp 23) (.tmp 24) 25 rfl B 3 i0 (.int .i64 0) 1 8 Tryz.underlying25 hi0 hz0 hz1 hz2 rfl (by decide) _ n us rfl HO.out ⟨vb, 0, none⟩ 1 1 [x] rfl rfl hnw.out h1x.out (by decide) HB0.out HB1.out hB w.heap.size rfl ?_; intro g cap w1 hown hgr hwh hlt)
  all_goals (go_ret; exact ⟨g, cap, rfl, by rw [HI.out]; exact hown, hgr, hwh.imp id fun e => by omega⟩)
set_option maxHeartbeats 2000000 in
set_option maxRecDepth 100000 in
theorem insertGrowInts_any (B g n cap vb : Nat) (i : Int) (us : List Value) (x : Value) (w : World) (h : w.ownsRow B 3 1 (.slice (some ⟨g, 0, none⟩) n cap) n us) (h1 : ∀ u ∈ us, u.oneCell' = true) (hx1 : x.oneCell' = true)
  (hv : w.heap[vb]? = some (.cells #[x] 3 (0, 0))) (hi : 0 ≤ i) (hin : i < n) (hroom : cap < n + 1) (hn : n ≤ 1048576) (hBw : B ≤ w.heap.size) :
  Calls Tryz.prog 196 #[.slice (some ⟨g, 0, none⟩) n cap, .int .i64 i, .slice (some ⟨vb, 0, none⟩) 1 1] w fun e w' => ∃ G, e = .returned (.slice (some ⟨w.heap.size, 0, none⟩) (n + 1) G) ∧ w'.ownsRow B 3 1 (.slice (some ⟨w.heap.size, 0, none⟩) (n + 1) G) (n + 1) (insAt us i.toNat x) ∧ w.grownBy w' none := by
 obtain ⟨k, rfl⟩ := Int.eq_ofNat_of_zero_le hi
 obtain ⟨i0, hi0, hz0, hz1, hz2⟩ := info_parts infoInt
 have hsz : (Tryz.prog.info? 3).map (·.size) = some 1 := by rw [hi0]; simp [hz1]
 obtain ⟨hus, hr⟩ := h
 rcases hr with ⟨hx, _⟩ | ⟨g', cap', cur, hv', hB, hg, hnc, hcm, hcs, htake⟩
 ·cases hx
 cases hv'
 simp only [Nat.mul_one] at hus hcs htake
 unfold maxLen at hcm
 have hk : k < n := by omega
 obtain rfl : n = cap := by omega
 have hgl : g < w.heap.size := (Array.getElem?_eq_some_iff.1 hg).1
 have hvl : vb < w.heap.size := (Array.getElem?_eq_some_iff.1 hv).1
 have hcell : ∀ t, t < n → cur.toList[t]? = us[t]? := fun t ht => by rw [← htake, List.getElem?_take, if_pos ht]
 have hold : (Builtin.firstCells i0.size k (.slice (some ⟨g, 0, none⟩) k n)).run Tryz.prog w.drew = .ok (us.take k).toArray w.drew := by
  rw [hz1]
  exact run_firstCells_some w.drew 1 k ⟨g, 0, none⟩ k n (us.take k) (by simp; omega) (fun j v hj => by
   have hjk := (List.getElem?_eq_some_iff.1 hj).1
   simp at hjk
   rw [addr_add, blk_cell (show w.drew.heap[g]? = some (.cells cur 3 (0, 0)) from hg), Nat.zero_add, hcell _ (by omega), ← hj, List.getElem?_take, if_pos (by omega)])
 obtain ⟨G, hG⟩ : ∃ G, G = grownCap w (n + 1) n 3 := ⟨_, rfl⟩
 have hGn : n + 1 ≤ G := by rw [hG]; exact grownCap_ge w _ _ _
 have hG63 : G ≤ 9223372036854775807 := by
  have := grownCap_le_maxLen w (n + 1) n 3 (by unfold maxLen; omega)
  rw [← hG] at this; unfold maxLen at this; omega
 obtain ⟨ROW, hROW⟩ : ∃ ROW : Array Value, ROW = (us.take k).toArray ++ Builtin.zeroCells (Value.cells (.int .i64 0)) (n + 1 - k) ++ Builtin.zeroCells (Value.cells (.int .i64 0)) (G - (n + 1)) := ⟨_, rfl⟩
 have hRs : ROW.size = G := by rw [hROW]; simp [Builtin.zeroCells, Value.cells]; omega
 have hRt : ROW.toList.take k = us.take k := by
  rw [hROW, Array.append_assoc, Array.toList_append, List.take_append_of_le_length (by simp; omega), List.toList_toArray, List.take_take, Nat.min_self]
 obtain ⟨W1, hW1⟩ : ∃ W1, W1 = w.drew.alloc (.cells ROW 3) := ⟨_, rfl⟩
 have hrz : ∀ ty, (Builtin.append_ #[25, 3] ty #[.slice (some ⟨g, 0, none⟩) k n, .int .i64 ((n : Int) + 1 - (k : Int))]).run Tryz.prog w = .ok (.slice (some ⟨w.heap.size, 0, none⟩) (n + 1) G) W1 := fun ty => by
  have h := Lib.run_append_grow_zeros (P := Tryz.prog) w 25 3 ty 3 i0 _ .i64 .i64 Tryz.underlying25 Tryz.underlying3 hi0 hz0 (some ⟨g, 0, none⟩) k n (us.take k) hold (n + 1 - k) (by omega) (by omega) (by omega) (by omega) (by rw [hz2]; omega) (by rw [hz2, show k + (n + 1 - k) = n + 1 by omega]; exact growslice_fits (by omega) (by omega))
  rw [show k + (n + 1 - k) = n + 1 by omega, ← hG, ← hROW, ← hW1] at h
  rw [show ((n : Int) + 1 - (k : Int)) = ((n + 1 - k : Nat) : Int) by omega]
  exact h
 have hb1 : W1.heap[w.heap.size]? = some (.cells ROW 3 (0, 0)) := by rw [hW1]; exact heap_at _ _ rfl
 have hold1 : ∀ q, q < w.heap.size → W1.heap[q]? = w.heap[q]? := fun q hq => by rw [hW1]; exact heap_past w.drew _ hq
 have hg1 : w.grownBy W1 none := by rw [hW1]; exact grownBy_trans (grownBy_drew w none) (World.grownBy_alloc _ _ _)
 have hv1 : W1.heap[vb]? = some (.cells #[x] 3 (0, 0)) := (hold1 vb hvl).trans hv
 have hcpA : ∀ ty dc, (Builtin.copy_ #[25, 25] ty #[.slice (some ⟨w.heap.size, k, none⟩) (n + 1 - k) dc, .slice (some ⟨vb, 0, none⟩) 1 1]).run Tryz.prog W1 = .ok (goInt [x].length) (W1.setCells w.heap.size k [x]) := fun ty dc =>
  run_copy_cells W1 _ _ ty 3 w.heap.size k (n + 1 - k) dc ⟨vb, 0, none⟩ 1 1 [x] Tryz.underlying25 hsz (by simp only [Nat.min_def]; split <;> simp <;> omega)
   (fun j v hj => by
    match j, hj with
    | 0, hj => simp at hj; subst hj; rw [addr_add, blk_cell hv1]; rfl
    | j + 1, hj => simp at hj)
   (fun j hj => by rw [blk_cell hb1, List.getElem?_eq_getElem (by simp at hj ⊢; omega)]; rfl) (fun j hj => blk_free hb1 _) (fun v hv => by simp at hv; subst hv; exact hx1)
 obtain ⟨W2, hW2⟩ : ∃ W2, W2 = W1.setCells w.heap.size k [x] := ⟨_, rfl⟩
 obtain ⟨c1, c2⟩ := setCells_block w.heap.size 3 [x] k W1 _ hb1 (by simp; omega)
 rw [← hW2] at c1 c2 hcpA
 obtain ⟨ds, hds⟩ : ∃ ds, ds = us.drop k := ⟨_, rfl⟩
 have hdl : ds.length = n - k := by rw [hds]; simp; omega
 have hs1 : (splice ROW.toList k [x]).length = G := by rw [splice_len _ _ _ (by simp; omega)]; simp [hRs]
 have hg2 : W2.heap[g]? = some (.cells cur 3 (0, 0)) := (c2.block g (by have := hg1.size; omega) (by simp; omega)).trans ((hold1 g hgl).trans hg)
 have c1d : W2.drew.heap[w.heap.size]? = _ := c1
 have hg2d : W2.drew.heap[g]? = _ := hg2
 have hcpB : ∀ ty dc sc, (Builtin.copy_ #[25, 25] ty #[.slice (some ⟨w.heap.size, k + 1, none⟩) (n - k) dc, .slice (some ⟨g, k, none⟩) (n - k) sc]).run Tryz.prog W2.drew = .ok (goInt ds.length) (W2.drew.setCells w.heap.size (k + 1) ds) := fun ty dc sc =>
  run_copy_cells W2.drew _ _ ty 3 w.heap.size (k + 1) (n - k) dc ⟨g, k, none⟩ (n - k) sc ds Tryz.underlying25 hsz (by rw [hdl]; simp only [Nat.min_def]; split <;> omega)
   (fun j v hj => by rw [addr_add, blk_cell hg2d, hcell _ (by have := (List.getElem?_eq_some_iff.1 hj).1; omega), ← hj, hds, List.getElem?_drop])
   (fun j hj => by rw [blk_cell c1d, List.getElem?_eq_getElem (by have := hs1; simp at this hj ⊢; omega)]; rfl) (fun j hj => blk_free c1d _) (fun v hv => h1 v (List.mem_of_mem_drop (by rw [← hds]; exact hv)))
 obtain ⟨d1, d2⟩ := setCells_block w.heap.size 3 ds (k + 1) W2.drew _ c1d (by have := hs1; simp at this ⊢; omega)
 have HP := Lib.hid (show (W2.drew.setCells w.heap.size (k + 1) ds).ownsRow B 3 1 (.slice (some ⟨w.heap.size, 0, none⟩) (n + 1) G) (n + 1) (insAt us k x) by
  refine ⟨by simp [insAt, hus]; omega, Or.inr ⟨w.heap.size, G, _, rfl, hBw, d1, hGn, by unfold maxLen; omega, ?_, ?_⟩⟩
  ·rw [List.size_toArray, splice_len _ _ _ (by have := hs1; simp at this ⊢; omega)]
   simpa using hs1
  ·simp only [Nat.mul_one]
   exact ins_list2 ROW.toList us ds n k x hus (by simp; omega) hk hds hRt)
 have HGR := Lib.hid (show w.grownBy (W2.drew.setCells w.heap.size (k + 1) ds) none from
  ⟨d2.os.trans (c2.os.trans hg1.os), d2.tape.trans (c2.tape.trans hg1.tape), d2.output.trans (c2.output.trans hg1.output), Nat.le_trans hg1.size (Nat.le_trans c2.size d2.size), fun q hq _ =>
   (d2.block q (Nat.lt_of_lt_of_le hq (Nat.le_trans hg1.size c2.size)) (by simp; omega)).trans ((c2.block q (Nat.lt_of_lt_of_le hq hg1.size) (by simp; omega)).trans (hold1 q hq))⟩)
 have hz1' : ¬ ((1 : Int) = 0) := by omega
 have hz2' : ¬ ((k : Int) = (n : Int)) := by omega
 have hz3' : (n : Int) < (n : Int) + 1 := by omega
 have hin' : k ≤ n := by omega
 have hw1 : IntKind.i64.wrap ((k : Int) + 1) = (k : Int) + 1 := by rw [IntKind.wrap_i64]; omega
 have hb1' : (0 : Int) ≤ (k : Int) + 1 := by omega
 have htn : ((k : Int) + 1).toNat = k + 1 := by omega
 have hGi : ¬ (G = k) := by omega
 have hGim : ¬ (G = k + 1) := by omega
 have hci : ¬ (n = k) := by omega
 have hb3 : (k : Int) ≤ (n : Int) + 1 := by omega
 clear hus hcs htake hg h1 hi hcell hds hdl hW1 hW2 hb1 hold1 hg1 hv1 hs1 c1 c2 d1 d2 hg2 c1d hg2d hin hv hz0 hG hROW hRs hRt hold hroom
 go_enter Tryz.func196, Tryz.ntmps196
 go_wp2_with (first
  | (at_builtin; refine Lib.wpList_append_run _ rfl (.tmp 34) (.tmp 39) _ _ rfl _ _ rfl rfl _ _ (hrz _) ?_)
  | (with_reducible refine wpList_copy_eq _ rfl (.tmp 43) (.tmp 44) 25 25 rfl _ _ rfl rfl (hcpA _ _) ?_))
 go_region_law (refine step_copy_eq rfl (.tmp 50) (.tmp 53) 25 25 rfl _ _ (by simp [Act.eval, Act.put]) (by simp [Act.eval, Act.put]) (hcpB _ _ _) ?_)
 go_wp2
 go_ret
 exact ⟨G, rfl, HP.out, HGR.out⟩
/-- slices.Insert of one element, on every road. -/
theorem insertInts_any (B n vb : Nat) (i : Int) (v : Value) (us : List Value) (x : Value) (w : World) (h : w.ownsRow B 3 1 v n us) (h1 : ∀ u ∈ us, u.oneCell' = true) (hx1 : x.oneCell' = true)
  (hv : w.heap[vb]? = some (.cells #[x] 3 (0, 0))) (hne : v.ownBlock ≠ some vb) (hi : 0 ≤ i) (hin : i ≤ n) (hn : n ≤ 1048576) (hBw : B ≤ w.heap.size) :
  Calls Tryz.prog 196 #[v, .int .i64 i, .slice (some ⟨vb, 0, none⟩) 1 1] w fun e w' => ∃ g cap, e = .returned (.slice (some ⟨g, 0, none⟩) (n + 1) cap) ∧ w'.ownsRow B 3 1 (.slice (some ⟨g, 0, none⟩) (n + 1) cap) (n + 1) (insAt us i.toNat x) ∧ w.grownBy w' v.ownBlock ∧ (v.ownBlock = some g ∨ w.heap.size ≤ g) := by
 by_cases he : i = n
 ·subst he
  rw [Int.toNat_natCast]
  exact insertEndInts_any B n vb v us x w h hx1 hv hn hBw
 ·have hlt : i < n := by omega
  obtain ⟨g, cap, rfl, _, _⟩ := h.form (by omega)
  by_cases hr : n + 1 ≤ cap
  ·refine (insertShiftInts_any B g n cap vb i us x w h h1 hx1 hv (by intro e; subst e; exact hne rfl) hi hlt hr hn).mono ?_
   rintro e w' ⟨rfl, a, b⟩
   exact ⟨g, cap, rfl, a, b, Or.inl rfl⟩
  ·refine (insertGrowInts_any B g n cap vb i us x w h h1 hx1 hv hi hlt (by omega) hn hBw).mono ?_
   rintro e w' ⟨G, rfl, a, b⟩
   exact ⟨w.heap.size, G, rfl, a, ⟨b.os, b.tape, b.output, b.size, fun k hk _ => b.block k hk (by simp)⟩, Or.inr (Nat.le_refl _)⟩
set_option maxHeartbeats 2000000 in
set_option maxRecDepth 100000 in
theorem insertShiftRows_any (B g n cap vb : Nat) (i : Int) (us : List Value) (x : Value) (w : World) (h : w.ownsRow B 25 1 (.slice (some ⟨g, 0, none⟩) n cap) n us) (h1 : ∀ u ∈ us, u.oneCell' = true) (hx1 : x.oneCell' = true)
  (hv : w.heap[vb]? = some (.cells #[x] 25 (0, 0))) (hne : vb ≠ g) (hi : 0 ≤ i) (hin : i < n) (hroom : n + 1 ≤ cap) (hn : n ≤ 1048576) :
  Calls Tryz.prog 180 #[.slice (some ⟨g, 0, none⟩) n cap, .int .i64 i, .slice (some ⟨vb, 0, none⟩) 1 1] w fun e w' => e = .returned (.slice (some ⟨g, 0, none⟩) (n + 1) cap) ∧ w'.ownsRow B 25 1 (.slice (some ⟨g, 0, none⟩) (n + 1) cap) (n + 1) (insAt us i.toNat x) ∧ w.grownBy w' (some g) := by
 obtain ⟨k, rfl⟩ := Int.eq_ofNat_of_zero_le hi
 obtain ⟨i0, hi0, hz0, hz1, hz2⟩ := info_parts infoRow
 have hsz : (Tryz.prog.info? 25).map (·.size) = some 1 := by rw [hi0]; simp [hz1]
 obtain ⟨hus, hr⟩ := h
 rcases hr with ⟨hx, _⟩ | ⟨g', cap', cur, hv', hB, hg, hnc, hcm, hcs, htake⟩
 ·cases hx
 cases hv'
 simp only [Nat.mul_one] at hus hcs htake
 unfold maxLen at hcm
 have hk : k < n := by omega
 have hcell : ∀ t, t < n → cur.toList[t]? = us[t]? := fun t ht => by rw [← htake, List.getElem?_take, if_pos ht]
 have hg' : w.drew.heap[g]? = some (.cells cur 25 (0, 0)) := hg
 have hvd : w.drew.heap[vb]? = some (.cells #[x] 25 (0, 0)) := hv
 have hov : ∀ lb cb, (callFunc 181 #[.slice (some ⟨vb, 0, none⟩) 1 1, .slice (some ⟨g, k + 1, none⟩) lb cb]).run Tryz.prog w = .ok (.value (.bool false)) w := fun lb cb => by
  rw [run_callFunc_extern Tryz.func181 (by kernel_rfl) (by kernel_rfl) (by kernel_rfl) (e := Extern.SlicesOverlaps.overlaps #[22, 22] #[4]) (by kernel_rfl),
   Lib.run_overlaps_apart w 22 4 25 Tryz.underlying22 1 Tryz.sizeOf25 ⟨vb, 0, none⟩ ⟨g, k + 1, none⟩ 1 1 lb cb hne 25 25 1 cap (by simp [World.shape?, hv]) (by simp [World.shape?, hg, hcs]) (by omega) (blk_free hv _) (blk_free hv _)]
  rfl
 obtain ⟨ds, hds⟩ : ∃ ds, ds = us.drop k := ⟨_, rfl⟩
 have hdl : ds.length = n - k := by rw [hds]; simp; omega
 have hcp1 : ∀ ty dc sc, (Builtin.copy_ #[22, 22] ty #[.slice (some ⟨g, k + 1, none⟩) (n - k) dc, .slice (some ⟨g, k, none⟩) (n + 1 - k) sc]).run Tryz.prog w.drew = .ok (goInt ds.length) (w.drew.setCells g (k + 1) ds) := fun ty dc sc =>
  run_copy_cells w.drew _ _ ty 25 g (k + 1) (n - k) dc ⟨g, k, none⟩ (n + 1 - k) sc ds Tryz.underlying22 hsz (by rw [hdl]; simp only [Nat.min_def]; split <;> omega)
   (fun j v hj => by rw [addr_add, blk_cell hg', hcell _ (by have := (List.getElem?_eq_some_iff.1 hj).1; omega), ← hj, hds, List.getElem?_drop])
   (fun j hj => by rw [blk_cell hg', List.getElem?_eq_getElem (by simp; omega)]; rfl) (fun j hj => blk_free hg' _) (fun v hv => h1 v (List.mem_of_mem_drop (by rw [← hds]; exact hv)))
 obtain ⟨W1, hW1⟩ : ∃ W1, W1 = w.drew.setCells g (k + 1) ds := ⟨_, rfl⟩
 obtain ⟨b1, b2⟩ := setCells_block g 25 ds (k + 1) w.drew cur hg' (by rw [hdl]; omega)
 rw [← hW1] at b1 b2 hcp1
 have hsz1 : (splice cur.toList (k + 1) ds).length = cap := by rw [splice_len _ _ _ (by simp [hdl]; omega)]; simp [hcs]
 have hvW : W1.heap[vb]? = some (.cells #[x] 25 (0, 0)) := (b2.block vb (Array.getElem?_eq_some_iff.1 hv).1 (by simpa using hne)).trans hv
 have hcp2 : ∀ ty dc, (Builtin.copy_ #[22, 22] ty #[.slice (some ⟨g, k, none⟩) (n + 1 - k) dc, .slice (some ⟨vb, 0, none⟩) 1 1]).run Tryz.prog W1 = .ok (goInt [x].length) (W1.setCells g k [x]) := fun ty dc =>
  run_copy_cells W1 _ _ ty 25 g k (n + 1 - k) dc ⟨vb, 0, none⟩ 1 1 [x] Tryz.underlying22 hsz (by simp only [Nat.min_def]; split <;> simp <;> omega)
   (fun j v hj => by
    match j, hj with
    | 0, hj => simp at hj; subst hj; rw [addr_add, blk_cell hvW]; rfl
    | j + 1, hj => simp at hj)
   (fun j hj => by rw [blk_cell b1, List.getElem?_eq_getElem (by have := hsz1; simp at this hj ⊢; omega)]; rfl) (fun j hj => blk_free b1 _) (fun v hv => by simp at hv; subst hv; exact hx1)
 obtain ⟨c1, c2⟩ := setCells_block g 25 [x] k W1 _ b1 (by have := hsz1; simp at this ⊢; omega)
 have HP := Lib.hid (show (W1.setCells g k [x]).ownsRow B 25 1 (.slice (some ⟨g, 0, none⟩) (n + 1) cap) (n + 1) (insAt us k x) by
  refine ⟨by simp [insAt, hus]; omega, Or.inr ⟨g, cap, _, rfl, hB, c1, by omega, by unfold maxLen; omega, ?_, ?_⟩⟩
  ·rw [List.size_toArray, splice_len _ _ _ (by have := hsz1; simp at this ⊢; omega)]
   simpa using hsz1
  ·simp only [Nat.mul_one]
   exact ins_list cur.toList us ds n k x htake (by simp; omega) hk hds)
 have HGR := Lib.hid (grownBy_trans (grownBy_drew w (some g)) (grownBy_trans b2 c2))
 have HW := Lib.hid hW1
 have hz1' : ¬ ((1 : Int) = 0) := by omega
 have hz2' : ¬ ((k : Int) = (n : Int)) := by omega
 have hin' : k ≤ n := by omega
 have hw1 : IntKind.i64.wrap ((k : Int) + 1) = (k : Int) + 1 := by rw [IntKind.wrap_i64]; omega
 have hb1 : (0 : Int) ≤ (k : Int) + 1 := by omega
 have htn : ((k : Int) + 1).toNat = k + 1 := by omega
 have hb2 : ¬ (cap = k + 1) := by omega
 have hb3 : (k : Int) ≤ (n : Int) + 1 := by omega
 have hb4 : ¬ (cap = k) := by omega
 clear hus hcs htake hg hg' h1 hi hcell hds hdl hW1 b1 b2 hsz1 c1 c2 hin hv hvd hvW hz0
 go_enter Tryz.func180, Tryz.ntmps180
 go_wp2_with (simp only [hov])
 go_region_law (refine step_copy_eq rfl (.tmp 73) (.tmp 76) 22 22 rfl _ _ (by simp [Act.eval, Act.put]) (by simp [Act.eval, Act.put]) (hcp1 _ _ _) ?_)
 go_wp2_with (with_reducible refine wpList_copy_eq _ rfl (.tmp 80) (.tmp 81) 22 22 rfl _ _ rfl rfl (hcp2 _ _) ?_)
 go_ret
 exact ⟨rfl, HP.out, HGR.out⟩
set_option maxHeartbeats 1000000 in
set_option maxRecDepth 100000 in
theorem insertEndRows_any (B n vb : Nat) (v : Value) (us : List Value) (x : Value) (w : World) (h : w.ownsRow B 25 1 v n us) (hx1 : x.oneCell' = true)
  (hv : w.heap[vb]? = some (.cells #[x] 25 (0, 0))) (hn : n ≤ 1048576) (hB : B ≤ w.heap.size) :
  Calls Tryz.prog 180 #[v, .int .i64 n, .slice (some ⟨vb, 0, none⟩) 1 1] w fun e w' => ∃ g cap, e = .returned (.slice (some ⟨g, 0, none⟩) (n + 1) cap) ∧ w'.ownsRow B 25 1 (.slice (some ⟨g, 0, none⟩) (n + 1) cap) (n + 1) (insAt us n x) ∧ w.grownBy w' v.ownBlock ∧ (v.ownBlock = some g ∨ w.heap.size ≤ g) := by
 obtain ⟨i0, hi0, hz0, hz1, hz2⟩ := info_parts infoRow
 have hus : us.length = n := by simpa using h.1
 have hins : insAt us n x = us ++ [x] := by simp [insAt, ← hus]
 have HI := Lib.hid hins; clear hins
 have hnw : Hid (∀ j u, ([x] : List Value)[j]? = some u → w.cell? ((⟨vb, 0, none⟩ : Addr).add j) = some u) := fun j u hj => by
  match j, hj with
  | 0, hj => simp at hj; subst hj; rw [addr_add, blk_cell hv]; rfl
  | j + 1, hj => simp at hj
 have h1x : Hid (∀ u ∈ ([x] : List Value), u.oneCell' = true) := fun u hu => by simp at hu; subst hu; exact hx1
 have HO := Lib.hid h
 rcases h.2 with ⟨rfl, rfl⟩ | ⟨g, cap, cur, rfl, _, _, hnc, hcm, _⟩
 ·clear h hus hv
  go_enter Tryz.func180, Tryz.ntmps180
  go_wp2_with (at_builtin; refine wpList_append_lies _ rfl (.tmp 23) (.tmp 24) 22 rfl B 25 i0 (.slice none 0 0) 1 24 Tryz.underlying22 hi0 hz0 hz1 hz2 rfl (by decide) _ 0 us rfl HO.out ⟨vb, 0, none⟩ 1 1 [x] rfl rfl hnw.out h1x.out (by decide) (by decide) (by decide) hB w.heap.size rfl ?_; intro g cap w1 hown hgr hwh hlt)
  go_ret
  exact ⟨g, cap, rfl, by rw [HI.out]; exact hown, hgr, hwh.imp id fun e => by omega⟩
 ·unfold maxLen at hcm
  have hb0 : (n + 1) ≤ maxLen := by unfold maxLen; omega
  have hb1 : (n + 1) * 24 ≤ 140737488355328 := by omega
  have HB0 := Lib.hid hb0; have HB1 := Lib.hid hb1
  clear h hus hv hb0 hb1 hn
  go_enter Tryz.func180, Tryz.ntmps180
  go_wp2_with (at_builtin; refine wpList_append_lies _ rfl (.tmp 23) (.tmp 24) 22 rfl B 25 i0 (.slice none 0 0) 1 24 Tryz.underlying22 hi0 hz0 hz1 hz2 rfl (by decide) _ n us rfl HO.out ⟨vb, 0, none⟩ 1 1 [x] rfl rfl hnw.out h1x.out (by decide) HB0.out HB1.out hB w.heap.size rfl ?_; intro g cap w1 hown hgr hwh hlt)
  all_goals (go_ret; exact ⟨g, cap, rfl, by rw [HI.out]; exact hown, hgr, hwh.imp id fun e => by omega⟩)
set_option maxHeartbeats 2000000 in
set_option maxRecDepth 100000 in
theorem insertGrowRows_any (B g n cap vb : Nat) (i : Int) (us : List Value) (x : Value) (w : World) (h : w.ownsRow B 25 1 (.slice (some ⟨g, 0, none⟩) n cap) n us) (h1 : ∀ u ∈ us, u.oneCell' = true) (hx1 : x.oneCell' = true)
  (hv : w.heap[vb]? = some (.cells #[x] 25 (0, 0))) (hi : 0 ≤ i) (hin : i < n) (hroom : cap < n + 1) (hn : n ≤ 1048576) (hBw : B ≤ w.heap.size) :
  Calls Tryz.prog 180 #[.slice (some ⟨g, 0, none⟩) n cap, .int .i64 i, .slice (some ⟨vb, 0, none⟩) 1 1] w fun e w' => ∃ G, e = .returned (.slice (some ⟨w.heap.size, 0, none⟩) (n + 1) G) ∧ w'.ownsRow B 25 1 (.slice (some ⟨w.heap.size, 0, none⟩) (n + 1) G) (n + 1) (insAt us i.toNat x) ∧ w.grownBy w' none := by
 obtain ⟨k, rfl⟩ := Int.eq_ofNat_of_zero_le hi
 obtain ⟨i0, hi0, hz0, hz1, hz2⟩ := info_parts infoRow
 have hsz : (Tryz.prog.info? 25).map (·.size) = some 1 := by rw [hi0]; simp [hz1]
 obtain ⟨hus, hr⟩ := h
 rcases hr with ⟨hx, _⟩ | ⟨g', cap', cur, hv', hB, hg, hnc, hcm, hcs, htake⟩
 ·cases hx
 cases hv'
 simp only [Nat.mul_one] at hus hcs htake
 unfold maxLen at hcm
 have hk : k < n := by omega
 obtain rfl : n = cap := by omega
 have hgl : g < w.heap.size := (Array.getElem?_eq_some_iff.1 hg).1
 have hvl : vb < w.heap.size := (Array.getElem?_eq_some_iff.1 hv).1
 have hcell : ∀ t, t < n → cur.toList[t]? = us[t]? := fun t ht => by rw [← htake, List.getElem?_take, if_pos ht]
 have hold : (Builtin.firstCells i0.size k (.slice (some ⟨g, 0, none⟩) k n)).run Tryz.prog w.drew = .ok (us.take k).toArray w.drew := by
  rw [hz1]
  exact run_firstCells_some w.drew 1 k ⟨g, 0, none⟩ k n (us.take k) (by simp; omega) (fun j v hj => by
   have hjk := (List.getElem?_eq_some_iff.1 hj).1
   simp at hjk
   rw [addr_add, blk_cell (show w.drew.heap[g]? = some (.cells cur 25 (0, 0)) from hg), Nat.zero_add, hcell _ (by omega), ← hj, List.getElem?_take, if_pos (by omega)])
 obtain ⟨G, hG⟩ : ∃ G, G = grownCap w (n + 1) n 25 := ⟨_, rfl⟩
 have hGn : n + 1 ≤ G := by rw [hG]; exact grownCap_ge w _ _ _
 have hG63 : G ≤ 9223372036854775807 := by
  have := grownCap_le_maxLen w (n + 1) n 25 (by unfold maxLen; omega)
  rw [← hG] at this; unfold maxLen at this; omega
 obtain ⟨ROW, hROW⟩ : ∃ ROW : Array Value, ROW = (us.take k).toArray ++ Builtin.zeroCells (Value.cells (.slice none 0 0)) (n + 1 - k) ++ Builtin.zeroCells (Value.cells (.slice none 0 0)) (G - (n + 1)) := ⟨_, rfl⟩
 have hRs : ROW.size = G := by rw [hROW]; simp [Builtin.zeroCells, Value.cells]; omega
 have hRt : ROW.toList.take k = us.take k := by
  rw [hROW, Array.append_assoc, Array.toList_append, List.take_append_of_le_length (by simp; omega), List.toList_toArray, List.take_take, Nat.min_self]
 obtain ⟨W1, hW1⟩ : ∃ W1, W1 = w.drew.alloc (.cells ROW 25) := ⟨_, rfl⟩
 have hrz : ∀ ty, (Builtin.append_ #[22, 3] ty #[.slice (some ⟨g, 0, none⟩) k n, .int .i64 ((n : Int) + 1 - (k : Int))]).run Tryz.prog w = .ok (.slice (some ⟨w.heap.size, 0, none⟩) (n + 1) G) W1 := fun ty => by
  have h := Lib.run_append_grow_zeros (P := Tryz.prog) w 22 3 ty 25 i0 _ .i64 .i64 Tryz.underlying22 Tryz.underlying3 hi0 hz0 (some ⟨g, 0, none⟩) k n (us.take k) hold (n + 1 - k) (by omega) (by omega) (by omega) (by omega) (by rw [hz2]; omega) (by rw [hz2, show k + (n + 1 - k) = n + 1 by omega]; exact growslice_fits (by omega) (by omega))
  rw [show k + (n + 1 - k) = n + 1 by omega, ← hG, ← hROW, ← hW1] at h
  rw [show ((n : Int) + 1 - (k : Int)) = ((n + 1 - k : Nat) : Int) by omega]
  exact h
 have hb1 : W1.heap[w.heap.size]? = some (.cells ROW 25 (0, 0)) := by rw [hW1]; exact heap_at _ _ rfl
 have hold1 : ∀ q, q < w.heap.size → W1.heap[q]? = w.heap[q]? := fun q hq => by rw [hW1]; exact heap_past w.drew _ hq
 have hg1 : w.grownBy W1 none := by rw [hW1]; exact grownBy_trans (grownBy_drew w none) (World.grownBy_alloc _ _ _)
 have hv1 : W1.heap[vb]? = some (.cells #[x] 25 (0, 0)) := (hold1 vb hvl).trans hv
 have hcpA : ∀ ty dc, (Builtin.copy_ #[22, 22] ty #[.slice (some ⟨w.heap.size, k, none⟩) (n + 1 - k) dc, .slice (some ⟨vb, 0, none⟩) 1 1]).run Tryz.prog W1 = .ok (goInt [x].length) (W1.setCells w.heap.size k [x]) := fun ty dc =>
  run_copy_cells W1 _ _ ty 25 w.heap.size k (n + 1 - k) dc ⟨vb, 0, none⟩ 1 1 [x] Tryz.underlying22 hsz (by simp only [Nat.min_def]; split <;> simp <;> omega)
   (fun j v hj => by
    match j, hj with
    | 0, hj => simp at hj; subst hj; rw [addr_add, blk_cell hv1]; rfl
    | j + 1, hj => simp at hj)
   (fun j hj => by rw [blk_cell hb1, List.getElem?_eq_getElem (by simp at hj ⊢; omega)]; rfl) (fun j hj => blk_free hb1 _) (fun v hv => by simp at hv; subst hv; exact hx1)
 obtain ⟨W2, hW2⟩ : ∃ W2, W2 = W1.setCells w.heap.size k [x] := ⟨_, rfl⟩
 obtain ⟨c1, c2⟩ := setCells_block w.heap.size 25 [x] k W1 _ hb1 (by simp; omega)
 rw [← hW2] at c1 c2 hcpA
 obtain ⟨ds, hds⟩ : ∃ ds, ds = us.drop k := ⟨_, rfl⟩
 have hdl : ds.length = n - k := by rw [hds]; simp; omega
 have hs1 : (splice ROW.toList k [x]).length = G := by rw [splice_len _ _ _ (by simp; omega)]; simp [hRs]
 have hg2 : W2.heap[g]? = some (.cells cur 25 (0, 0)) := (c2.block g (by have := hg1.size; omega) (by simp; omega)).trans ((hold1 g hgl).trans hg)
 have c1d : W2.drew.heap[w.heap.size]? = _ := c1
 have hg2d : W2.drew.heap[g]? = _ := hg2
 have hcpB : ∀ ty dc sc, (Builtin.copy_ #[22, 22] ty #[.slice (some ⟨w.heap.size, k + 1, none⟩) (n - k) dc, .slice (some ⟨g, k, none⟩) (n - k) sc]).run Tryz.prog W2.drew = .ok (goInt ds.length) (W2.drew.setCells w.heap.size (k + 1) ds) := fun ty dc sc =>
  run_copy_cells W2.drew _ _ ty 25 w.heap.size (k + 1) (n - k) dc ⟨g, k, none⟩ (n - k) sc ds Tryz.underlying22 hsz (by rw [hdl]; simp only [Nat.min_def]; split <;> omega)
   (fun j v hj => by rw [addr_add, blk_cell hg2d, hcell _ (by have := (List.getElem?_eq_some_iff.1 hj).1; omega), ← hj, hds, List.getElem?_drop])
   (fun j hj => by rw [blk_cell c1d, List.getElem?_eq_getElem (by have := hs1; simp at this hj ⊢; omega)]; rfl) (fun j hj => blk_free c1d _) (fun v hv => h1 v (List.mem_of_mem_drop (by rw [← hds]; exact hv)))
 obtain ⟨d1, d2⟩ := setCells_block w.heap.size 25 ds (k + 1) W2.drew _ c1d (by have := hs1; simp at this ⊢; omega)
 have HP := Lib.hid (show (W2.drew.setCells w.heap.size (k + 1) ds).ownsRow B 25 1 (.slice (some ⟨w.heap.size, 0, none⟩) (n + 1) G) (n + 1) (insAt us k x) by
  refine ⟨by simp [insAt, hus]; omega, Or.inr ⟨w.heap.size, G, _, rfl, hBw, d1, hGn, by unfold maxLen; omega, ?_, ?_⟩⟩
  ·rw [List.size_toArray, splice_len _ _ _ (by have := hs1; simp at this ⊢; omega)]
   simpa using hs1
  ·simp only [Nat.mul_one]
   exact ins_list2 ROW.toList us ds n k x hus (by simp; omega) hk hds hRt)
 have HGR := Lib.hid (show w.grownBy (W2.drew.setCells w.heap.size (k + 1) ds) none from
  ⟨d2.os.trans (c2.os.trans hg1.os), d2.tape.trans (c2.tape.trans hg1.tape), d2.output.trans (c2.output.trans hg1.output), Nat.le_trans hg1.size (Nat.le_trans c2.size d2.size), fun q hq _ =>
   (d2.block q (Nat.lt_of_lt_of_le hq (Nat.le_trans hg1.size c2.size)) (by simp; omega)).trans ((c2.block q (Nat.lt_of_lt_of_le hq hg1.size) (by simp; omega)).trans (hold1 q hq))⟩)
 have hz1' : ¬ ((1 : Int) = 0) := by omega
 have hz2' : ¬ ((k : Int) = (n : Int)) := by omega
 have hz3' : (n : Int) < (n : Int) + 1 := by omega
 have hin' : k ≤ n := by omega
 have hw1 : IntKind.i64.wrap ((k : Int) + 1) = (k : Int) + 1 := by rw [IntKind.wrap_i64]; omega
 have hb1' : (0 : Int) ≤ (k : Int) + 1 := by omega
 have htn : ((k : Int) + 1).toNat = k + 1 := by omega
 have hGi : ¬ (G = k) := by omega
 have hGim : ¬ (G = k + 1) := by omega
 have hci : ¬ (n = k) := by omega
 have hb3 : (k : Int) ≤ (n : Int) + 1 := by omega
 clear hus hcs htake hg h1 hi hcell hds hdl hW1 hW2 hb1 hold1 hg1 hv1 hs1 c1 c2 d1 d2 hg2 c1d hg2d hin hv hz0 hG hROW hRs hRt hold hroom
 go_enter Tryz.func180, Tryz.ntmps180
 go_wp2_with (first
  | (at_builtin; refine Lib.wpList_append_run _ rfl (.tmp 34) (.tmp 39) _ _ rfl _ _ rfl rfl _ _ (hrz _) ?_)
  | (with_reducible refine wpList_copy_eq _ rfl (.tmp 43) (.tmp 44) 22 22 rfl _ _ rfl rfl (hcpA _ _) ?_))
 go_region_law (refine step_copy_eq rfl (.tmp 50) (.tmp 53) 22 22 rfl _ _ (by simp [Act.eval, Act.put]) (by simp [Act.eval, Act.put]) (hcpB _ _ _) ?_)
 go_wp2
 go_ret
 exact ⟨G, rfl, HP.out, HGR.out⟩
/-- slices.Insert of one element, on every road. -/
theorem insertRows_any (B n vb : Nat) (i : Int) (v : Value) (us : List Value) (x : Value) (w : World) (h : w.ownsRow B 25 1 v n us) (h1 : ∀ u ∈ us, u.oneCell' = true) (hx1 : x.oneCell' = true)
  (hv : w.heap[vb]? = some (.cells #[x] 25 (0, 0))) (hne : v.ownBlock ≠ some vb) (hi : 0 ≤ i) (hin : i ≤ n) (hn : n ≤ 1048576) (hBw : B ≤ w.heap.size) :
  Calls Tryz.prog 180 #[v, .int .i64 i, .slice (some ⟨vb, 0, none⟩) 1 1] w fun e w' => ∃ g cap, e = .returned (.slice (some ⟨g, 0, none⟩) (n + 1) cap) ∧ w'.ownsRow B 25 1 (.slice (some ⟨g, 0, none⟩) (n + 1) cap) (n + 1) (insAt us i.toNat x) ∧ w.grownBy w' v.ownBlock ∧ (v.ownBlock = some g ∨ w.heap.size ≤ g) := by
 by_cases he : i = n
 ·subst he
  rw [Int.toNat_natCast]
  exact insertEndRows_any B n vb v us x w h hx1 hv hn hBw
 ·have hlt : i < n := by omega
  obtain ⟨g, cap, rfl, _, _⟩ := h.form (by omega)
  by_cases hr : n + 1 ≤ cap
  ·refine (insertShiftRows_any B g n cap vb i us x w h h1 hx1 hv (by intro e; subst e; exact hne rfl) hi hlt hr hn).mono ?_
   rintro e w' ⟨rfl, a, b⟩
   exact ⟨g, cap, rfl, a, b, Or.inl rfl⟩
  ·refine (insertGrowRows_any B g n cap vb i us x w h h1 hx1 hv hi hlt (by omega) hn hBw).mono ?_
   rintro e w' ⟨G, rfl, a, b⟩
   exact ⟨w.heap.size, G, rfl, a, ⟨b.os, b.tape, b.output, b.size, fun k hk _ => b.block k hk (by simp)⟩, Or.inr (Nat.le_refl _)⟩
end Go.Proofs.YtjdbfokbgmbphaaGreatDoor
