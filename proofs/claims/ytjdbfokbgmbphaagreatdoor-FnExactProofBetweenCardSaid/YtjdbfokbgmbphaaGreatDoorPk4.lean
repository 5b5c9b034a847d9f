/- Two systems (two steps) that read alike are told to be equal. Conditions: lengths of at most maxLen. | A block's cells written one behind the other; what is owned behind it. No conditions. | slices.Delete of one element, at slices of the call's own. Conditions: lengths of at most 2^20. -/
import Derived.Test.YtjdbfokbgmbphaaGreatDoorPk3
import Derived.Lib.SliceRun
import Derived.Deep.RegionLaw
import Derived.Laws.CopyOwn
import Derived.Laws.Externs
import Derived.Laws.IdiomCopy
import Derived.Lib.Overlaps
import Derived.Lib.AppendZeros
import Derived.Lib.AppendZerosOnto
import Derived.Deep.AppendLies
namespace Go.Proofs.YtjdbfokbgmbphaaGreatDoor
set_option linter.unusedVariables false
set_option linter.unusedSimpArgs false
open Go.RowKit
set_option maxHeartbeats 1000000 in
theorem eqSystem_same (v h : Int) (A A2 : Option Addr) (cap cap2 : Nat) (rows : List (List Int)) (w : World) (h1 : RowsAt w A rows) (h2 : RowsAt w A2 rows) (hm : rows.length ≤ maxLen) (hms : ∀ r ∈ rows, r.length ≤ maxLen) :
  Calls Tryz.prog 18 #[.agg #[.int .i64 v, .int .i64 h, .slice A rows.length cap], .agg #[.int .i64 v, .int .i64 h, .slice A2 rows.length cap2]] w fun e w' => e = .returned (.bool true) ∧ Below w.heap.size w w' := by
 have hB := ((Below.refl w.heap.size w).alloc (by simp) (.cells #[.int .i64 v, .int .i64 h, .slice A rows.length cap] 30)).alloc (by simp) (.cells #[.int .i64 v, .int .i64 h, .slice A2 rows.length cap2] 30)
 have HB := Lib.hid hB
 have g1 := h1.ext hB
 have g2 := h2.ext hB
 clear hB h1 h2
 have F := Lib.hid (decide_eq_true (rfl : rows = rows))
 go_enter Tryz.func18, Tryz.ntmps18
 go_wp2_with ((go_at_call 54; refine (Calls.bool_eq' (eqIntSS_any _ _ _ _ _ _ _ g1 g2 hm hm hms hms) F.out).mono ?_; rintro e w' ⟨rfl, hb⟩; have Hb := Lib.hid hb; clear hb))
 go_ret
 exact ⟨rfl, HB.out.trans (Hb.out.mono (by simp <;> omega))⟩
set_option maxHeartbeats 1000000 in
theorem eqStep_same (k a b c : Int) (A A2 : Option Addr) (cap cap2 : Nat) (xs : List Int) (w : World) (h1 : IntsAt w A xs) (h2 : IntsAt w A2 xs) (hm : xs.length ≤ maxLen) :
  Calls Tryz.prog 19 #[.agg #[.int .i64 k, .int .i64 a, .int .i64 b, .int .i64 c, .slice A xs.length cap], .agg #[.int .i64 k, .int .i64 a, .int .i64 b, .int .i64 c, .slice A2 xs.length cap2]] w fun e w' => e = .returned (.bool true) ∧ Below w.heap.size w w' := by
 have hB := ((Below.refl w.heap.size w).alloc (by simp) (.cells #[.int .i64 k, .int .i64 a, .int .i64 b, .int .i64 c, .slice A xs.length cap] 34)).alloc (by simp) (.cells #[.int .i64 k, .int .i64 a, .int .i64 b, .int .i64 c, .slice A2 xs.length cap2] 34)
 have HB := Lib.hid hB
 have g1 := h1.ext hB
 have g2 := h2.ext hB
 clear hB h1 h2
 have F := Lib.hid (decide_eq_true (rfl : xs = xs))
 go_enter Tryz.func19, Tryz.ntmps19
 go_wp2_with ((go_at_call 55; refine (Calls.bool_eq' (eqIntS_any _ _ _ _ _ _ _ g1 g2 hm hm) F.out).mono ?_; rintro e w' ⟨rfl, hb⟩; have Hb := Lib.hid hb; clear hb))
 go_ret
 exact ⟨rfl, HB.out.trans (Hb.out.mono (by simp <;> omega))⟩
theorem splice_len (cur : List Value) (o : Nat) (vs : List Value) (h : o + vs.length ≤ cur.length) : (splice cur o vs).length = cur.length := length_splice cur o vs h
theorem set_splice (cur : List Value) (o : Nat) (v : Value) (vs : List Value) (h : o + 1 + vs.length ≤ cur.length) : splice (cur.set o v) (o + 1) vs = splice cur o (v :: vs) := by
 unfold splice
 have e1 : (cur.set o v).take (o + 1) = cur.take o ++ [v] := by
  rw [List.take_add_one, List.take_set_of_le (Nat.le_refl _), List.getElem?_set_self (by omega)]; rfl
 have e2 : (cur.set o v).drop (o + 1 + vs.length) = cur.drop (o + (v :: vs).length) := by
  rw [List.drop_set_of_lt (by omega)]
  simp [Nat.add_assoc, Nat.add_comm 1]
 rw [e1, e2]
 simp
theorem setCells_block (g : Nat) (E : TypeId) : ∀ (vs : List Value) (o : Nat) (w : World) (cur : Array Value), w.heap[g]? = some (.cells cur E (0, 0)) → o + vs.length ≤ cur.size →
  (w.setCells g o vs).heap[g]? = some (.cells (splice cur.toList o vs).toArray E (0, 0)) ∧ w.grownBy (w.setCells g o vs) (some g)
 | [], o, w, cur, h, _ => by
  refine ⟨?_, ⟨rfl, rfl, rfl, Nat.le_refl _, fun _ _ _ => rfl⟩⟩
  simp only [World.setCells, splice, List.nil_append, List.length_nil, Nat.add_zero, List.take_append_drop]
  simpa using h
 | v :: vs, o, w, cur, h, hl => by
  simp only [List.length_cons] at hl
  have hlt := (Array.getElem?_eq_some_iff.1 h).1
  have h' : (w.setCell ⟨g, o, none⟩ v).heap[g]? = some (.cells (cur.setIfInBounds o v) E (0, 0)) := by
   have := (Array.getElem?_eq_some_iff.1 h).2
   show (w.heap.modify g _)[g]? = _
   rw [Array.getElem?_modify, if_pos rfl, h]
   simp
  obtain ⟨i1, i2⟩ := setCells_block g E vs (o + 1) _ _ h' (by simp; omega)
  refine ⟨?_, ?_⟩
  ·show ((w.setCell ⟨g, o, none⟩ v).setCells g (o + 1) vs).heap[g]? = _
   rw [i1, Array.toList_setIfInBounds, set_splice _ _ _ _ (by simp; omega)]
  ·refine ⟨i2.os, i2.tape, i2.output, by have := i2.size; rw [World.size_setCell] at this; exact this, fun k hk hne => ?_⟩
   have hk' : k < (w.setCell ⟨g, o, none⟩ v).heap.size := by rw [World.size_setCell]; exact hk
   exact (i2.block k hk' hne).trans (Below.heap_setCell _ _ _ _ (by intro e; exact hne (by rw [e])))
theorem grownBy_trans {a b c : World} {row : Option Nat} (h : a.grownBy b row) (k : b.grownBy c row) : a.grownBy c row :=
 ⟨k.os.trans h.os, k.tape.trans h.tape, k.output.trans h.output, Nat.le_trans h.size k.size, fun i hi hne => (k.block i (Nat.lt_of_lt_of_le hi h.size) hne).trans (h.block i hi hne)⟩
theorem grownBy_drew (w : World) (row : Option Nat) : w.grownBy w.drew row := ⟨rfl, rfl, rfl, Nat.le_refl _, fun _ _ _ => rfl⟩
/-- Cells of a block, by its content. -/
theorem blk_cell {w : World} {g : Nat} {E : TypeId} {cur : Array Value} (h : w.heap[g]? = some (.cells cur E (0, 0))) (j : Nat) : w.cell? ⟨g, j, none⟩ = cur.toList[j]? := by
 simp [World.cell?, h]
theorem blk_free {w : World} {g : Nat} {E : TypeId} {cur : Array Value} (h : w.heap[g]? = some (.cells cur E (0, 0))) (j : Nat) : w.frozen? ⟨g, j, none⟩ = false := by
 simp [World.frozen?, h]
theorem take_splice (cur : List Value) (o : Nat) (vs : List Value) (h : o ≤ cur.length) : (splice cur o vs).take o = cur.take o := by
 unfold splice
 rw [List.take_append_of_le_length (by simp; omega), List.take_take]
 simp
theorem take_splice_all (cur : List Value) (o : Nat) (vs : List Value) (h : o ≤ cur.length) : (splice cur o vs).take (o + vs.length) = cur.take o ++ vs := by
 unfold splice
 rw [← List.append_assoc, List.take_append_of_le_length (by simp; omega)]
 rw [List.take_of_length_le (by simp; omega)]
theorem del_list (cur us news zs : List Value) (n k m : Nat) (htake : cur.take n = us) (hn : n ≤ cur.length) (hk : k < n) (hnews : news = us.drop (k + 1)) (hm : m + 1 = n) (hlen : news.length = n - (k + 1)) :
  (splice (splice cur k news) m zs).take (n - 1) = us.eraseIdx k := by
 have e1 : n - 1 = m := by omega
 have e2 : m = k + news.length := by omega
 rw [e1, take_splice _ _ _ (by rw [splice_len _ _ _ (by omega)]; omega), e2, take_splice_all _ _ _ (by omega), hnews, List.eraseIdx_eq_take_drop_succ, ← htake, List.take_take, Nat.min_eq_left (by omega)]
/-- The operation 'copy', its run known by an equation: in the text's order, and as one step of a region that draws. -/
theorem wpList_copy_eq (w : World) {P : Program} {ops : Array Oper} {rest : List Oper} {o : Oper} {a : Act} {Q : Exit → Act → World → Prop} (hgd : o.guard = none) (d s : Operand) (t t' : TypeId)
  (ho : o.op = .call { callee := .builtin .copy, args := #[d, s], argTypes := #[t, t'] }) (v u : Value) (hd : a.eval d = v) (hs : a.eval s = u) {v' : Value} {w' : World}
  (hr : (Builtin.copy_ #[t, t'] o.type #[v, u]).run P w = .ok v' w') (h : wpList P ops Q rest (a.put o.dst v') w') : wpList P ops Q (o :: rest) a w := by
 refine wpList_plain hgd fun K hK => ?_
 unfold Oper.wp execOp
 simp only [ho, resolve, invoke, builtin, Sem.run_bind, Sem.run_pure, Result.andThen_ok, List.map_toArray, List.map_cons, List.map_nil, hd, hs, hr]
 exact hK _ _ h
theorem step_copy_eq {P : Program} {ops : Array Oper} {o : Oper} {a : Act} {w : World} {K : Act → World → Prop} {Q : Exit → Act → World → Prop} {E : Prop}
  (hg : o.guard = none) (d x : Operand) (dT sT : TypeId) (hop : o.op = Op.call { callee := Callee.builtin Builtin.copy, args := #[d, x], argTypes := #[dT, sT] })
  (v u : Value) (hd : a.eval d = v) (hx : a.eval x = u) {v' : Value} {w' : World} (hr : (Builtin.copy_ #[dT, sT] o.type #[v, u]).run P w = .ok v' w') (hK : K (a.put o.dst v') w') :
  if Region.wanted o (yielded ops a.tmps) = true then Oper.wp P o a w K Q else E := by
 rw [if_pos (show Region.wanted o (yielded ops a.tmps) = true by simp [Region.wanted, hg])]
 unfold Oper.wp execOp
 simp only [hop, resolve, invoke, builtin, Sem.run_bind, Sem.run_pure, Result.andThen_ok, List.map_toArray, List.map_cons, List.map_nil, hd, hx, hr]
 exact hK
def insAt {α : Type} (us : List α) (k : Nat) (x : α) : List α := us.take k ++ x :: us.drop k
theorem ins_list (cur us ds : List Value) (n k : Nat) (x : Value) (htake : cur.take n = us) (hn : n + 1 ≤ cur.length) (hk : k < n) (hds : ds = us.drop k) :
  (splice (splice cur (k + 1) ds) k [x]).take (n + 1) = insAt us k x := by
 have hl : us.length = n := by rw [← htake]; simp; omega
 have hd : ds.length = n - k := by rw [hds]; simp; omega
 have ht : us.take k = cur.take k := by rw [← htake, List.take_take, Nat.min_eq_left (by omega)]
 have e1 : (splice cur (k + 1) ds).take k = cur.take k := by
  have := congrArg (List.take k) (take_splice cur (k + 1) ds (by omega))
  rwa [List.take_take, List.take_take, Nat.min_eq_left (by omega)] at this
 have e2 : (splice cur (k + 1) ds).drop (k + [x].length) = ds ++ cur.drop (k + 1 + ds.length) := by
  unfold splice
  rw [List.drop_append_of_le_length (by simp; omega)]
  simp
 have e3 : splice (splice cur (k + 1) ds) k [x] = (cur.take k ++ x :: ds) ++ cur.drop (k + 1 + ds.length) := by
  show (splice cur (k + 1) ds).take k ++ ([x] ++ (splice cur (k + 1) ds).drop (k + [x].length)) = _
  rw [e1, e2]
  simp
 rw [e3, List.take_append_of_le_length (by simp; omega), List.take_of_length_le (by simp; omega), insAt, ht, hds]
theorem ins_list2 (row us ds : List Value) (n k : Nat) (x : Value) (hl : us.length = n) (hn : n + 1 ≤ row.length) (hk : k < n) (hds : ds = us.drop k) (ht : row.take k = us.take k) :
  (splice (splice row k [x]) (k + 1) ds).take (n + 1) = insAt us k x := by
 have hd : ds.length = n - k := by rw [hds]; simp; omega
 have e1 := take_splice_all row k [x] (by omega)
 have e2 := take_splice_all (splice row k [x]) (k + 1) ds (by rw [splice_len _ _ _ (by simp; omega)]; omega)
 have e3 : k + 1 + ds.length = n + 1 := by omega
 rw [e3] at e2
 rw [e2]
 simp only [List.length_cons, List.length_nil, Nat.zero_add] at e1
 rw [e1, ht, insAt, hds]
 simp
set_option maxHeartbeats 1000000 in
set_option maxRecDepth 100000 in
theorem deleteInts_any (B g n cap : Nat) (i : Int) (us : List Value) (w : World) (h : w.ownsRow B 3 1 (.slice (some ⟨g, 0, none⟩) n cap) n us) (h1 : ∀ u ∈ us, u.oneCell' = true) (hi : 0 ≤ i) (hin : i < n) (hn : n ≤ 1048576) :
  Calls Tryz.prog 191 #[.slice (some ⟨g, 0, none⟩) n cap, .int .i64 i, .int .i64 (i + 1)] w fun e w' => e = .returned (.slice (some ⟨g, 0, none⟩) (n - 1) cap) ∧ w'.ownsRow B 3 1 (.slice (some ⟨g, 0, none⟩) (n - 1) cap) (n - 1) (us.eraseIdx i.toNat) ∧ w.grownBy w' (some g) := by
 obtain ⟨k, rfl⟩ := Int.eq_ofNat_of_zero_le hi
 obtain ⟨i0, hi0, hz0, hz1, hz2⟩ := info_parts infoInt
 obtain ⟨hus, hr⟩ := h
 rcases hr with ⟨hx, _⟩ | ⟨g', cap', cur, hv, hB, hg, hnc, hcm, hcs, htake⟩
 ·cases hx
 cases hv
 simp only [Nat.mul_one] at hus hcs htake
 have hk : k < n := by omega
 obtain ⟨j, hj⟩ : ∃ j, j = k + 1 := ⟨_, rfl⟩
 rw [show ((k : Int) + 1) = (j : Int) by omega]
 have hcell : ∀ t, t < n → cur.toList[t]? = us[t]? := fun t ht => by rw [← htake, List.getElem?_take, if_pos ht]
 have hg' : w.drew.heap[g]? = some (.cells cur 3 (0, 0)) := hg
 obtain ⟨news, hnews⟩ : ∃ news, news = us.drop j := ⟨_, rfl⟩
 have hlen : news.length = n - j := by rw [hnews]; simp; omega
 obtain ⟨A, hA, hsrc⟩ : ∃ A : Addr, (if cap = j then some (⟨g, 0, none⟩ : Addr) else some ⟨g, j, none⟩) = some A ∧ Hid (∀ t u, news[t]? = some u → w.drew.cell? (A.add t) = some u) := by
  by_cases hc : cap = j
  ·refine ⟨⟨g, 0, none⟩, by simp [hc], fun t u hu => ?_⟩
   have h0 : news.length = 0 := by rw [hlen]; omega
   rw [List.length_eq_zero_iff.1 h0] at hu
   simp at hu
  ·refine ⟨⟨g, j, none⟩, by simp [hc], fun t u hu => ?_⟩
   have ht : t < n - j := by have := (List.getElem?_eq_some_iff.1 hu).1; rwa [hlen] at this
   rw [addr_add, blk_cell hg', hcell _ (by omega), ← hu, hnews, List.getElem?_drop]
 have s1 : Hid (news.length = (n - j) * 1) := by rw [Nat.mul_one]; exact hlen
 have s2 : Hid (∀ u ∈ news, u.oneCell' = true) := by
  intro u hu
  rw [hnews] at hu
  exact h1 u (List.mem_of_mem_drop hu)
 have s3 : Hid (∀ t, t < news.length → (w.drew.cell? ⟨g, 0 + k * 1 + t, none⟩).isSome = true ∧ w.drew.frozen? ⟨g, 0 + k * 1 + t, none⟩ = false) := by
  intro t ht
  rw [hlen] at ht
  refine ⟨?_, blk_free hg' _⟩
  rw [blk_cell hg', List.getElem?_eq_getElem (by simp; omega)]
  rfl
 obtain ⟨W1, hW1⟩ : ∃ W1, W1 = w.drew.setCells g (0 + k * 1) news := ⟨_, rfl⟩
 obtain ⟨b1, b2⟩ := setCells_block g 3 news (0 + k * 1) w.drew cur hg' (by rw [hlen]; omega)
 rw [← hW1] at b1 b2
 have hsz1 : (splice cur.toList (0 + k * 1) news).length = cap := by rw [splice_len _ _ _ (by simp [hlen]; omega)]; simp [hcs]
 have hcl : ∀ ty, (Builtin.clear_ #[25] ty #[.slice (some ⟨g, k + (n - j), none⟩) (n - (k + (n - j))) (cap - (k + (n - j)))]).run Tryz.prog W1 = .ok (.tuple #[]) (W1.setCells g (k + (n - j)) (List.replicate (n - (k + (n - j))) (.int .i64 0))) :=
  fun ty => Lib.run_clear_slice (P := Tryz.prog) W1 25 3 ty (.int .i64 0) Tryz.underlying25 (fun _ => by kernel_rfl) rfl rfl g (k + (n - j)) _ _ (by omega)
   (fun t ht => by rw [blk_cell b1, List.getElem?_eq_getElem (by have := hsz1; simp at this ⊢; omega)]; rfl) (fun t ht => blk_free b1 _)
 obtain ⟨c1, c2⟩ := setCells_block g 3 (List.replicate (n - (k + (n - j))) (.int .i64 0)) (k + (n - j)) W1 _ b1 (by have := hsz1; simp at this ⊢; omega)
 have HP := Lib.hid (show (W1.setCells g (k + (n - j)) (List.replicate (n - (k + (n - j))) (.int .i64 0))).ownsRow B 3 1 (.slice (some ⟨g, 0, none⟩) (n - 1) cap) (n - 1) (us.eraseIdx k) by
  refine ⟨by simp [List.length_eraseIdx, hus, hk], Or.inr ⟨g, cap, _, rfl, hB, c1, by omega, hcm, ?_, ?_⟩⟩
  ·rw [List.size_toArray, splice_len _ _ _ (by have := hsz1; simp at this ⊢; omega)]
   simpa using hsz1
  ·skip
   simp only [Nat.mul_one, Nat.zero_add]
   exact del_list cur.toList us news _ n k (k + (n - j)) htake (by simp; omega) hk (by rw [hnews, hj]) (by omega) (by rw [hlen]; omega))
 have HGR := Lib.hid (grownBy_trans (grownBy_drew w (some g)) (grownBy_trans b2 c2))
 have HW := Lib.hid hW1
 have hkj : k < j := by omega
 have hjn : j ≤ n := by omega
 have hjc : j ≤ cap := by omega
 have hkc : k ≤ cap := by omega
 have hx1 : k + (n - j) < cap := by omega
 have hx2 : k + (n - j) ≤ n := by omega
 have hx3 : k + (n - j) + 1 = n := by omega
 have HX := Lib.hid hx3
 unfold maxLen at hcm
 clear hus hcs htake hg hg' h1 hi hcell hnews hlen hW1 b1 b2 hsz1 c1 c2 hin hj hx3
 go_enter Tryz.func191, Tryz.ntmps191
 go_wp2_with fail
 go_region_law (refine step_append_room rfl (.tmp 22) (.tmp 25) 25 rfl 3 i0 1 Tryz.underlying25 hi0 hz1 g 0 k cap (by simp [Act.eval, Act.put]) A (n - j) (cap - j) news (by simp [Act.eval, Act.put]) s1.out hsrc.out s2.out (by omega) s3.out ?_; rw [← HW.out])
 go_wp2
 go_ret
 refine ⟨?_, ?_, HGR.out⟩
 ·rw [show k + (n - j) = n - 1 by have := HX.out; omega]
  rfl
 ·exact HP.out
set_option maxHeartbeats 1000000 in
set_option maxRecDepth 100000 in
theorem deleteRows_any (B g n cap : Nat) (i : Int) (us : List Value) (w : World) (h : w.ownsRow B 25 1 (.slice (some ⟨g, 0, none⟩) n cap) n us) (h1 : ∀ u ∈ us, u.oneCell' = true) (hi : 0 ≤ i) (hin : i < n) (hn : n ≤ 1048576) :
  Calls Tryz.prog 175 #[.slice (some ⟨g, 0, none⟩) n cap, .int .i64 i, .int .i64 (i + 1)] w fun e w' => e = .returned (.slice (some ⟨g, 0, none⟩) (n - 1) cap) ∧ w'.ownsRow B 25 1 (.slice (some ⟨g, 0, none⟩) (n - 1) cap) (n - 1) (us.eraseIdx i.toNat) ∧ w.grownBy w' (some g) := by
 obtain ⟨k, rfl⟩ := Int.eq_ofNat_of_zero_le hi
 obtain ⟨i0, hi0, hz0, hz1, hz2⟩ := info_parts infoRow
 obtain ⟨hus, hr⟩ := h
 rcases hr with ⟨hx, _⟩ | ⟨g', cap', cur, hv, hB, hg, hnc, hcm, hcs, htake⟩
 ·cases hx
 cases hv
 simp only [Nat.mul_one] at hus hcs htake
 have hk : k < n := by omega
 obtain ⟨j, hj⟩ : ∃ j, j = k + 1 := ⟨_, rfl⟩
 rw [show ((k : Int) + 1) = (j : Int) by omega]
 have hcell : ∀ t, t < n → cur.toList[t]? = us[t]? := fun t ht => by rw [← htake, List.getElem?_take, if_pos ht]
 have hg' : w.drew.heap[g]? = some (.cells cur 25 (0, 0)) := hg
 obtain ⟨news, hnews⟩ : ∃ news, news = us.drop j := ⟨_, rfl⟩
 have hlen : news.length = n - j := by rw [hnews]; simp; omega
 obtain ⟨A, hA, hsrc⟩ : ∃ A : Addr, (if cap = j then some (⟨g, 0, none⟩ : Addr) else some ⟨g, j, none⟩) = some A ∧ Hid (∀ t u, news[t]? = some u → w.drew.cell? (A.add t) = some u) := by
  by_cases hc : cap = j
  ·refine ⟨⟨g, 0, none⟩, by simp [hc], fun t u hu => ?_⟩
   have h0 : news.length = 0 := by rw [hlen]; omega
   rw [List.length_eq_zero_iff.1 h0] at hu
   simp at hu
  ·refine ⟨⟨g, j, none⟩, by simp [hc], fun t u hu => ?_⟩
   have ht : t < n - j := by have := (List.getElem?_eq_some_iff.1 hu).1; rwa [hlen] at this
   rw [addr_add, blk_cell hg', hcell _ (by omega), ← hu, hnews, List.getElem?_drop]
 have s1 : Hid (news.length = (n - j) * 1) := by rw [Nat.mul_one]; exact hlen
 have s2 : Hid (∀ u ∈ news, u.oneCell' = true) := by
  intro u hu
  rw [hnews] at hu
  exact h1 u (List.mem_of_mem_drop hu)
 have s3 : Hid (∀ t, t < news.length → (w.drew.cell? ⟨g, 0 + k * 1 + t, none⟩).isSome = true ∧ w.drew.frozen? ⟨g, 0 + k * 1 + t, none⟩ = false) := by
  intro t ht
  rw [hlen] at ht
  refine ⟨?_, blk_free hg' _⟩
  rw [blk_cell hg', List.getElem?_eq_getElem (by simp; omega)]
  rfl
 obtain ⟨W1, hW1⟩ : ∃ W1, W1 = w.drew.setCells g (0 + k * 1) news := ⟨_, rfl⟩
 obtain ⟨b1, b2⟩ := setCells_block g 25 news (0 + k * 1) w.drew cur hg' (by rw [hlen]; omega)
 rw [← hW1] at b1 b2
 have hsz1 : (splice cur.toList (0 + k * 1) news).length = cap := by rw [splice_len _ _ _ (by simp [hlen]; omega)]; simp [hcs]
 have hcl : ∀ ty, (Builtin.clear_ #[22] ty #[.slice (some ⟨g, k + (n - j), none⟩) (n - (k + (n - j))) (cap - (k + (n - j)))]).run Tryz.prog W1 = .ok (.tuple #[]) (W1.setCells g (k + (n - j)) (List.replicate (n - (k + (n - j))) (.slice none 0 0))) :=
  fun ty => Lib.run_clear_slice (P := Tryz.prog) W1 22 25 ty (.slice none 0 0) Tryz.underlying22 (fun _ => by kernel_rfl) rfl rfl g (k + (n - j)) _ _ (by omega)
   (fun t ht => by rw [blk_cell b1, List.getElem?_eq_getElem (by have := hsz1; simp at this ⊢; omega)]; rfl) (fun t ht => blk_free b1 _)
 obtain ⟨c1, c2⟩ := setCells_block g 25 (List.replicate (n - (k + (n - j))) (.slice none 0 0)) (k + (n - j)) W1 _ b1 (by have := hsz1; simp at this ⊢; omega)
 have HP := Lib.hid (show (W1.setCells g (k + (n - j)) (List.replicate (n - (k + (n - j))) (.slice none 0 0))).ownsRow B 25 1 (.slice (some ⟨g, 0, none⟩) (n - 1) cap) (n - 1) (us.eraseIdx k) by
  refine ⟨by simp [List.length_eraseIdx, hus, hk], Or.inr ⟨g, cap, _, rfl, hB, c1, by omega, hcm, ?_, ?_⟩⟩
  ·rw [List.size_toArray, splice_len _ _ _ (by have := hsz1; simp at this ⊢; omega)]
   simpa using hsz1
  ·skip
   simp only [Nat.mul_one, Nat.zero_add]
   exact del_list cur.toList us news _ n k (k + (n - j)) htake (by simp; omega) hk (by rw [hnews, hj]) (by omega) (by rw [hlen]; omega))
 have HGR := Lib.hid (grownBy_trans (grownBy_drew w (some g)) (grownBy_trans b2 c2))
 have HW := Lib.hid hW1
 have hkj : k < j := by omega
 have hjn : j ≤ n := by omega
 have hjc : j ≤ cap := by omega
 have hkc : k ≤ cap := by omega
 have hx1 : k + (n - j) < cap := by omega
 have hx2 : k + (n - j) ≤ n := by omega
 have hx3 : k + (n - j) + 1 = n := by omega
 have HX := Lib.hid hx3
 unfold maxLen at hcm
 clear hus hcs htake hg hg' h1 hi hcell hnews hlen hW1 b1 b2 hsz1 c1 c2 hin hj hx3
 go_enter Tryz.func175, Tryz.ntmps175
 go_wp2_with fail
 go_region_law (refine step_append_room rfl (.tmp 22) (.tmp 25) 22 rfl 25 i0 1 Tryz.underlying22 hi0 hz1 g 0 k cap (by simp [Act.eval, Act.put]) A (n - j) (cap - j) news (by simp [Act.eval, Act.put]) s1.out hsrc.out s2.out (by omega) s3.out ?_; rw [← HW.out])
 go_wp2
 go_ret
 refine ⟨?_, ?_, HGR.out⟩
 ·rw [show k + (n - j) = n - 1 by have := HX.out; omega]
  rfl
 ·exact HP.out
end Go.Proofs.YtjdbfokbgmbphaaGreatDoor
