/- Copies of slices of integers: append of a whole slice (clone, l1Own), make and stores (toIntS, zeros). Conditions: lengths of at most 2^40. -/
import Derived.Test.YtjdbfokbgmbphaaGreatDoorOwn1
namespace Go.Proofs.YtjdbfokbgmbphaaGreatDoor
set_option linter.unusedVariables false
set_option linter.unusedSimpArgs false
open Go.RowKit

theorem run_append_none {P : Program} {w : World} (base : Nat) (t ty e : TypeId) (i : TypeInfo) (size : Nat) (ht : P.underlying t = some (.slice e)) (hi : P.info? e = some i)
    (v : Value) (n c : Nat) (xs : List Value) (hown : w.ownsRow base e size v n xs) :
    (Builtin.append_ #[t, t] ty #[v, .slice none 0 c]).run P w = .ok v w := by
  rcases hown.2 with ⟨rfl, rfl⟩ | ⟨g, cap, cur, rfl, _, _, hnc, _⟩
  · simp [Builtin.append_, run_underlying ht, sizeOf, typeInfo, hi, Builtin.lenOf, Builtin.firstCells]
  · simp [Builtin.append_, run_underlying ht, sizeOf, typeInfo, hi, Builtin.lenOf, Builtin.firstCells, hnc, storeCells]

theorem addr_add (b o j : Nat) : (⟨b, o, none⟩ : Addr).add j = ⟨b, o + j, none⟩ := by unfold Addr.add; split <;> simp_all

/-- 'append(s, l...)' of numbers, s the call's own. -/
theorem wp_appendAll {ops : Array Oper} {rest : List Oper} {o : Oper} {a : Act} {Q : Exit → Act → World → Prop} (hgd : o.guard = none) (s x : Operand)
    (ho : o.op = .call { callee := .builtin .append, args := #[s, x], argTypes := #[25, 25] }) (B : Nat) (W : World) (v : Value) (xs ys : List Int) (A : Option Addr) (c : Nat)
    (hs : a.eval s = v) (hx : a.eval x = .slice A ys.length c) (hown : OwnInts W B v xs) (hat : IntsAt W A ys) (hlen : xs.length + ys.length ≤ 1099511627776) (hB : B ≤ W.heap.size)
    (h : ∀ v' w', OwnInts w' B v' (xs ++ ys) → W.grownBy w' v.ownBlock → Below B W w' → wpList Tryz.prog ops Q rest (a.put o.dst v') w') :
    wpList Tryz.prog ops Q (o :: rest) a W := by
  obtain ⟨i0, hi, hz0, hz1, hz2⟩ := info_parts infoInt
  cases A with
  | none =>
    have hy : ys = [] := by
      rcases hat with h | ⟨b, o, h, _⟩
      · exact h
      · cases h
    subst hy
    refine wpList_plain hgd fun K hK => ?_
    have hrun := run_append_none (P := Tryz.prog) (w := W) B 25 o.type 3 i0 1 Tryz.underlying25 hi v _ c _ hown
    unfold Oper.wp
    simp only [List.length_nil] at hx
    simp [execOp, ho, resolve, invoke, builtin, hs, hx, hrun, Result.andThen]
    exact hK _ _ (h v W (by simpa using hown) ⟨rfl, rfl, rfl, Nat.le_refl _, fun _ _ _ => rfl⟩ (Below.refl _ _))
  | some ad =>
    refine wpList_append_own _ hgd s x 25 ho B 3 i0 (.int .i64 0) 1 8 Tryz.underlying25 hi hz0 hz1 hz2 rfl (by decide) v _ _ hs hown ad ys.length c (ys.map (Value.int .i64)) hx (by simp) ?_ ?_ ?_ ?_ ?_ ?_
    · intro j u hj
      rw [List.getElem?_map] at hj
      obtain ⟨y, hy, rfl⟩ := Option.map_eq_some_iff.1 hj
      rcases hat with h | ⟨b, o, h, hc⟩
      · simp [h] at hy
      · cases h; rw [addr_add]; exact hc j y hy
    · intro u hu
      obtain ⟨y, _, rfl⟩ := List.mem_map.1 hu
      rfl
    · unfold maxLen; omega
    · omega
    · omega
    · intro v' w' hown' hgrow _
      exact h v' w' (by simpa [OwnInts] using hown') hgrow ((Below.refl _ _).grown hgrow hB fun k hk => (World.ownsRow.lt hown k hk).1)

/-- A row of numbers in a block just made. -/
theorem OwnInts.lit (W : World) (B : Nat) (hB : B ≤ W.heap.size) : OwnInts (W.alloc (.cells #[] 3)) B (.slice (some ⟨W.heap.size, 0, none⟩) 0 0) [] :=
  World.ownsRow_lit W #[] 0 hB (by decide) rfl

theorem clone_any (A : Option Addr) (cap : Nat) (xs : List Int) (w : World) (h : IntsAt w A xs) (hm : xs.length ≤ 1099511627776) :
    Calls Tryz.prog 120 #[.slice A xs.length cap] w fun e w' => ∃ u, e = .returned u ∧ OwnInts w' w.heap.size u xs ∧ Below w.heap.size w w' := by
  have hB := (Below.refl w.heap.size w).alloc (Nat.le_refl _) (.cells #[] 3)
  have hA := h.ext hB
  go_enter Tryz.func120, Tryz.ntmps120
  go_wp2_with ((at_builtin; refine wp_appendAll rfl _ _ rfl w.heap.size _ _ [] xs A cap rfl rfl (OwnInts.lit _ _ (Nat.le_refl _)) hA (by simpa using hm) (by simp) ?_; intro u' w1 hown1 _ hbel1))
  go_ret
  exact ⟨_, rfl, hown1, hB.trans hbel1⟩

theorem l1Own_any (A : Option Addr) (cap : Nat) (xs : List Int) (w : World) (h : IntsAt w A xs) (hm : xs.length ≤ 1099511627776) :
    Calls Tryz.prog 74 #[.slice A xs.length cap] w fun e w' => ∃ u, e = .returned u ∧ OwnInts w' w.heap.size u xs ∧ Below w.heap.size w w' := by
  have hB := (Below.refl w.heap.size w).alloc (Nat.le_refl _) (.cells #[] 3)
  have hA := h.ext hB
  go_enter Tryz.func74, Tryz.ntmps74
  go_wp2_with ((at_builtin; refine wp_appendAll rfl _ _ rfl w.heap.size _ _ [] xs A cap rfl rfl (OwnInts.lit _ _ (Nat.le_refl _)) hA (by simpa using hm) (by simp) ?_; intro u' w1 hown1 _ hbel1))
  go_ret
  exact ⟨_, rfl, hown1, hB.trans hbel1⟩
theorem made_ints (n : Nat) : (madeCells (Value.int .i64 0).cells (n * 1)).toList = (List.replicate n (0 : Int)).map (Value.int .i64) := by
  apply List.ext_getElem?
  intro k
  simp only [madeCells, Value.cells, Nat.mul_one, Array.toList_map, Array.toList_range, List.getElem?_map, List.getElem?_replicate]
  by_cases hk : k < n
  · simp [hk, Nat.mod_one]
  · simp [hk]

theorem grown_none_below {w w' : World} (h : w.grownBy w' none) : Below w.heap.size w w' := ⟨h.os, h.tape, h.output, h.size, fun k hk => h.block k hk (by simp)⟩

theorem zeros_any (n : Nat) (w : World) (hm : n ≤ 1099511627776) :
    Calls Tryz.prog 140 #[.int .i64 n] w fun e w' => ∃ u, e = .returned u ∧ OwnInts w' w.heap.size u (List.replicate n 0) ∧ Below w.heap.size w w' := by
  obtain ⟨i0, hi, hz0, hz1, hz2⟩ := info_parts infoInt
  go_enter Tryz.func140, Tryz.ntmps140
  go_wp2_with ((at_make; refine wpList_make_full _ rfl _ _ 25 rfl w.heap.size 3 i0 (.int .i64 0) 1 Tryz.underlying25 hi hz0 hz1 .i64 .i64 n n n rfl rfl rfl rfl (by rw [hz2]; omega) (by unfold maxLen; omega) (Nat.le_refl _) ?_; intro w1 hown hgrow))
  go_ret
  refine ⟨_, rfl, ?_, grown_none_below hgrow⟩
  rw [made_ints] at hown
  simpa [OwnInts] using hown

/-- The first k elements, zeros (z) behind them. -/
def fillTo {α : Type} (xs : List α) (z : α) (k : Nat) : List α := xs.take k ++ List.replicate (xs.length - k) z
theorem fillTo_zero {α : Type} (xs : List α) (z : α) : fillTo xs z 0 = List.replicate xs.length z := by simp [fillTo]
theorem fillTo_all {α : Type} (xs : List α) (z : α) (k : Nat) (h : xs.length ≤ k) : fillTo xs z k = xs := by simp [fillTo, List.take_of_length_le h]; omega
theorem fillTo_get {α : Type} (xs : List α) (z : α) (k : Nat) (h : k < xs.length) : (fillTo xs z k)[k]? = some z := by
  rw [fillTo, List.getElem?_append_right (by simp; omega), List.getElem?_replicate, if_pos (by simp; omega)]
theorem fillTo_set {α : Type} (xs : List α) (z x : α) (k : Nat) (h : xs[k]? = some x) : (fillTo xs z k).set k x = fillTo xs z (k + 1) := by
  have hk : k < xs.length := (List.getElem?_eq_some_iff.1 h).1
  unfold fillTo
  rw [List.set_append_right _ _ (by simp; omega), List.take_add_one, h]
  have e1 : xs.length - k = (xs.length - (k + 1)) + 1 := by omega
  have e2 : k - (xs.take k).length = 0 := by simp; omega
  rw [e1, e2, List.replicate_succ, List.set_cons_zero]
  simp

set_option maxHeartbeats 1000000 in
theorem toIntS_any (A : Option Addr) (cap : Nat) (xs : List Int) (w : World) (h : IntsAt w A xs) (hm : xs.length ≤ 1099511627776) :
    Calls Tryz.prog 51 #[.slice A xs.length cap] w fun e w' => ∃ u, e = .returned u ∧ OwnInts w' w.heap.size u xs ∧ Below w.heap.size w w' := by
  obtain ⟨i0, hi, hz0, hz1, hz2⟩ := info_parts infoInt
  go_enter Tryz.func51, Tryz.ntmps51
  go_wp2_with ((at_make; refine wpList_make_full _ rfl _ _ 25 rfl w.heap.size 3 i0 (.int .i64 0) 1 Tryz.underlying25 hi hz0 hz1 .i64 .i64 xs.length xs.length xs.length rfl rfl rfl rfl (by rw [hz2]; omega) (by unfold maxLen; omega) (Nat.le_refl _) ?_; intro w1 hown hgrow))
  rw [made_ints, ← fillTo_zero] at hown
  have hbel0 := grown_none_below hgrow
  have HO := Lib.hid hown
  clear hown hgrow
  go_loopw [4] (fun i wr => ∃ k : Nat, k ≤ xs.length ∧ i = .int .i64 k ∧ wr.ownsRow w.heap.size 3 1 (.slice (some ⟨w.heap.size, 0, none⟩) xs.length xs.length) xs.length ((fillTo xs 0 k).map (Value.int .i64)) ∧ Below w.heap.size w wr)
    (fun i _ => xs.length - (intOf i).toNat)
  case atStart => exact ⟨0, Nat.zero_le _, rfl, HO.out, hbel0⟩
  case round =>
    obtain ⟨k, hk, rfl, hown, hbel⟩ := hrel
    clear HO hbel0
    by_cases hlt : k < xs.length
    · obtain ⟨x, hx⟩ := get_of_lt hlt
      obtain ⟨b, o, rfl, hc⟩ := (h.ext hbel).here hlt
      have hcx := hc _ _ hx
      have hcell : wr.cell? ⟨w.heap.size, k, none⟩ = some (.int .i64 0) := by
        rw [hown.cellAt k (by omega), List.getElem?_map, fillTo_get _ _ _ hlt]; rfl
      have hfr := hown.frozenAt k
      have hst := (hown.stored k (.int .i64 x)).1
      rw [← List.map_set, fillTo_set _ _ _ _ hx] at hst
      have HS := Lib.hid hst
      have hb1 := hbel.setCell (p := ⟨w.heap.size, k, none⟩) (Nat.le_refl _) (.int .i64 x)
      have HB := Lib.hid hb1
      clear hst hb1 hx hc hown h
      go_wp2
      go_roundw
      case rel => exact ⟨k+1, by omega, by go_num, HS.out, HB.out⟩
      case measure => simp [intOf]; omega
    · go_wp2
      go_ret
      rw [fillTo_all _ _ _ (by omega)] at hown
      exact ⟨_, rfl, hown, hbel⟩
end Go.Proofs.YtjdbfokbgmbphaaGreatDoor
