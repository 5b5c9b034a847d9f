/- A block's cells written one behind the other; what is owned behind it. No conditions. -/
import Derived.Test.YtjdbfokbgmbphaaGreatDoorLaw2
import Derived.Lib.SliceRun
import Derived.Deep.RegionLaw
import Derived.Laws.CopyOwn
import Derived.Laws.Externs
import Derived.Laws.IdiomCopy
import Derived.Lib.Overlaps
import Derived.Lib.AppendZeros
import Derived.Lib.AppendZerosOnto
import Derived.Deep.AppendLies
namespace Go.Proofs.YtjdbfokbgmbphaaGreatDoor
set_option linter.unusedVariables false
set_option linter.unusedSimpArgs false
open Go.RowKit

theorem splice_len (cur : List Value) (o : Nat) (vs : List Value) (h : o + vs.length ≤ cur.length) : (splice cur o vs).length = cur.length := length_splice cur o vs h

theorem set_splice (cur : List Value) (o : Nat) (v : Value) (vs : List Value) (h : o + 1 + vs.length ≤ cur.length) : splice (cur.set o v) (o + 1) vs = splice cur o (v :: vs) := by
  unfold splice
  have e1 : (cur.set o v).take (o + 1) = cur.take o ++ [v] := by
    rw [List.take_add_one, List.take_set_of_le (Nat.le_refl _), List.getElem?_set_self (by omega)]; rfl
  have e2 : (cur.set o v).drop (o + 1 + vs.length) = cur.drop (o + (v :: vs).length) := by
    rw [List.drop_set_of_lt (by omega)]
    simp [Nat.add_assoc, Nat.add_comm 1]
  rw [e1, e2]
  simp

theorem setCells_block (g : Nat) (E : TypeId) : ∀ (vs : List Value) (o : Nat) (w : World) (cur : Array Value), w.heap[g]? = some (.cells cur E (0, 0)) → o + vs.length ≤ cur.size →
    (w.setCells g o vs).heap[g]? = some (.cells (splice cur.toList o vs).toArray E (0, 0)) ∧ w.grownBy (w.setCells g o vs) (some g)
  | [], o, w, cur, h, _ => by
    refine ⟨?_, ⟨rfl, rfl, rfl, Nat.le_refl _, fun _ _ _ => rfl⟩⟩
    simp only [World.setCells, splice, List.nil_append, List.length_nil, Nat.add_zero, List.take_append_drop]
    simpa using h
  | v :: vs, o, w, cur, h, hl => by
    simp only [List.length_cons] at hl
    have hlt := (Array.getElem?_eq_some_iff.1 h).1
    have h' : (w.setCell ⟨g, o, none⟩ v).heap[g]? = some (.cells (cur.setIfInBounds o v) E (0, 0)) := by
      have := (Array.getElem?_eq_some_iff.1 h).2
      show (w.heap.modify g _)[g]? = _
      rw [Array.getElem?_modify, if_pos rfl, h]
      simp
    obtain ⟨i1, i2⟩ := setCells_block g E vs (o + 1) _ _ h' (by simp; omega)
    refine ⟨?_, ?_⟩
    · show ((w.setCell ⟨g, o, none⟩ v).setCells g (o + 1) vs).heap[g]? = _
      rw [i1, Array.toList_setIfInBounds, set_splice _ _ _ _ (by simp; omega)]
    · refine ⟨i2.os, i2.tape, i2.output, by have := i2.size; rw [World.size_setCell] at this; exact this, fun k hk hne => ?_⟩
      have hk' : k < (w.setCell ⟨g, o, none⟩ v).heap.size := by rw [World.size_setCell]; exact hk
      exact (i2.block k hk' hne).trans (Below.heap_setCell _ _ _ _ (by intro e; exact hne (by rw [e])))

theorem grownBy_trans {a b c : World} {row : Option Nat} (h : a.grownBy b row) (k : b.grownBy c row) : a.grownBy c row :=
  ⟨k.os.trans h.os, k.tape.trans h.tape, k.output.trans h.output, Nat.le_trans h.size k.size, fun i hi hne => (k.block i (Nat.lt_of_lt_of_le hi h.size) hne).trans (h.block i hi hne)⟩
theorem grownBy_drew (w : World) (row : Option Nat) : w.grownBy w.drew row := ⟨rfl, rfl, rfl, Nat.le_refl _, fun _ _ _ => rfl⟩

/-- Cells of a block, by its content. -/
theorem blk_cell {w : World} {g : Nat} {E : TypeId} {cur : Array Value} (h : w.heap[g]? = some (.cells cur E (0, 0))) (j : Nat) : w.cell? ⟨g, j, none⟩ = cur.toList[j]? := by
  simp [World.cell?, h]
theorem blk_free {w : World} {g : Nat} {E : TypeId} {cur : Array Value} (h : w.heap[g]? = some (.cells cur E (0, 0))) (j : Nat) : w.frozen? ⟨g, j, none⟩ = false := by
  simp [World.frozen?, h]

theorem take_splice (cur : List Value) (o : Nat) (vs : List Value) (h : o ≤ cur.length) : (splice cur o vs).take o = cur.take o := by
  unfold splice
  rw [List.take_append_of_le_length (by simp; omega), List.take_take]
  simp
theorem take_splice_all (cur : List Value) (o : Nat) (vs : List Value) (h : o ≤ cur.length) : (splice cur o vs).take (o + vs.length) = cur.take o ++ vs := by
  unfold splice
  rw [← List.append_assoc, List.take_append_of_le_length (by simp; omega)]
  rw [List.take_of_length_le (by simp; omega)]
theorem del_list (cur us news zs : List Value) (n k m : Nat) (htake : cur.take n = us) (hn : n ≤ cur.length) (hk : k < n) (hnews : news = us.drop (k + 1)) (hm : m + 1 = n) (hlen : news.length = n - (k + 1)) :
    (splice (splice cur k news) m zs).take (n - 1) = us.eraseIdx k := by
  have e1 : n - 1 = m := by omega
  have e2 : m = k + news.length := by omega
  rw [e1, take_splice _ _ _ (by rw [splice_len _ _ _ (by omega)]; omega), e2, take_splice_all _ _ _ (by omega), hnews, List.eraseIdx_eq_take_drop_succ, ← htake, List.take_take, Nat.min_eq_left (by omega)]

/-- The operation 'copy', its run known by an equation: in the text's order, and as one step of a region that draws. -/
theorem wpList_copy_eq (w : World) {P : Program} {ops : Array Oper} {rest : List Oper} {o : Oper} {a : Act} {Q : Exit → Act → World → Prop} (hgd : o.guard = none) (d s : Operand) (t t' : TypeId)
    (ho : o.op = .call { callee := .builtin .copy, args := #[d, s], argTypes := #[t, t'] }) (v u : Value) (hd : a.eval d = v) (hs : a.eval s = u) {v' : Value} {w' : World}
    (hr : (Builtin.copy_ #[t, t'] o.type #[v, u]).run P w = .ok v' w') (h : wpList P ops Q rest (a.put o.dst v') w') : wpList P ops Q (o :: rest) a w := by
  refine wpList_plain hgd fun K hK => ?_
  unfold Oper.wp execOp
  simp only [ho, resolve, invoke, builtin, Sem.run_bind, Sem.run_pure, Result.andThen_ok, List.map_toArray, List.map_cons, List.map_nil, hd, hs, hr]
  exact hK _ _ h
theorem step_copy_eq {P : Program} {ops : Array Oper} {o : Oper} {a : Act} {w : World} {K : Act → World → Prop} {Q : Exit → Act → World → Prop} {E : Prop}
    (hg : o.guard = none) (d x : Operand) (dT sT : TypeId) (hop : o.op = Op.call { callee := Callee.builtin Builtin.copy, args := #[d, x], argTypes := #[dT, sT] })
    (v u : Value) (hd : a.eval d = v) (hx : a.eval x = u) {v' : Value} {w' : World} (hr : (Builtin.copy_ #[dT, sT] o.type #[v, u]).run P w = .ok v' w') (hK : K (a.put o.dst v') w') :
    if Region.wanted o (yielded ops a.tmps) = true then Oper.wp P o a w K Q else E := by
  rw [if_pos (show Region.wanted o (yielded ops a.tmps) = true by simp [Region.wanted, hg])]
  unfold Oper.wp execOp
  simp only [hop, resolve, invoke, builtin, Sem.run_bind, Sem.run_pure, Result.andThen_ok, List.map_toArray, List.map_cons, List.map_nil, hd, hx, hr]
  exact hK

def insAt {α : Type} (us : List α) (k : Nat) (x : α) : List α := us.take k ++ x :: us.drop k
theorem ins_list (cur us ds : List Value) (n k : Nat) (x : Value) (htake : cur.take n = us) (hn : n + 1 ≤ cur.length) (hk : k < n) (hds : ds = us.drop k) :
    (splice (splice cur (k + 1) ds) k [x]).take (n + 1) = insAt us k x := by
  have hl : us.length = n := by rw [← htake]; simp; omega
  have hd : ds.length = n - k := by rw [hds]; simp; omega
  have ht : us.take k = cur.take k := by rw [← htake, List.take_take, Nat.min_eq_left (by omega)]
  have e1 : (splice cur (k + 1) ds).take k = cur.take k := by
    have := congrArg (List.take k) (take_splice cur (k + 1) ds (by omega))
    rwa [List.take_take, List.take_take, Nat.min_eq_left (by omega)] at this
  have e2 : (splice cur (k + 1) ds).drop (k + [x].length) = ds ++ cur.drop (k + 1 + ds.length) := by
    unfold splice
    rw [List.drop_append_of_le_length (by simp; omega)]
    simp
  have e3 : splice (splice cur (k + 1) ds) k [x] = (cur.take k ++ x :: ds) ++ cur.drop (k + 1 + ds.length) := by
    show (splice cur (k + 1) ds).take k ++ ([x] ++ (splice cur (k + 1) ds).drop (k + [x].length)) = _
    rw [e1, e2]
    simp
  rw [e3, List.take_append_of_le_length (by simp; omega), List.take_of_length_le (by simp; omega), insAt, ht, hds]

theorem ins_list2 (row us ds : List Value) (n k : Nat) (x : Value) (hl : us.length = n) (hn : n + 1 ≤ row.length) (hk : k < n) (hds : ds = us.drop k) (ht : row.take k = us.take k) :
    (splice (splice row k [x]) (k + 1) ds).take (n + 1) = insAt us k x := by
  have hd : ds.length = n - k := by rw [hds]; simp; omega
  have e1 := take_splice_all row k [x] (by omega)
  have e2 := take_splice_all (splice row k [x]) (k + 1) ds (by rw [splice_len _ _ _ (by simp; omega)]; omega)
  have e3 : k + 1 + ds.length = n + 1 := by omega
  rw [e3] at e2
  rw [e2]
  simp only [List.length_cons, List.length_nil, Nat.zero_add] at e1
  rw [e1, ht, insAt, hds]
  simp
end Go.Proofs.YtjdbfokbgmbphaaGreatDoor
