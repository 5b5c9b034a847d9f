/- The laws' marks on rows, systems and steps. Conditions: lengths of at most 2^20. | What the laws keep in hand while arguments and results are marked. No conditions. | The reference's stOwn: a system in memory of its own. Conditions: lengths of at most 2^20. -/
import Derived.Test.YtjdbfokbgmbphaaGreatDoorPk7
import Derived.Test.YtjdbfokbgmbphaaGreatDoorPk4
import Derived.Deep.AppendLies
namespace Go.Proofs.YtjdbfokbgmbphaaGreatDoor
set_option linter.unusedVariables false
set_option linter.unusedSimpArgs false
open Go.RowKit
def tot : List (List Int) → Int
 | [] => 0
 | r :: rs => (r.length : Int) + tot rs
def numRows (k : Int) : List (List Int) → List (List Int)
 | [] => []
 | r :: rs => nums k r.length :: numRows (k + r.length) rs
theorem tot_snoc (l : List (List Int)) (r : List Int) : tot (l ++ [r]) = tot l + r.length := by
 induction l with
 | nil => simp [tot]
 | cons a l ih => simp [tot, ih]; omega
theorem tot_nonneg (l : List (List Int)) : 0 ≤ tot l := by
 induction l with
 | nil => simp [tot]
 | cons a l ih => simp [tot]; omega
theorem tot_le (l : List (List Int)) (h : ∀ r ∈ l, r.length ≤ 1048576) : tot l ≤ (l.length : Int) * 1048576 := by
 induction l with
 | nil => simp [tot]
 | cons a l ih =>
  have h1 := ih fun r hr => h r (by simp [hr])
  have h2 := h a (by simp)
  simp [tot]; omega
theorem numRows_len (k : Int) (l : List (List Int)) : (numRows k l).length = l.length := by
 induction l generalizing k with
 | nil => rfl
 | cons a l ih => simp [numRows, ih]
theorem numRows_snoc (k : Int) (l : List (List Int)) (r : List Int) : numRows k (l ++ [r]) = numRows k l ++ [nums (k + tot l) r.length] := by
 induction l generalizing k with
 | nil => simp [numRows, tot]
 | cons a l ih => simp [numRows, ih, tot, Int.add_assoc]
def numRTo (k : Int) (rows : List (List Int)) (j : Nat) : List (List Int) := numRows k (rows.take j) ++ rows.drop j
theorem numRTo_len (k : Int) (rows : List (List Int)) (j : Nat) (h : j ≤ rows.length) : (numRTo k rows j).length = rows.length := by simp [numRTo, numRows_len]; omega
theorem numRTo_get (k : Int) (rows : List (List Int)) (j : Nat) (h : j < rows.length) : (numRTo k rows j)[j]? = rows[j]? := by
 unfold numRTo
 rw [List.getElem?_append_right (by rw [numRows_len, List.length_take]; omega), numRows_len, List.getElem?_drop]
 congr 1; simp; omega
theorem numRTo_set (k : Int) (rows : List (List Int)) (j : Nat) (r : List Int) (h : rows[j]? = some r) : (numRTo k rows j).set j (nums (k + tot (rows.take j)) r.length) = numRTo k rows (j + 1) := by
 obtain ⟨hl, he⟩ := List.getElem?_eq_some_iff.1 h
 unfold numRTo
 have h1 : (numRows k (rows.take j)).length = j := by rw [numRows_len]; simp; omega
 rw [List.set_append_right _ _ (by omega), h1, Nat.sub_self, List.drop_eq_getElem_cons hl, List.set_cons_zero, List.take_add_one, h, Option.toList_some, numRows_snoc, List.append_assoc]
 rfl
theorem numRTo_all (k : Int) (rows : List (List Int)) (j : Nat) (h : j = rows.length) : numRTo k rows j = numRows k rows := by subst h; simp [numRTo]
theorem tot_take_succ (rows : List (List Int)) (j : Nat) (r : List Int) (h : rows[j]? = some r) : tot (rows.take (j + 1)) = tot (rows.take j) + r.length := by
 rw [List.take_add_one, h, Option.toList_some, tot_snoc]
theorem tot_take_le (rows : List (List Int)) (j : Nat) (hl : rows.length ≤ 1048576) (h : ∀ r ∈ rows, r.length ≤ 1048576) : tot (rows.take j) ≤ 1099511627776 := by
 have h1 := tot_le (rows.take j) fun r hr => h r (List.mem_of_mem_take hr)
 have h2 : (rows.take j).length ≤ rows.length := by rw [List.length_take]; omega
 omega
theorem own_slice {w : World} {B : Nat} {u : Value} {xs : List Int} (h : OwnInts w B u xs) : ∃ A c, u = .slice A xs.length c := by
 obtain ⟨A, c, h1, _⟩ := h.view; exact ⟨A, c, h1⟩
set_option maxHeartbeats 2000000 in
theorem markIntSS_any (k : Int) (lo hi : Nat) (A : Option Addr) (cap : Nat) (rows : List (List Int)) (w : World) (h : Has w lo hi (.slice A rows.length cap) rows) (hl : rows.length ≤ 1048576) (hls : ∀ r ∈ rows, r.length ≤ 1048576) (hk : 0 ≤ k) (hk' : k ≤ 1125899906842624) :
  Calls Tryz.prog 56 #[.slice A rows.length cap, .int .i64 k] w fun e w' => e = .returned (.int .i64 (k + tot rows)) ∧ Has w' lo hi (.slice A rows.length cap) (numRows k rows) ∧ Within lo hi w w' := by
 by_cases h0 : rows.length = 0
 ·have hx : rows = [] := List.eq_nil_of_length_eq_zero h0
  subst hx
  have HH := Lib.hid h
  clear h h0 hls
  go_enter Tryz.func56, Tryz.ntmps56
  go_wp2
  go_loopw [1, 5] (fun q i wr => i = .int .i64 0 ∧ q = .int .i64 k ∧ wr = w) (fun _ _ _ => 0)
  case atStart => exact ⟨rfl, rfl, rfl⟩
  case round =>
   obtain ⟨rfl, rfl, rfl⟩ := hrel
   go_wp2
   go_ret
   exact ⟨ret_int (by simp [tot]), HH.out, Within.refl _ _ _⟩
 ·obtain ⟨us, hus⟩ := h
  obtain ⟨g, cap', hv, hg1, hg2⟩ := World.ownsRow.form hus.own.outer (by omega)
  simp only [Value.slice.injEq] at hv
  obtain ⟨rfl, _, rfl⟩ := hv
  have HU := Lib.hid hus; have HLS := Lib.hid hls
  clear hus hls h0
  go_enter Tryz.func56, Tryz.ntmps56
  go_wp2
  go_loopw [1, 5] (fun q i wr => ∃ j : Nat, j ≤ rows.length ∧ i = .int .i64 j ∧ q = .int .i64 (k + tot (rows.take j)) ∧ HasW wr lo hi (.slice (some ⟨g, 0, none⟩) rows.length cap) (numRTo k rows j) us ∧ Within lo hi w wr)
   (fun _ i _ => rows.length - (intOf i).toNat)
  case atStart => exact ⟨0, Nat.zero_le _, rfl, by simp [tot], by simpa [numRTo, numRows] using HU.out, Within.refl _ _ _⟩
  case round =>
   obtain ⟨j, hj, rfl, rfl, hown, hwi⟩ := hrel
   have ht0 := tot_nonneg (rows.take j)
   have ht1 := tot_take_le rows j hl HLS.out
   by_cases hlt : j < rows.length
   ·obtain ⟨r, hr⟩ := get_of_lt hlt
    have hg := numRTo_get k rows j hlt
    rw [hr] at hg
    obtain ⟨u, hu, ho⟩ := hown.own.get hg
    obtain ⟨Au, cu, rfl⟩ := own_slice ho
    have hcell : wr.cell? ⟨g, j, none⟩ = some (.slice Au r.length cu) := by
     have hou := hown.own.outer
     rw [numRTo_len k rows j hj] at hou
     rw [hou.cellAt j (by omega), hu]
    have HRL := Lib.hid (HLS.out r (List.mem_of_getElem? hr))
    have HO := Lib.hid ho; have HW := Lib.hid hwi; have HR := Lib.hid hr; have HUJ := Lib.hid hu; have HWN := Lib.hid hown
    clear ho hwi hr hu hg hown HU
    go_wp2_with (go_at_call 57; refine (markIntS_any _ lo _ _ r _ HO.out HRL.out (by omega) (by omega)).mono ?_; rintro e w2 ⟨rfl, ho2, hg2⟩; have HO2 := Lib.hid ho2; have HG2 := Lib.hid hg2; clear ho2 hg2)
    go_roundw
    case rel =>
     have hup : ∀ b, (Value.slice Au r.length cu).ownBlock = some b → lo ≤ b ∧ b < hi := fun b hb => ⟨(HO.out.lt b hb).1, HWN.out.ups _ (List.mem_of_getElem? HUJ.out) b hb⟩
     have hin := HWN.out.own.inner HUJ.out HG2.out HO2.out
     rw [numRTo_set k rows j r HR.out] at hin
     exact ⟨j+1, by omega, by go_num, by rw [tot_take_succ rows j r HR.out, Int.add_assoc], ⟨hin, HWN.out.up, HWN.out.ups⟩, HW.out.trans (Within.of_own HG2.out hup)⟩
    case measure => simp [intOf]; omega
   ·have HJ := Lib.hid (show j = rows.length by omega)
    have HO := Lib.hid hown; have HW := Lib.hid hwi
    clear hown hwi
    go_wp2
    go_ret
    rw [numRTo_all k rows j HJ.out] at HO
    exact ⟨ret_int (by rw [HJ.out, List.take_length]), ⟨us, HO.out⟩, HW.out⟩
theorem markSystem_any (k a b : Int) (lo hi : Nat) (A : Option Addr) (cap : Nat) (rows : List (List Int)) (w : World) (h : Has w lo hi (.slice A rows.length cap) rows) (hl : rows.length ≤ 1048576) (hls : ∀ r ∈ rows, r.length ≤ 1048576) (hk : 0 ≤ k) (hk' : k ≤ 1125899906842624) :
  Calls Tryz.prog 20 #[.agg #[.int .i64 a, .int .i64 b, .slice A rows.length cap], .int .i64 k] w fun e w' => e = .returned (.int .i64 (k + tot rows)) ∧ Has w' lo hi (.slice A rows.length cap) (numRows k rows) ∧ Within lo hi w w' := by
 have hB : Below w.heap.size w (w.alloc (.cells #[.int .i64 a, .int .i64 b, .slice A rows.length cap] 30)) := (Below.refl _ _).alloc (Nat.le_refl _) _
 have HH := Lib.hid (h.ext hB); have HB := Lib.hid hB; have HLS := Lib.hid hls
 clear h hB hls
 go_enter Tryz.func20, Tryz.ntmps20
 go_wp2_with (go_at_call 56; refine (markIntSS_any k lo hi A cap rows _ HH.out hl HLS.out hk hk').mono ?_; rintro e w2 ⟨rfl, ho2, hw2⟩; have HO2 := Lib.hid ho2; have HW2 := Lib.hid hw2; clear ho2 hw2)
 go_ret
 exact ⟨rfl, HO2.out, (Within.of_below HB.out).trans HW2.out⟩
theorem len_max {n : Nat} (h : n ≤ 1048576) : n ≤ maxLen := by unfold maxLen; omega
theorem rows_at {w : World} {B n c : Nat} {A : Option Addr} {rows : List (List Int)} (h : OwnRows w B (.slice A n c) rows) : RowsAt w A rows := by
 obtain ⟨A', c', h1, h2, _⟩ := h.view
 simp only [Value.slice.injEq] at h1
 obtain ⟨rfl, _, _⟩ := h1
 exact h2
theorem box_at {w w' : World} {b : Nat} {o : Obj} (h : w.heap[b]? = some o) (hb : Below w.heap.size w w') : w'.heap[b]? = some o := (hb.block b (Array.getElem?_eq_some_iff.1 h).1).trans h
theorem box_in {w w' : World} {b lo hi : Nat} {o : Obj} (h : w.heap[b]? = some o) (hw : Within lo hi w w') (hd : b < lo ∨ hi ≤ b) : w'.heap[b]? = some o := (hw.block b (Array.getElem?_eq_some_iff.1 h).1 hd).trans h
theorem cells_3 {w : World} {b : Nat} {x y z : Value} {t : TypeId} (h : w.heap[b]? = some (.cells #[x, y, z] t (0, 0))) : w.cell? ⟨b, 0, none⟩ = some x ∧ w.cell? ⟨b, 1, none⟩ = some y ∧ w.cell? ⟨b, 2, none⟩ = some z := by
 obtain ⟨h1, h2, h3, _⟩ := box3 (Below.refl _ _) h; exact ⟨h1, h2, h3⟩
theorem cells_5 {w : World} {b : Nat} {x y z u v : Value} {t : TypeId} (h : w.heap[b]? = some (.cells #[x, y, z, u, v] t (0, 0))) : w.cell? ⟨b, 0, none⟩ = some x ∧ w.cell? ⟨b, 1, none⟩ = some y ∧ w.cell? ⟨b, 2, none⟩ = some z ∧ w.cell? ⟨b, 3, none⟩ = some u ∧ w.cell? ⟨b, 4, none⟩ = some v := by
 obtain ⟨h1, _⟩ := box5 (Below.refl _ _) h; exact h1
/-- The result of the reference (box 8), the system (10), the step (11), the program's result (12): each in a box and in slices of blocks of its own. Results are steps. -/
structure US (w2 : World) (E8 E10 E11 E12 : Array Value) (v8 v10 v11 v12 : Value) (r8 : List Int) (R10 : List (List Int)) (r11 r12 : List Int) (l8 h8 b8 l10 h10 b10 l11 h11 b11 l12 h12 b12 : Nat) (W : World) : Prop where
 base : Below w2.heap.size w2 W
 ord : w2.heap.size ≤ b8 ∧ w2.heap.size ≤ l8 ∧ l8 ≤ h8 ∧ (b8 < l8 ∨ h8 ≤ b8) ∧ b8 < l10 ∧ h8 ≤ l10 ∧ l10 ≤ h10 ∧ h10 ≤ b10 ∧ b10 < l11 ∧ l11 ≤ h11 ∧ h11 ≤ b11 ∧ b11 < l12 ∧ l12 ≤ h12 ∧ h12 ≤ b12
 x8 : W.heap[b8]? = some (.cells E8 34 (0, 0))
 x10 : W.heap[b10]? = some (.cells E10 30 (0, 0))
 x11 : W.heap[b11]? = some (.cells E11 34 (0, 0))
 x12 : W.heap[b12]? = some (.cells E12 34 (0, 0))
 o8 : HasI W l8 h8 v8 r8
 o10 : Has W l10 h10 v10 R10
 o11 : HasI W l11 h11 v11 r11
 o12 : HasI W l12 h12 v12 r12
section
variable {w2 : World} {E8 E10 E11 E12 : Array Value} {v8 v10 v11 v12 : Value} {r8 : List Int} {R10 : List (List Int)} {r11 r12 : List Int} {l8 h8 b8 l10 h10 b10 l11 h11 b11 l12 h12 b12 : Nat} {W W' : World}
theorem US.ext (h : US w2 E8 E10 E11 E12 v8 v10 v11 v12 r8 R10 r11 r12 l8 h8 b8 l10 h10 b10 l11 h11 b11 l12 h12 b12 W) (hb : Below W.heap.size W W') : US w2 E8 E10 E11 E12 v8 v10 v11 v12 r8 R10 r11 r12 l8 h8 b8 l10 h10 b10 l11 h11 b11 l12 h12 b12 W' :=
 ⟨below_ext h.base hb, h.ord, box_at h.x8 hb, box_at h.x10 hb, box_at h.x11 hb, box_at h.x12 hb, h.o8.ext hb, h.o10.ext hb, h.o11.ext hb, h.o12.ext hb⟩
end
theorem below_set5 {B : Nat} {w w' : World} (h : Below B w w') {b : Nat} (hb : B ≤ b) (v0 v1 v2 v3 v4 : Value) :
  Below B w (((((w'.setCell ⟨b, 0, none⟩ v0).setCell ⟨b, 1, none⟩ v1).setCell ⟨b, 2, none⟩ v2).setCell ⟨b, 3, none⟩ v3).setCell ⟨b, 4, none⟩ v4) :=
 ((((h.setCell hb _).setCell hb _).setCell hb _).setCell hb _).setCell hb _
theorem set5_cell {w' : World} {b : Nat} {v0 v1 v2 v3 v4 : Value} {p : Addr} (h : p.block ≠ b) :
  (((((w'.setCell ⟨b, 0, none⟩ v0).setCell ⟨b, 1, none⟩ v1).setCell ⟨b, 2, none⟩ v2).setCell ⟨b, 3, none⟩ v3).setCell ⟨b, 4, none⟩ v4).cell? p = w'.cell? p := by
 rw [cell_set_ne h, cell_set_ne h, cell_set_ne h, cell_set_ne h, cell_set_ne h]
/-- 'append(s, r)' of one slice that lies in a block just made, as one step of a region that draws. -/
theorem step_appendRow {ops : Array Oper} {o : Oper} {a : Act} {K : Act → World → Prop} {Q : Exit → Act → World → Prop} {E : Prop} (hgd : o.guard = none) (s x : Operand)
  (ho : o.op = .call { callee := .builtin .append, args := #[s, x], argTypes := #[22, 22] }) (B : Nat) (W0 W : World) (v u : Value) (rows : List (List Int)) (r : List Int)
  (hown : OwnRows W0 B v rows) (hbel : Below W0.heap.size W0 W) (hu : OwnInts W W0.heap.size u r) (hlen : rows.length + 1 ≤ 1073741824) (hB : B ≤ W0.heap.size) (hs : a.eval s = v) (hx : a.eval x = .slice (some ⟨W.heap.size, 0, none⟩) 1 1)
  (h : ∀ g cap w', OwnRows w' B (.slice (some ⟨g, 0, none⟩) (rows.length + 1) cap) (rows ++ [r]) → Below B W0 w' → W.heap.size ≤ w'.heap.size → (∀ k, k < W.heap.size → some k ≠ v.ownBlock → w'.heap[k]? = W.heap[k]?) → K (a.put o.dst (.slice (some ⟨g, 0, none⟩) (rows.length + 1) cap)) w') :
  if Region.wanted o (yielded ops a.tmps) = true then Oper.wp Tryz.prog o a (W.alloc (.cells #[u] 25)) K Q else E := by
 obtain ⟨i0, hi, hz0, hz1, hz2⟩ := info_parts infoRow
 obtain ⟨us, hown⟩ := hown
 have hW := hown.ext hbel
 have ho1 := World.ownsRow.alloc hW.outer (.cells #[u] 25)
 have hsz := hbel.size
 refine step_append_lies _ hgd s x 22 ho B 25 i0 (.slice none 0 0) 1 24 Tryz.underlying22 hi hz0 hz1 hz2 rfl (by decide) v _ _ hs ho1 ⟨W.heap.size, 0, none⟩ 1 1 [u] hx rfl ?_ ?_ (by decide) ?_ ?_ ?_ _ rfl ?_
 ·intro j u' hj
  match j, hj with
  | 0, hj => simp at hj; subst hj; simp [Addr.add]
  | j + 1, hj => simp at hj
 ·intro u' hu'; simp at hu'; subst hu'; obtain ⟨A', c', rfl, _⟩ := hu.view; rfl
 ·unfold maxLen; omega
 ·omega
 ·simp; omega
 ·intro g cap w' hown' hgrow _ _
  have hg : W.grownBy w' v.ownBlock := ⟨hgrow.os, hgrow.tape, hgrow.output, by have := hgrow.size; simp at this; omega, fun k hk hne => (hgrow.block k (by simp; omega) hne).trans (heap_alloc_old W _ hk)⟩
  refine h g cap w' ⟨us ++ [u], ?_, ?_, ?_⟩ (hbel.mono hB |>.trans ((Below.refl _ _).grown hg (by omega) fun k hk => (World.ownsRow.lt hW.outer k hk).1)) hg.size (fun k hk hne => hg.block k hk hne)
  ·simpa using hown'
  ·intro k u' r' hu' hr'
   by_cases hk : k < us.length
   ·rw [List.getElem?_append_left hk] at hu'
    rw [List.getElem?_append_left (by rw [← hown.len]; exact hk)] at hr'
    exact OwnInts.kept (hW.each k u' r' hu' hr') hg (apart_types hW.outer (hW.each k u' r' hu' hr'))
   ·have hk' : k = us.length := by
     have := (List.getElem?_eq_some_iff.1 hu').1
     simp at this; omega
    subst hk'
    simp at hu'
    rw [hown.len] at hr'
    simp at hr'
    subst hu' hr'
    have hkept := OwnInts.kept hu hg (apart_types hW.outer hu)
    exact ⟨hkept.1, hkept.2.imp id fun ⟨g, cap, cur, a1, a2, a3⟩ => ⟨g, cap, cur, a1, by omega, a3⟩⟩
  ·have new : ∀ (i : Nat) (u' : Value) (b : Nat), i < us.length → us[i]? = some u' → u'.ownBlock = some b → u.ownBlock = some b → False := fun i u' b _ h1 h2 h3 => by
    obtain ⟨r', _, ho'⟩ := hown.getR h1
    have a1 := (ho'.lt b h2).2
    have a2 := (hu.lt b h3).1
    omega
   intro i j u1 u2 b h1 h2 h3 h4
   have hi := (List.getElem?_eq_some_iff.1 h1).1
   have hj := (List.getElem?_eq_some_iff.1 h2).1
   simp only [List.length_append, List.length_cons, List.length_nil] at hi hj
   by_cases ci : i < us.length <;> by_cases cj : j < us.length
   ·rw [List.getElem?_append_left ci] at h1
    rw [List.getElem?_append_left cj] at h2
    exact hown.apart i j u1 u2 b h1 h2 h3 h4
   ·rw [List.getElem?_append_left ci] at h1
    obtain rfl : j = us.length := by omega
    simp at h2; subst h2
    exact (new i u1 b ci h1 h3 h4).elim
   ·rw [List.getElem?_append_left cj] at h2
    obtain rfl : i = us.length := by omega
    simp at h1; subst h1
    exact (new j u2 b cj h2 h4 h3).elim
   ·omega
/-- Behind k rounds of stOwn. -/
def StO (v h : Int) (rows : List (List Int)) (w : World) (k : Nat) (wr : World) : Prop :=
 Below w.heap.size w wr ∧ ∃ u, wr.heap[w.heap.size + 1 + 1]? = some (.cells #[.int .i64 v, .int .i64 h, u] 30 (0, 0)) ∧ wr.heap[w.heap.size + 1]? = some (.cells #[.int .i64 0, .int .i64 0, .slice none 0 0] 30 (0, 0)) ∧
  OwnRows wr (w.heap.size + 3) u (rows.take k) ∧ w.heap.size + 3 ≤ wr.heap.size
set_option maxRecDepth 20000 in
set_option maxHeartbeats 4000000 in
theorem stOwn_any (v h : Int) (A : Option Addr) (cap : Nat) (rows : List (List Int)) (w : World) (hR : RowsAt w A rows) (hm : rows.length ≤ 1048576) (hms : ∀ r ∈ rows, r.length ≤ 1048576) :
  Calls Tryz.prog 72 #[.agg #[.int .i64 v, .int .i64 h, .slice A rows.length cap]] w fun e w' => ∃ u, e = .returned (.agg #[.int .i64 v, .int .i64 h, u]) ∧ OwnRows w' w.heap.size u rows ∧ Below w.heap.size w w' := by
 have HM := Lib.hid hm; have HMS := Lib.hid hms
 clear hms
 go_enter Tryz.func72, Tryz.ntmps72
 go_wp2
 go_loopw [14] (fun i wr => ∃ k : Nat, k ≤ rows.length ∧ i = .int .i64 k ∧ StO v h rows w k wr) (fun i _ => rows.length - (intOf i).toNat)
 case atStart =>
  obtain ⟨q0, q1, q2⟩ := heap_at3 w (.cells #[.int .i64 v, .int .i64 h, .slice A rows.length cap] 30) (.cells #[.int .i64 0, .int .i64 0, .slice none 0 0] 30) (.cells #[.int .i64 v, .int .i64 h, .slice none 0 0] 30)
  exact ⟨0, Nat.zero_le _, rfl, below_alloc3 w _ _ _, .slice none 0 0, q2, q1, (Has.nil _ _ 0).own, by simp⟩
 case round =>
  obtain ⟨k, hk, rfl, hbel, u, q2, q1, hown, hsz⟩ := hrel
  by_cases hlt : k < rows.length
  ·obtain ⟨r, hr⟩ := get_of_lt hlt
   obtain ⟨bb, o, rfl, hc⟩ := (hR.ext hbel).here hlt
   obtain ⟨A', cap', hck, hin⟩ := hc _ r hr
   have HIN := Lib.hid hin; have HRL := Lib.hid (HMS.out r (List.mem_of_getElem? hr)); have HRR := Lib.hid hr
   have HB := Lib.hid hbel; have HO := Lib.hid hown; have HQ2 := Lib.hid q2; have HQ1 := Lib.hid q1; have HSZ := Lib.hid hsz
   obtain ⟨Au, cu, hu⟩ : ∃ Au cu, u = .slice Au (rows.take k).length cu := by obtain ⟨A1, c1, e, _⟩ := hown.view; exact ⟨A1, c1, e⟩
   obtain ⟨x0, x1, x2⟩ := cells_3 q2
   clear hR hc hin hr hbel hown q2 q1 hsz
   rw [show (rows.take k).length = k by simp; omega] at hu
   subst hu
   go_upto_region 5 with (fail)
   refine wp_region_T (S := fun W => W.cell? ⟨w.heap.size + 1 + 1, 2, none⟩ = some (.slice Au k cu)) 7 (by kernel_rfl) (by simp [*]) (fun hHeld => ?_)
   refine takeQ 0 (v := ?_) rfl (Or.inl ⟨by rfl, ?_⟩) ?_
   rotate_left
   ·intro w h; (try dsimp only at h); go_simp; (try with_reducible rfl)
   simp only [Act.put, List.setIfInBounds_toArray, List.set_cons_zero, List.set_cons_succ]
   refine takeQ 1 (v := ?_) rfl (Or.inl ⟨by rfl, ?_⟩) ?_
   rotate_left
   ·intro w h; (try dsimp only at h); go_simp; (try with_reducible rfl)
   simp only [Act.put, List.setIfInBounds_toArray, List.set_cons_zero, List.set_cons_succ]
   refine takeQ 2 (v := ?_) rfl (Or.inl ⟨by rfl, ?_⟩) ?_
   rotate_left
   ·intro w h; (try dsimp only at h); go_simp; (try with_reducible rfl)
   simp only [Act.put, List.setIfInBounds_toArray, List.set_cons_zero, List.set_cons_succ]
   refine oneT (i := 3) (by kernel_rfl) rfl (fun K hK => ?_)
   go_simp
   refine (l1Own_any A' cap' r _ (HIN.out.ext (Below.refl _ _).drew) (by have := HRL.out; omega)).mono ?_
   rintro e w2 ⟨u2, rfl, hu2, hb2⟩
   obtain ⟨A2, c2, rfl, _⟩ := hu2.view
   have H2 := Lib.hid ((Below.refl wr.heap.size wr).drew.trans hb2)
   have HU2 := Lib.hid hu2
   clear hu2 hb2
   go_simp
   refine hK.out _ _ (fun _ => ext_cell H2.out x2) (fun hHeld => ?_)
   clear hK K
   try simp only [Act.put, List.setIfInBounds_toArray, List.set_cons_zero, List.set_cons_succ]
   have hHeld := hHeld (by decide)
   refine oneT (i := 4) (by kernel_rfl) rfl (fun K hK => ?_)
   go_simp
   refine hK.out _ _ (fun _ => ext_cell (H2.out.alloc H2.out.size _) x2) (fun hHeld => ?_)
   clear hK K
   try simp only [Act.put, List.setIfInBounds_toArray, List.set_cons_zero, List.set_cons_succ]
   have hHeld := hHeld (by decide)
   refine oneT (i := 5) (by kernel_rfl) rfl (fun K hK => ?_)
   refine step_appendRow rfl (.tmp 19) (.tmp 22) rfl (w.heap.size + 3) wr w2 (.slice Au k cu) (.slice A2 r.length c2) (rows.take k) r HO.out H2.out HU2.out (by simp; omega) HSZ.out rfl rfl ?_
   intro g capg w3 hown3 hbel3 _ _
   rw [show (rows.take k).length + 1 = k + 1 by simp; omega] at hown3 ⊢
   have q2' : w3.heap[w.heap.size + 1 + 1]? = _ := (hbel3.block _ (by omega)).trans HQ2.out
   have q1' : w3.heap[w.heap.size + 1]? = _ := (hbel3.block _ (by omega)).trans HQ1.out
   obtain ⟨y0, y1, y2, f0, f1, f2⟩ := box3 (Below.refl _ _) q2'
   have HQ2' := Lib.hid q2'; have HQ1' := Lib.hid q1'; have HO3 := Lib.hid hown3; have HB3 := Lib.hid hbel3
   clear q2' q1' hown3 hbel3
   refine hK.out _ _ (fun _ => y2) (fun hHeld => ?_)
   clear hK K
   try simp only [Act.put, List.setIfInBounds_toArray, List.set_cons_zero, List.set_cons_succ]
   have hHeld := hHeld (by decide)
   refine oneT (i := 6) (by kernel_rfl) rfl (fun K hK => ?_)
   go_simp
   refine hK.out _ _ (fun _ => y2) (fun hHeld => ?_)
   clear hK K
   try simp only [Act.put, List.setIfInBounds_toArray, List.set_cons_zero, List.set_cons_succ]
   have hHeld := hHeld (by decide)
   refine oneT (i := 7) (by kernel_rfl) rfl (fun K hK => ?_)
   go_simp
   refine hK.out _ _ (fun h => absurd h (by decide)) (fun _ => ?_)
   clear hK K
   try simp only [Act.put, List.setIfInBounds_toArray, List.set_cons_zero, List.set_cons_succ]
   refine doneT (by kernel_rfl) ?_ _
   go_wp2
   go_roundw
   case rel =>
    have e2 := heap_setCell_same w3 (w.heap.size + 1 + 1) 2 _ _ (.slice (some ⟨g, 0, none⟩) (k + 1) capg) HQ2'.out
    have e1 := (heap_setCell_other w3 ⟨w.heap.size + 1 + 1, 2, none⟩ (w.heap.size + 1) (.slice (some ⟨g, 0, none⟩) (k + 1) capg) (by simp <;> omega)).trans HQ1'.out
    have hs3 := HB3.out.size
    have hs0 := HSZ.out
    refine ⟨k + 1, by omega, by go_num, ?_, .slice (some ⟨g, 0, none⟩) (k + 1) capg, by simpa using e2, e1, ?_, ?_⟩
    ·exact (HB.out.trans (HB3.out.mono (by omega))).setCell (by simp <;> omega) _
    ·have h1 := HO3.out.setCell (a := ⟨w.heap.size + 1 + 1, 2, none⟩) (by simp <;> omega) (.slice (some ⟨g, 0, none⟩) (k + 1) capg)
     rw [List.take_add_one, HRR.out]
     exact h1
    ·simp; omega
   case measure => simp [intOf]; omega
  ·have hke : k = rows.length := by omega
   subst hke
   obtain ⟨x0, x1, x2⟩ := cells_3 q2
   obtain ⟨y0, y1, y2⟩ := cells_3 q1
   obtain ⟨_, _, _, f0, f1, f2⟩ := box3 (Below.refl _ _) q1
   rw [List.take_length] at hown
   obtain ⟨Au, cu, rfl, _⟩ := hown.view
   have HO := Lib.hid hown; have HB := Lib.hid hbel; have HSZ := Lib.hid hsz
   clear hown hbel q1 q2 hsz
   go_wp2
   refine bodyPost_ret (v := .agg #[.int .i64 v, .int .i64 h, .slice Au rows.length cu]) (by simp [results, Tryz.results72, go_sem, *]) rfl ⟨_, rfl, ?_, ?_⟩
   ·exact (((HO.out.setCell (by simp <;> omega) _).setCell (by simp <;> omega) _).setCell (by simp <;> omega) _).mono (by omega)
   ·exact ((HB.out.setCell (by simp <;> omega) _).setCell (by simp <;> omega) _).setCell (by simp <;> omega) _
end Go.Proofs.YtjdbfokbgmbphaaGreatDoor
