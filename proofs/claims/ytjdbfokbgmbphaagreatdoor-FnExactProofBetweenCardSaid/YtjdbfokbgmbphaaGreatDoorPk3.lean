/- Slices of slices of integers that a call makes: what is owned; append of a row; store of a row; clones and toIntSS. Conditions: lengths of at most 2^30. | Copies of slices of slices: clones, toIntSS; and of systems and steps: copy, toSystem, toStep. Conditions: lengths of at most 2^20. | A system copied; the law's own copies of a system and of a step. Conditions: lengths of at most 2^20. | The law's own functions: sizes, equality of lists, systems and steps. Conditions: lengths of at most maxLen. -/
import Derived.Test.YtjdbfokbgmbphaaGreatDoorPk2
namespace Go.Proofs.YtjdbfokbgmbphaaGreatDoor
set_option linter.unusedVariables false
set_option linter.unusedSimpArgs false
open Go.RowKit
theorem infoRow : (Tryz.prog.info? 25).map (fun i => (i.zero, i.size, i.bytes)) = some (some (.slice none 0 0), 1, 24) := by kernel_rfl
/-- The slice v is the call's own from block B on; its elements us are slices of the call's own, each in a block of its own; they read as the rows. -/
structure OwnRowsW (w : World) (B : Nat) (v : Value) (rows : List (List Int)) (us : List Value) : Prop where
 outer : w.ownsRow B 25 1 v rows.length us
 each : ∀ (k : Nat) (u : Value) (r : List Int), us[k]? = some u → rows[k]? = some r → OwnInts w B u r
 apart : ∀ (i j : Nat) (u u' : Value) (b : Nat), us[i]? = some u → us[j]? = some u' → u.ownBlock = some b → u'.ownBlock = some b → i = j
def OwnRows (w : World) (B : Nat) (v : Value) (rows : List (List Int)) : Prop := ∃ us, OwnRowsW w B v rows us
theorem OwnRowsW.len {w : World} {B : Nat} {v : Value} {rows : List (List Int)} {us : List Value} (h : OwnRowsW w B v rows us) : us.length = rows.length := by
 simpa using h.outer.1
theorem OwnRowsW.get {w : World} {B : Nat} {v : Value} {rows : List (List Int)} {us : List Value} (h : OwnRowsW w B v rows us) {k : Nat} {r : List Int} (hr : rows[k]? = some r) :
  ∃ u, us[k]? = some u ∧ OwnInts w B u r := by
 have : k < us.length := by rw [h.len]; exact (List.getElem?_eq_some_iff.1 hr).1
 obtain ⟨u, hu⟩ := get_of_lt this
 exact ⟨u, hu, h.each k u r hu hr⟩
theorem OwnRowsW.getR {w : World} {B : Nat} {v : Value} {rows : List (List Int)} {us : List Value} (h : OwnRowsW w B v rows us) {k : Nat} {u : Value} (hu : us[k]? = some u) :
  ∃ r, rows[k]? = some r ∧ OwnInts w B u r := by
 have : k < rows.length := by rw [← h.len]; exact (List.getElem?_eq_some_iff.1 hu).1
 obtain ⟨r, hr⟩ := get_of_lt this
 exact ⟨r, hr, h.each k u r hu hr⟩
theorem OwnInts.lt {w : World} {B : Nat} {v : Value} {xs : List Int} (h : OwnInts w B v xs) : ∀ k, v.ownBlock = some k → B ≤ k ∧ k < w.heap.size := World.ownsRow.lt h
/-- An owned row of slices and an owned row of numbers lie in different blocks. -/
theorem apart_types {w : World} {B B' : Nat} {v u : Value} {n : Nat} {us : List Value} {xs : List Int} (hO : w.ownsRow B 25 1 v n us) (h : OwnInts w B' u xs) : u.ownBlock = none ∨ u.ownBlock ≠ v.ownBlock := by
 rcases h.2 with ⟨rfl, _⟩ | ⟨g, cap, cur, rfl, _, hg, _⟩
 ·exact Or.inl rfl
 ·right
  rcases hO.2 with ⟨rfl, _⟩ | ⟨g', cap', cur', rfl, _, hg', _⟩
  ·simp [Value.ownBlock]
  ·intro e
   simp only [Value.ownBlock, Option.some.injEq] at e
   rw [e, hg'] at hg
   simp at hg
theorem OwnInts.kept {w w' : World} {B : Nat} {u : Value} {xs : List Int} {row : Option Nat} (h : OwnInts w B u xs) (hg : w.grownBy w' row) (hne : u.ownBlock = none ∨ u.ownBlock ≠ row) : OwnInts w' B u xs := World.ownsRow.kept h hg hne
theorem OwnRowsW.ext {w w' : World} {B : Nat} {v : Value} {rows : List (List Int)} {us : List Value} (h : OwnRowsW w B v rows us) (hb : Below w.heap.size w w') : OwnRowsW w' B v rows us :=
 ⟨World.ownsRow.kept h.outer (row := none) ⟨hb.os, hb.tape, hb.output, hb.size, fun k hk _ => hb.block k hk⟩ (by cases v.ownBlock <;> simp), fun k u r hu hr => (h.each k u r hu hr).ext hb, h.apart⟩
theorem OwnRows.ext {w w' : World} {B : Nat} {v : Value} {rows : List (List Int)} (h : OwnRows w B v rows) (hb : Below w.heap.size w w') : OwnRows w' B v rows := by
 obtain ⟨us, h⟩ := h
 exact ⟨us, h.ext hb⟩
theorem OwnRows.view {w : World} {B : Nat} {v : Value} {rows : List (List Int)} (h : OwnRows w B v rows) : ∃ A cap, v = .slice A rows.length cap ∧ RowsAt w A rows ∧ rows.length ≤ cap ∧ cap ≤ maxLen := by
 obtain ⟨us, h⟩ := h
 have hc := fun g => World.ownsRow.cells h.outer (g := g)
 rcases h.outer.2 with ⟨rfl, hn⟩ | ⟨g, cap, cur, rfl, hb, hg, hn, hm, hr⟩
 ·exact ⟨none, 0, by rw [hn], Or.inl (List.eq_nil_of_length_eq_zero hn), by omega, by decide⟩
 ·refine ⟨_, cap, rfl, Or.inr ⟨g, 0, rfl, fun k r hk => ?_⟩, hn, hm⟩
  obtain ⟨u, hu, ho⟩ := h.get hk
  obtain ⟨A', c', rfl, hi, _⟩ := ho.view
  have := hc g rfl k _ hu
  rw [addr_add] at this
  exact ⟨A', c', this, hi⟩
theorem OwnInts.same {w w' : World} {B : Nat} {v : Value} {xs : List Int} (h : OwnInts w B v xs) (hs : ∀ k, B ≤ k → w'.heap[k]? = w.heap[k]?) : OwnInts w' B v xs :=
 ⟨h.1, h.2.imp id fun ⟨g, cap, cur, a1, a2, a3, a4⟩ => ⟨g, cap, cur, a1, a2, by rw [hs g a2]; exact a3, a4⟩⟩
theorem OwnRows.same {w w' : World} {B : Nat} {v : Value} {rows : List (List Int)} (h : OwnRows w B v rows) (hs : ∀ k, B ≤ k → w'.heap[k]? = w.heap[k]?) : OwnRows w' B v rows := by
 obtain ⟨us, h⟩ := h
 exact ⟨us, ⟨h.outer.1, h.outer.2.imp id fun ⟨g, cap, cur, a1, a2, a3, a4⟩ => ⟨g, cap, cur, a1, a2, by rw [hs g a2]; exact a3, a4⟩⟩, fun k u r hu hr => (h.each k u r hu hr).same hs, h.apart⟩
theorem OwnInts.mono {w : World} {B B' : Nat} {v : Value} {xs : List Int} (h : OwnInts w B v xs) (hB : B' ≤ B) : OwnInts w B' v xs :=
 ⟨h.1, h.2.imp id fun ⟨g, cap, cur, a1, a2, a3⟩ => ⟨g, cap, cur, a1, by omega, a3⟩⟩
theorem OwnRows.mono {w : World} {B B' : Nat} {v : Value} {rows : List (List Int)} (h : OwnRows w B v rows) (hB : B' ≤ B) : OwnRows w B' v rows := by
 obtain ⟨us, h⟩ := h
 exact ⟨us, ⟨h.outer.1, h.outer.2.imp id fun ⟨g, cap, cur, a1, a2, a3⟩ => ⟨g, cap, cur, a1, by omega, a3⟩⟩, fun k u r hu hr => (h.each k u r hu hr).mono hB, h.apart⟩
/-- Cells below the owned blocks are written. -/
theorem OwnRows.setCell {w : World} {B : Nat} {v : Value} {rows : List (List Int)} (h : OwnRows w B v rows) {a : Addr} (ha : a.block < B) (u : Value) : OwnRows (w.setCell a u) B v rows :=
 h.same fun k hk => Below.heap_setCell _ _ _ _ (by omega)
theorem OwnInts.setCell {w : World} {B : Nat} {v : Value} {xs : List Int} (h : OwnInts w B v xs) {a : Addr} (ha : a.block < B) (u : Value) : OwnInts (w.setCell a u) B v xs :=
 h.same fun k hk => Below.heap_setCell _ _ _ _ (by omega)
/-- 'append(s, r)' of one slice that lies in a block just made. -/
theorem wp_appendRow {ops : Array Oper} {rest : List Oper} {o : Oper} {a : Act} {Q : Exit → Act → World → Prop} (hgd : o.guard = none) (s x : Operand)
  (ho : o.op = .call { callee := .builtin .append, args := #[s, x], argTypes := #[22, 22] }) (B : Nat) (W0 W : World) (v u : Value) (rows : List (List Int)) (r : List Int)
  (hown : OwnRows W0 B v rows) (hbel : Below W0.heap.size W0 W) (hu : OwnInts W W0.heap.size u r) (hlen : rows.length + 1 ≤ 1073741824) (hB : B ≤ W0.heap.size) (hs : a.eval s = v) (hx : a.eval x = .slice (some ⟨W.heap.size, 0, none⟩) 1 1)
  (h : ∀ v' w', OwnRows w' B v' (rows ++ [r]) → Below B W0 w' → wpList Tryz.prog ops Q rest (a.put o.dst v') w') :
  wpList Tryz.prog ops Q (o :: rest) a (W.alloc (.cells #[u] 25)) := by
 obtain ⟨i0, hi, hz0, hz1, hz2⟩ := info_parts infoRow
 obtain ⟨us, hown⟩ := hown
 have hW := hown.ext hbel
 have ho1 := World.ownsRow.alloc hW.outer (.cells #[u] 25)
 have hsz := hbel.size
 refine wpList_append_own _ hgd s x 22 ho B 25 i0 (.slice none 0 0) 1 24 Tryz.underlying22 hi hz0 hz1 hz2 rfl (by decide) v _ _ hs ho1 ⟨W.heap.size, 0, none⟩ 1 1 [u] hx rfl ?_ ?_ ?_ ?_ ?_ ?_
 ·intro j u' hj
  match j, hj with
  | 0, hj => simp at hj; subst hj; simp [Addr.add]
  | j + 1, hj => simp at hj
 ·intro u' hu'; simp at hu'; subst hu'; obtain ⟨A', c', rfl, _⟩ := hu.view; rfl
 ·unfold maxLen; omega
 ·omega
 ·simp; omega
 ·intro v' w' hown' hgrow _
  have hg : W.grownBy w' v.ownBlock := ⟨hgrow.os, hgrow.tape, hgrow.output, by have := hgrow.size; simp at this; omega, fun k hk hne => (hgrow.block k (by simp; omega) hne).trans (heap_alloc_old W _ hk)⟩
  refine h v' w' ⟨us ++ [u], ?_, ?_, ?_⟩ (hbel.mono hB |>.trans ((Below.refl _ _).grown hg (by omega) fun k hk => (World.ownsRow.lt hW.outer k hk).1))
  ·simpa using hown'
  ·intro k u' r' hu' hr'
   by_cases hk : k < us.length
   ·rw [List.getElem?_append_left hk] at hu'
    rw [List.getElem?_append_left (by rw [← hown.len]; exact hk)] at hr'
    exact OwnInts.kept (hW.each k u' r' hu' hr') hg (apart_types hW.outer (hW.each k u' r' hu' hr'))
   ·have hk' : k = us.length := by
     have := (List.getElem?_eq_some_iff.1 hu').1
     simp at this; omega
    subst hk'
    simp at hu'
    rw [hown.len] at hr'
    simp at hr'
    subst hu' hr'
    have hkept := OwnInts.kept hu hg (apart_types hW.outer hu)
    exact ⟨hkept.1, hkept.2.imp id fun ⟨g, cap, cur, a1, a2, a3⟩ => ⟨g, cap, cur, a1, by omega, a3⟩⟩
  ·have new : ∀ (i : Nat) (u' : Value) (b : Nat), i < us.length → us[i]? = some u' → u'.ownBlock = some b → u.ownBlock = some b → False := fun i u' b _ h1 h2 h3 => by
    obtain ⟨r', _, ho'⟩ := hown.getR h1
    have a1 := (ho'.lt b h2).2
    have a2 := (hu.lt b h3).1
    omega
   intro i j u1 u2 b h1 h2 h3 h4
   have hi := (List.getElem?_eq_some_iff.1 h1).1
   have hj := (List.getElem?_eq_some_iff.1 h2).1
   simp only [List.length_append, List.length_cons, List.length_nil] at hi hj
   by_cases ci : i < us.length <;> by_cases cj : j < us.length
   ·rw [List.getElem?_append_left ci] at h1
    rw [List.getElem?_append_left cj] at h2
    exact hown.apart i j u1 u2 b h1 h2 h3 h4
   ·rw [List.getElem?_append_left ci] at h1
    obtain rfl : j = us.length := by omega
    simp at h2; subst h2
    exact (new i u1 b ci h1 h3 h4).elim
   ·rw [List.getElem?_append_left cj] at h2
    obtain rfl : i = us.length := by omega
    simp at h1; subst h1
    exact (new j u2 b cj h2 h4 h3).elim
   ·omega
/-- A slice of the call's own is stored into an owned slice of slices. -/
theorem OwnRowsW.set {W0 W : World} {B g n cap k : Nat} {rows : List (List Int)} {us : List Value} {u : Value} {r : List Int} (hn : n = rows.length) (h : OwnRowsW W0 B (.slice (some ⟨g, 0, none⟩) n cap) rows us)
  (hb : Below W0.heap.size W0 W) (hu : OwnInts W W0.heap.size u r) (hB : B ≤ W0.heap.size) (hk : k < n) :
  OwnRowsW (W.setCell ⟨g, k, none⟩ u) B (.slice (some ⟨g, 0, none⟩) n cap) (rows.set k r) (us.set k u) ∧ Below B W0 (W.setCell ⟨g, k, none⟩ u) ∧ (∃ v0, W.cell? ⟨g, k, none⟩ = some v0) ∧ W.frozen? ⟨g, k, none⟩ = false := by
 subst hn
 have hW := h.ext hb
 have hsz := hb.size
 have hst := hW.outer.stored k u
 have hlt := World.ownsRow.lt hW.outer g rfl
 refine ⟨⟨by simpa using hst.1, ?_, ?_⟩, (hb.mono hB).trans ((Below.refl _ _).setCell hlt.1 u), ?_, hW.outer.frozenAt k⟩
 ·intro j u' r' hu' hr'
  by_cases hj : k = j
  ·subst hj
   rw [List.getElem?_set_self (by rw [h.len]; exact hk)] at hu'
   rw [List.getElem?_set_self hk] at hr'
   cases hu'; cases hr'
   have hkept := OwnInts.kept hu hst.2 (apart_types hW.outer hu)
   exact ⟨hkept.1, hkept.2.imp id fun ⟨g, cap, cur, a1, a2, a3⟩ => ⟨g, cap, cur, a1, by omega, a3⟩⟩
  ·rw [List.getElem?_set_ne hj] at hu' hr'
   exact OwnInts.kept (hW.each j u' r' hu' hr') hst.2 (apart_types hW.outer (hW.each j u' r' hu' hr'))
 ·have new : ∀ (i : Nat) (u' : Value) (b : Nat), us[i]? = some u' → u'.ownBlock = some b → u.ownBlock = some b → False := fun i u' b h1 h2 h3 => by
   obtain ⟨r', _, ho'⟩ := h.getR h1
   have a1 := (ho'.lt b h2).2
   have a2 := (hu.lt b h3).1
   omega
  intro i j u1 u2 b h1 h2 h3 h4
  by_cases ci : k = i <;> by_cases cj : k = j
  ·omega
  ·subst ci
   rw [List.getElem?_set_self (by rw [h.len]; exact hk)] at h1
   rw [List.getElem?_set_ne cj] at h2
   cases h1
   exact (new j u2 b h2 h4 h3).elim
  ·subst cj
   rw [List.getElem?_set_self (by rw [h.len]; exact hk)] at h2
   rw [List.getElem?_set_ne ci] at h1
   cases h2
   exact (new i u1 b h1 h3 h4).elim
  ·rw [List.getElem?_set_ne ci] at h1
   rw [List.getElem?_set_ne cj] at h2
   exact h.apart i j u1 u2 b h1 h2 h3 h4
 ·obtain ⟨u0, hu0⟩ := get_of_lt (show k < us.length by rw [h.len]; exact hk)
  exact ⟨u0, by rw [hW.outer.cellAt k (by omega)]; exact hu0⟩
theorem OwnRows.empty {w : World} {B : Nat} {v : Value} (h : w.ownsRow B 25 1 v 0 []) : OwnRows w B v [] :=
 ⟨[], h, fun k u r hu => by simp at hu, fun i j u u' b hu => by simp at hu⟩
set_option maxHeartbeats 1000000 in
theorem clones_any (A : Option Addr) (cap : Nat) (rows : List (List Int)) (w : World) (hR : RowsAt w A rows) (hm : rows.length ≤ 1048576) (hms : ∀ r ∈ rows, r.length ≤ 1048576) :
  Calls Tryz.prog 112 #[.slice A rows.length cap] w fun e w' => ∃ u, e = .returned u ∧ OwnRows w' w.heap.size u rows ∧ Below w.heap.size w w' := by
 obtain ⟨i0, hi, hz0, hz1, hz2⟩ := info_parts infoRow
 go_enter Tryz.func112, Tryz.ntmps112
 go_wp2_with ((at_make; refine wpList_make_own _ rfl _ _ 22 rfl w.heap.size 25 i0 (.slice none 0 0) 1 Tryz.underlying22 hi hz0 hz1 .i64 .i64 rows.length rows.length rfl rfl rfl (by rw [hz2]; omega) (by unfold maxLen; omega) (Nat.le_refl _) ?_; intro w1 hown hgrow))
 have hbel0 := grown_none_below hgrow
 have HO := Lib.hid (OwnRows.empty hown)
 clear hown hgrow
 go_loopw [3, 11] (fun u i wr => ∃ k : Nat, k ≤ rows.length ∧ i = .int .i64 k ∧ OwnRows wr w.heap.size u (rows.take k) ∧ Below w.heap.size w wr)
  (fun _ i _ => rows.length - (intOf i).toNat)
 case atStart => exact ⟨0, Nat.zero_le _, rfl, HO.out, hbel0⟩
 case round =>
  obtain ⟨k, hk, rfl, hown, hbel⟩ := hrel
  have Hown := Lib.hid hown
  clear hown HO hbel0
  by_cases hlt : k < rows.length
  ·obtain ⟨r, hr⟩ := get_of_lt hlt
   obtain ⟨bb, o, rfl, hc⟩ := (hR.ext hbel).here hlt
   obtain ⟨A', cap', hck, hin⟩ := hc k r hr
   have HM := Lib.hid (show r.length ≤ 1099511627776 by have := hms r (List.mem_of_getElem? hr); omega)
   have HT := Lib.hid (show rows.take (k + 1) = rows.take k ++ [r] by rw [List.take_add_one, hr]; rfl)
   have hsz := hbel.size
   have HN := Lib.hid (show (rows.take k).length + 1 ≤ 1073741824 by simp; omega)
   have hm2 : rows.length < 9223372036854775807 := by omega
   clear hr hc hR hms hm
   go_wp2_with (first | (go_at_call 120; refine (clone_any _ _ _ _ hin HM.out).mono ?_; rintro e w' ⟨u2, rfl, hu2, hbel2⟩; obtain ⟨A2, c2, rfl, _⟩ := hu2.view) | (at_builtin; refine wp_appendRow rfl _ _ rfl w.heap.size wr _ _ _ _ _ Hown.out hbel2 hu2 HN.out hsz rfl rfl ?_; intro u' w1 hown1 hbel1))
   go_roundw
   case rel => exact ⟨k+1, by omega, by go_num, by rw [HT.out]; exact hown1, hbel.trans hbel1⟩
   case measure => simp [intOf]; omega
  ·go_wp2
   go_ret
   have h := Hown.out
   rw [List.take_of_length_le (by omega)] at h
   exact ⟨_, rfl, h, hbel⟩
theorem made_rows (n : Nat) : (madeCells (Value.slice none 0 0).cells (n * 1)).toList = List.replicate n (Value.slice none 0 0) := by
 apply List.ext_getElem?
 intro k
 simp only [madeCells, Value.cells, Nat.mul_one, Array.toList_map, Array.toList_range, List.getElem?_map, List.getElem?_replicate]
 by_cases hk : k < n
 ·simp [hk, Nat.mod_one]
 ·simp [hk]
theorem OwnRowsW.made {w : World} {B n : Nat} {v : Value} (h : w.ownsRow B 25 1 v n (madeCells (Value.slice none 0 0).cells (n * 1)).toList) : OwnRowsW w B v (List.replicate n []) (List.replicate n (.slice none 0 0)) := by
 rw [made_rows] at h
 refine ⟨by simpa using h, ?_, ?_⟩
 ·intro k u r hu hr
  rw [List.getElem?_replicate] at hu hr
  by_cases hk : k < n
  ·rw [if_pos hk] at hu hr
   cases hu; cases hr
   exact OwnInts.nil _ _
  ·rw [if_neg hk] at hu; cases hu
 ·intro i j u u' b hu _ hb
  rw [List.getElem?_replicate] at hu
  by_cases hk : i < n
  ·rw [if_pos hk] at hu; cases hu; cases hb
  ·rw [if_neg hk] at hu; cases hu
set_option maxHeartbeats 1000000 in
theorem toIntSS_any (A : Option Addr) (cap : Nat) (rows : List (List Int)) (w : World) (hR : RowsAt w A rows) (hm : rows.length ≤ 1048576) (hms : ∀ r ∈ rows, r.length ≤ 1048576) :
  Calls Tryz.prog 50 #[.slice A rows.length cap] w fun e w' => ∃ u, e = .returned u ∧ OwnRows w' w.heap.size u rows ∧ Below w.heap.size w w' := by
 obtain ⟨i0, hi, hz0, hz1, hz2⟩ := info_parts infoRow
 go_enter Tryz.func50, Tryz.ntmps50
 go_wp2_with ((at_make; refine wpList_make_full _ rfl _ _ 22 rfl w.heap.size 25 i0 (.slice none 0 0) 1 Tryz.underlying22 hi hz0 hz1 .i64 .i64 rows.length rows.length rows.length rfl rfl rfl rfl (by rw [hz2]; omega) (by unfold maxLen; omega) (Nat.le_refl _) ?_; intro w1 hown hgrow))
 have hbel0 := grown_none_below hgrow
 have HO := Lib.hid (OwnRowsW.made hown)
 clear hown hgrow
 go_loopw [4] (fun i wr => ∃ k : Nat, k ≤ rows.length ∧ i = .int .i64 k ∧ (∃ us, OwnRowsW wr w.heap.size (.slice (some ⟨w.heap.size, 0, none⟩) rows.length rows.length) (fillTo rows [] k) us) ∧ Below w.heap.size w wr)
  (fun i _ => rows.length - (intOf i).toNat)
 case atStart => exact ⟨0, Nat.zero_le _, rfl, ⟨_, by rw [fillTo_zero]; exact HO.out⟩, hbel0⟩
 case round =>
  obtain ⟨k, hk, rfl, ⟨us, hown⟩, hbel⟩ := hrel
  have Hown := Lib.hid hown
  clear hown HO hbel0
  by_cases hlt : k < rows.length
  ·obtain ⟨r, hr⟩ := get_of_lt hlt
   obtain ⟨bb, o, rfl, hc⟩ := (hR.ext hbel).here hlt
   obtain ⟨A', cap', hck, hin⟩ := hc k r hr
   have HM := Lib.hid (show r.length ≤ 1099511627776 by have := hms r (List.mem_of_getElem? hr); omega)
   have HS := Lib.hid (fillTo_set rows [] r k hr)
   have HL := Lib.hid (show rows.length = (fillTo rows [] k).length by simp [fillTo]; omega)
   have hsz := hbel.size
   have hm2 : rows.length < 9223372036854775807 := by omega
   clear hr hc hR hms hm
   go_wp2_with ((go_at_call 51; refine (toIntS_any _ _ _ _ hin HM.out).mono ?_; rintro e w' ⟨u2, rfl, hu2, hbel2⟩; obtain ⟨q1, q2, ⟨v0, q3⟩, q4⟩ := OwnRowsW.set HL.out Hown.out hbel2 hu2 hsz hlt; obtain ⟨A2, c2, rfl, _⟩ := hu2.view; have Q1 := Lib.hid q1; have Q2 := Lib.hid q2; clear q1 q2 hu2))
   go_roundw
   case rel => exact ⟨k+1, by omega, by go_num, ⟨_, by rw [← HS.out]; exact Q1.out⟩, hbel.trans Q2.out⟩
   case measure => simp [intOf]; omega
  ·go_wp2
   go_ret
   have h := Hown.out
   rw [fillTo_all _ _ _ (by omega)] at h
   exact ⟨_, rfl, ⟨_, h⟩, hbel⟩
set_option maxHeartbeats 1000000 in
theorem copy_any (v h : Int) (A : Option Addr) (cap : Nat) (rows : List (List Int)) (w : World) (hR : RowsAt w A rows) (hm : rows.length ≤ 1048576) (hms : ∀ r ∈ rows, r.length ≤ 1048576) :
  Calls Tryz.prog 95 #[.agg #[.int .i64 v, .int .i64 h, .slice A rows.length cap]] w fun e w' => ∃ u, e = .returned (.agg #[.int .i64 v, .int .i64 h, u]) ∧ OwnRows w' w.heap.size u rows ∧ Below w.heap.size w w' := by
 have HM := Lib.hid hm
 clear hm
 go_enter Tryz.func95, Tryz.ntmps95
 go_wp2
 go_region_held3 (fun w' => w'.cell? ⟨w.heap.size, 0, none⟩ = some (.int .i64 v) ∧ w'.cell? ⟨w.heap.size, 1, none⟩ = some (.int .i64 h) ∧ w'.cell? ⟨w.heap.size, 2, none⟩ = some (.slice A rows.length cap)) (first | go_keep | exact ⟨ext_cell hbel2 (by simp), ext_cell hbel2 (by simp), ext_cell hbel2 (by simp)⟩)
  ((go_at_call 112; refine (clones_any _ _ _ _ (hR.ext ?_) HM.out hms).mono ?_; exact (((Below.refl _ _).alloc (Nat.le_refl _) _).alloc (by simp) _).drew; rintro e w' ⟨u2, rfl, hu2, hbel2⟩; obtain ⟨A2, c2, rfl, _⟩ := hu2.view; have c0 := ext_cell hbel2 (p := ⟨w.heap.size + 1, 0, none⟩) (v := .int .i64 0) (by simp); have c1 := ext_cell hbel2 (p := ⟨w.heap.size + 1, 1, none⟩) (v := .int .i64 0) (by simp); have c2' := ext_cell hbel2 (p := ⟨w.heap.size + 1, 2, none⟩) (v := .slice none 0 0) (by simp); have f0 := ext_frozen hbel2 (p := ⟨w.heap.size + 1, 0, none⟩) (by simp) (by simp); have f1 := ext_frozen hbel2 (p := ⟨w.heap.size + 1, 1, none⟩) (by simp) (by simp); have f2 := ext_frozen hbel2 (p := ⟨w.heap.size + 1, 2, none⟩) (by simp) (by simp)))
 simp only [World.size_drew, World.size_alloc] at hu2 hbel2
 have hu3 := ((hu2.setCell (a := ⟨w.heap.size + 1, 0, none⟩) (by simp) (.int .i64 v)).setCell (a := ⟨w.heap.size + 1, 1, none⟩) (by simp) (.int .i64 h)).setCell (a := ⟨w.heap.size + 1, 2, none⟩) (by simp) (.slice A2 rows.length c2)
 have hb3 := (((((((Below.refl w.heap.size w).alloc (Nat.le_refl _) _).alloc (by simp) _).drew).trans (hbel2.mono (by omega))).setCell (p := ⟨w.heap.size + 1, 0, none⟩) (by simp) (.int .i64 v)).setCell (p := ⟨w.heap.size + 1, 1, none⟩) (by simp) (.int .i64 h)).setCell (p := ⟨w.heap.size + 1, 2, none⟩) (by simp) (.slice A2 rows.length c2)
 have H3 := Lib.hid hu3
 have HB := Lib.hid hb3
 clear hu2 hu3 hb3 hbel2
 go_wp2
 refine bodyPost_ret (v := .agg #[.int .i64 v, .int .i64 h, .slice A2 rows.length c2]) (by simp [results, Tryz.results95, go_sem, c0, c1, c2']) rfl ⟨_, rfl, H3.out.mono (by omega), HB.out⟩
set_option maxHeartbeats 1000000 in
theorem toSystem_any (v h : Int) (A : Option Addr) (cap : Nat) (rows : List (List Int)) (w : World) (hR : RowsAt w A rows) (hm : rows.length ≤ 1048576) (hms : ∀ r ∈ rows, r.length ≤ 1048576) :
  Calls Tryz.prog 15 #[.agg #[.int .i64 v, .int .i64 h, .slice A rows.length cap]] w fun e w' => ∃ u, e = .returned (.agg #[.int .i64 v, .int .i64 h, u]) ∧ OwnRows w' w.heap.size u rows ∧ Below w.heap.size w w' := by
 have HM := Lib.hid hm
 clear hm
 go_enter Tryz.func15, Tryz.ntmps15
 go_wp2_with fail
 refine (toIntSS_any _ _ _ _ (hR.ext (((Below.refl _ _).alloc (by simp) _ |>.alloc (by simp) _).alloc (by simp <;> omega) _)) HM.out hms).mono ?_
 rintro e w' ⟨u2, rfl, hu2, hbel2⟩
 obtain ⟨A2, c2, rfl, _⟩ := hu2.view
 obtain ⟨x0, x1, x2, _, _, x5⟩ := box3 hbel2 (b := w.heap.size + 1 + 1) (heap_at _ _ (by simp))
 obtain ⟨y0, y1, y2, y3, y4, y5⟩ := box3 hbel2 (b := w.heap.size + 1) ((heap_past _ _ (by simp)).trans (heap_at _ _ (by simp)))
 simp only [World.size_alloc] at hu2
 have hbel3 := hbel2.mono (B' := w.heap.size) (by simp <;> omega)
 have hb3 := (((Below.refl w.heap.size w).alloc (by simp) _ |>.alloc (by simp) _).alloc (by simp <;> omega) _).trans hbel3
 have H3 := Lib.hid hu2
 have HB := Lib.hid hb3
 clear hu2 hb3 hbel3 hbel2
 go_wp2
 refine bodyPost_ret (v := .agg #[.int .i64 v, .int .i64 h, .slice A2 rows.length c2]) (by simp [results, Tryz.results15, go_sem, *]) rfl ⟨_, rfl, ?_, ?_⟩
 ·exact ((((H3.out.setCell (by simp <;> omega) _).setCell (by simp <;> omega) _).setCell (by simp <;> omega) _).setCell (by simp <;> omega) _).mono (by omega)
 ·exact (((HB.out.setCell (by simp <;> omega) _).setCell (by simp <;> omega) _).setCell (by simp <;> omega) _).setCell (by simp <;> omega) _
theorem drewN_below (w : World) (n : Nat) : Below w.heap.size w (w.drewN n) := by
 induction n with
 | zero => exact Below.refl _ _
 | succ n ih => exact ih.trans ⟨rfl, rfl, rfl, Nat.le_refl _, fun _ _ => rfl⟩
/-- What is left of a budget: negative, or a number from which the sizes can be read off. -/
def Left (left r : Int) (n : Nat) : Prop := r < 0 ∨ (0 ≤ r ∧ r ≤ left ∧ (n : Int) ≤ left)
theorem szIntS_any (A : Option Addr) (n cap : Nat) (left : Int) (w : World) (hm : n ≤ maxLen) (hl : 0 ≤ left) (hl' : left ≤ 1048576) :
  Calls Tryz.prog 46 #[.slice A n cap, .int .i64 left] w fun e w' => ∃ r, e = .returned (.int .i64 r) ∧ Left left r n ∧ w = w' := by
 unfold maxLen at hm
 by_cases h : left - n < 0
 ·go_enter Tryz.func46, Tryz.ntmps46
  go_wp2
  go_ret
  exact ⟨_, rfl, Or.inl (by decide), rfl⟩
 ·go_enter Tryz.func46, Tryz.ntmps46
  go_wp2
  go_ret
  exact ⟨_, rfl, Or.inr (by omega), rfl⟩
/-- Of rows: how many there are, and how long each is. -/
def LeftRows (left r : Int) (rows : List (List Int)) : Prop := r < 0 ∨ (0 ≤ r ∧ r ≤ left ∧ (rows.length : Int) ≤ left ∧ ∀ x ∈ rows, (x.length : Int) ≤ left)
set_option maxHeartbeats 400000 in
theorem szIntSS_any (A : Option Addr) (cap : Nat) (rows : List (List Int)) (left : Int) (w : World) (hR : RowsAt w A rows) (hm : rows.length ≤ maxLen) (hms : ∀ r ∈ rows, r.length ≤ maxLen) (hl : 0 ≤ left) (hl' : left ≤ 1048576) :
  Calls Tryz.prog 45 #[.slice A rows.length cap, .int .i64 left] w fun e w' => ∃ r, e = .returned (.int .i64 r) ∧ LeftRows left r rows ∧ w = w' := by
 unfold maxLen at hm
 by_cases h : left - rows.length < 0
 ·go_enter Tryz.func45, Tryz.ntmps45
  go_wp2
  go_ret
  exact ⟨_, rfl, Or.inl (by decide), rfl⟩
 ·go_enter Tryz.func45, Tryz.ntmps45
  go_wp2
  go_loop [1, 5] (fun l i => ∃ (k : Nat) (q : Int), k ≤ rows.length ∧ i = .int .i64 k ∧ l = .int .i64 q ∧ 0 ≤ q ∧ q ≤ left ∧ ∀ x ∈ rows.take k, (x.length : Int) ≤ left) (fun _ i => rows.length - (intOf i).toNat)
  case atStart => exact ⟨0, _, Nat.zero_le _, rfl, rfl, by omega, by omega, fun x hx => by simp at hx⟩
  case round =>
   obtain ⟨k, q, hk, rfl, rfl, hq, hq', hall⟩ := hrel
   have Hall := Lib.hid hall; clear hall
   by_cases hlt : k < rows.length
   ·obtain ⟨r, hr⟩ := get_of_lt hlt
    obtain ⟨b, o, rfl, hc⟩ := hR.here hlt
    obtain ⟨A', cap', hck, hin⟩ := hc k r hr
    have HM := Lib.hid (hms r (List.mem_of_getElem? hr))
    have Hr := Lib.hid hr; clear hr hc hms hR
    go_wp2_with ((go_at_call 46; refine (szIntS_any _ _ _ _ _ HM.out hq (by omega)).mono ?_; rintro e w' ⟨q2, rfl, hq2, rfl⟩; have Q2 := Lib.hid hq2; clear hq2))
    ·go_ret
     exact ⟨_, rfl, Or.inl (by decide), rfl⟩
    ·go_round
     case rel =>
      rcases Q2.out with h1 | ⟨h1, h2, h3⟩
      ·omega
      ·exact ⟨k+1, q2, by omega, by go_num, rfl, h1, by omega, fun x hx => by
        rw [List.take_add_one, Hr.out] at hx
        rcases List.mem_append.1 hx with hx | hx
        ·exact Hall.out x hx
        ·simp at hx; subst hx; omega⟩
     case measure => simp [intOf]; omega
   ·go_wp2
    go_ret
    refine ⟨_, rfl, Or.inr ⟨hq, hq', by omega, fun x hx => Hall.out x ?_⟩, rfl⟩
    rwa [List.take_of_length_le (by omega)]
theorem szSystem_any (v h : Int) (A : Option Addr) (cap : Nat) (rows : List (List Int)) (left : Int) (w : World) (hR : RowsAt w A rows) (hm : rows.length ≤ maxLen) (hms : ∀ r ∈ rows, r.length ≤ maxLen) (hl : 0 ≤ left) (hl' : left ≤ 1048576) :
  Calls Tryz.prog 12 #[.agg #[.int .i64 v, .int .i64 h, .slice A rows.length cap], .int .i64 left] w fun e w' => ∃ r, e = .returned (.int .i64 r) ∧ LeftRows left r rows ∧ Below w.heap.size w w' := by
 have hB := (Below.refl w.heap.size w).alloc (by simp) (.cells #[.int .i64 v, .int .i64 h, .slice A rows.length cap] 24)
 have HB := Lib.hid hB
 have hR' := hR.ext hB
 clear hB hR
 go_enter Tryz.func12, Tryz.ntmps12
 go_wp2_with ((go_at_call 45; refine (szIntSS_any _ _ _ _ _ hR' hm hms hl hl').mono ?_; rintro e w' ⟨q2, rfl, hq2, rfl⟩; have Q2 := Lib.hid hq2; clear hq2))
 ·go_ret
  exact ⟨_, rfl, Or.inl (by decide), HB.out⟩
 ·go_ret
  exact ⟨_, rfl, Q2.out, HB.out⟩
/-- Two lists part at a place. -/
theorem ne_at {α : Type} {xs ys : List α} {k : Nat} {x y : α} (hx : xs[k]? = some x) (hy : ys[k]? = some y) (h : x ≠ y) : xs ≠ ys := by
 intro e; subst e; rw [hx] at hy; cases hy; exact h rfl
theorem take_eq_succ {α : Type} {xs ys : List α} {k : Nat} {x : α} (h : xs.take k = ys.take k) (hx : xs[k]? = some x) (hy : ys[k]? = some x) : xs.take (k + 1) = ys.take (k + 1) := by
 rw [List.take_add_one, List.take_add_one, h, hx, hy]
theorem eq_of_take {α : Type} {xs ys : List α} {k : Nat} (h : xs.take k = ys.take k) (hx : xs.length ≤ k) (hy : ys.length ≤ k) : xs = ys := by
 rwa [List.take_of_length_le hx, List.take_of_length_le hy] at h
set_option maxHeartbeats 1000000 in
theorem eqIntS_any (A A2 : Option Addr) (cap cap2 : Nat) (xs ys : List Int) (w : World) (h : IntsAt w A xs) (h2 : IntsAt w A2 ys) (hm : xs.length ≤ maxLen) (hm2 : ys.length ≤ maxLen) :
  Calls Tryz.prog 55 #[.slice A xs.length cap, .slice A2 ys.length cap2] w fun e w' => e = .returned (.bool (decide (xs = ys))) ∧ Below w.heap.size w w' := by
 unfold maxLen at hm hm2
 by_cases hn : xs.length = ys.length
 ·have hb : ((xs.length : Int) != (ys.length : Int)) = false := by simp [hn]
  have Hn := Lib.hid hn; clear hn
  go_enter Tryz.func55, Tryz.ntmps55
  go_wp2
  go_loopw [5] (fun i wr => ∃ k : Nat, k ≤ xs.length ∧ i = .int .i64 k ∧ xs.take k = ys.take k ∧ Below w.heap.size w wr) (fun i _ => xs.length - (intOf i).toNat)
  case atStart => exact ⟨0, Nat.zero_le _, rfl, by simp, Below.refl _ _⟩
  case round =>
   obtain ⟨k, hk, rfl, hall, hbel⟩ := hrel
   have Hall := Lib.hid hall; clear hall
   by_cases hlt : k < xs.length
   ·have hlt2 : k < ys.length := by have := Hn.out; omega
    obtain ⟨x, hx⟩ := get_of_lt hlt
    obtain ⟨y, hy⟩ := get_of_lt hlt2
    obtain ⟨b, o, rfl, hc⟩ := h.here hlt
    obtain ⟨b2, o2, rfl, hc2⟩ := h2.here hlt2
    have c1 : ∀ W : Ext wr, W.W.cell? ⟨b, o + k, none⟩ = some (.int .i64 x) := fun W => W.cell (ext_cell hbel (hc k x hx))
    have c2 : ∀ W : Ext wr, W.W.cell? ⟨b2, o2 + k, none⟩ = some (.int .i64 y) := fun W => W.cell (ext_cell hbel (hc2 k y hy))
    have Hx := Lib.hid hx; have Hy := Lib.hid hy; clear hx hy hc hc2 h h2
    by_cases hf : x = y
    ·subst hf
     go_wp2
     refine wp_region_ext_lit (by kernel_rfl) (by kernel_rfl) ?_
     repeat (go_big_quiet_step (fail))
     refine wpQuiet_nil ?_
     rintro _ ⟨W, rfl⟩
     go_wp2
     go_roundw
     case rel => exact ⟨k+1, by omega, by go_num, take_eq_succ Hall.out Hx.out Hy.out, below_ext hbel W.ok⟩
     case measure => simp [intOf]; omega
    ·have hfb : (x != y) = true := by simp [hf]
     go_wp2
     refine wp_region_ext_lit (by kernel_rfl) (by kernel_rfl) ?_
     repeat (go_big_quiet_step (fail))
     refine wpQuiet_nil ?_
     rintro _ ⟨W, rfl⟩
     go_wp2
     go_ret
     exact ⟨ret_bool (decide_eq_false (ne_at Hx.out Hy.out hf)).symm, below_ext hbel W.ok⟩
   ·go_wp2
    go_ret
    exact ⟨ret_bool (decide_eq_true (eq_of_take Hall.out (by omega) (by have := Hn.out; omega))).symm, hbel⟩
 ·have hb : ((xs.length : Int) != (ys.length : Int)) = true := by simp; omega
  go_enter Tryz.func55, Tryz.ntmps55
  go_wp2
  go_ret
  exact ⟨ret_bool (decide_eq_false (fun e => hn (by rw [e]))).symm, Below.refl _ _⟩
set_option maxHeartbeats 1000000 in
theorem eqIntSS_any (A A2 : Option Addr) (cap cap2 : Nat) (xs ys : List (List Int)) (w : World) (h : RowsAt w A xs) (h2 : RowsAt w A2 ys) (hm : xs.length ≤ maxLen) (hm2 : ys.length ≤ maxLen)
  (hms : ∀ r ∈ xs, r.length ≤ maxLen) (hms2 : ∀ r ∈ ys, r.length ≤ maxLen) :
  Calls Tryz.prog 54 #[.slice A xs.length cap, .slice A2 ys.length cap2] w fun e w' => e = .returned (.bool (decide (xs = ys))) ∧ Below w.heap.size w w' := by
 unfold maxLen at hm hm2
 by_cases hn : xs.length = ys.length
 ·have hb : ((xs.length : Int) != (ys.length : Int)) = false := by simp [hn]
  have Hn := Lib.hid hn; clear hn
  go_enter Tryz.func54, Tryz.ntmps54
  go_wp2
  go_loopw [5] (fun i wr => ∃ k : Nat, k ≤ xs.length ∧ i = .int .i64 k ∧ xs.take k = ys.take k ∧ Below w.heap.size w wr) (fun i _ => xs.length - (intOf i).toNat)
  case atStart => exact ⟨0, Nat.zero_le _, rfl, by simp, Below.refl _ _⟩
  case round =>
   obtain ⟨k, hk, rfl, hall, hbel⟩ := hrel
   have Hall := Lib.hid hall; clear hall
   by_cases hlt : k < xs.length
   ·have hlt2 : k < ys.length := by have := Hn.out; omega
    obtain ⟨x, hx⟩ := get_of_lt hlt
    obtain ⟨y, hy⟩ := get_of_lt hlt2
    obtain ⟨b, o, rfl, hc⟩ := (h.ext hbel).here hlt
    obtain ⟨b2, o2, rfl, hc2⟩ := (h2.ext hbel).here hlt2
    obtain ⟨A3, cap3, hck, hin⟩ := hc k x hx
    obtain ⟨A4, cap4, hck2, hin2⟩ := hc2 k y hy
    have c1 : ∀ W : Ext wr, W.W.cell? ⟨b, o + k, none⟩ = some (.slice A3 x.length cap3) := fun W => W.cell hck
    have c2 : ∀ W : Ext wr, W.W.cell? ⟨b2, o2 + k, none⟩ = some (.slice A4 y.length cap4) := fun W => W.cell hck2
    have hin' : ∀ W : Ext wr, IntsAt W.W A3 x := fun W => hin.ext W.ok
    have hin2' : ∀ W : Ext wr, IntsAt W.W A4 y := fun W => hin2.ext W.ok
    have HX := Lib.hid hin'; have HY := Lib.hid hin2'
    have M1 := Lib.hid (hms x (List.mem_of_getElem? hx))
    have M2 := Lib.hid (hms2 y (List.mem_of_getElem? hy))
    have Hx := Lib.hid hx; have Hy := Lib.hid hy; clear hx hy hc hc2 h h2 hms hms2 hin hin2 hin' hin2' hck hck2
    by_cases hf : x = y
    ·have F := Lib.hid (decide_eq_true hf)
     have HF := Lib.hid hf
     clear hf
     go_wp2
     refine wp_region_ext_lit (by kernel_rfl) (by kernel_rfl) ?_
     repeat (go_big_quiet_step ((go_at_call 55; exact Calls.ext_of (Calls.bool_eq' (eqIntS_any _ _ _ _ _ _ _ (HX.out _) (HY.out _) M1.out M2.out) F.out))))
     refine wpQuiet_nil ?_
     rintro _ ⟨W, rfl⟩
     go_wp2
     go_roundw
     case rel => exact ⟨k+1, by omega, by go_num, take_eq_succ Hall.out Hx.out (by rw [HF.out]; exact Hy.out), below_ext hbel W.ok⟩
     case measure => simp [intOf]; omega
    ·have F := Lib.hid (decide_eq_false hf)
     have HF := Lib.hid hf
     clear hf
     go_wp2
     refine wp_region_ext_lit (by kernel_rfl) (by kernel_rfl) ?_
     repeat (go_big_quiet_step ((go_at_call 55; exact Calls.ext_of (Calls.bool_eq' (eqIntS_any _ _ _ _ _ _ _ (HX.out _) (HY.out _) M1.out M2.out) F.out))))
     refine wpQuiet_nil ?_
     rintro _ ⟨W, rfl⟩
     go_wp2
     go_ret
     exact ⟨ret_bool (decide_eq_false (ne_at Hx.out Hy.out HF.out)).symm, below_ext hbel W.ok⟩
   ·go_wp2
    go_ret
    exact ⟨ret_bool (decide_eq_true (eq_of_take Hall.out (by omega) (by have := Hn.out; omega))).symm, hbel⟩
 ·have hb : ((xs.length : Int) != (ys.length : Int)) = true := by simp; omega
  go_enter Tryz.func54, Tryz.ntmps54
  go_wp2
  go_ret
  exact ⟨ret_bool (decide_eq_false (fun e => hn (by rw [e]))).symm, Below.refl _ _⟩
end Go.Proofs.YtjdbfokbgmbphaaGreatDoor
