/- The program's mod; a multiple of a row added to another row (addTimes). Conditions: numbers of moderate size; the row that is written is the call's own. | Two laws for a drawn region walked by hand: an operation is taken first; an operation is carried out. | Two elements of an owned slice of slices change places. | An owned slice of slices: one of its slices is changed, taken out, put in. | A drawn region whose last operation comes last in every order: a condition S on the world is asked of every operation but that one. -/
import Derived.Test.YtjdbfokbgmbphaaGreatDoorPk5
import Derived.Deep.RegionHeld
import Derived.StillTail
namespace Go.Proofs.YtjdbfokbgmbphaaGreatDoor
set_option linter.unusedVariables false
set_option linter.unusedSimpArgs false
open Go.RowKit
theorem tmod_neg {a p : Int} (h : a < 0) (hp : 0 < p) : -p < a.tmod p ∧ a.tmod p ≤ 0 ∧ (a.tmod p < 0 → a % p = a.tmod p + p) ∧ (a.tmod p = 0 → a % p = 0) := by
 have e : a.tmod p = -((-a) % p) := by
  have := Int.neg_tmod (-a) p
  rw [Int.neg_neg] at this
  rw [this, Int.tmod_eq_emod_of_nonneg (by omega)]
 have h1 := Int.emod_nonneg (-a) (show p ≠ 0 by omega)
 have h2 := Int.emod_lt_of_pos (-a) hp
 refine ⟨by omega, by omega, fun hn => ?_, fun h0 => ?_⟩
 ·have h3 : a % p = (a.tmod p + p) % p := by
   have := Int.tmod_add_mul_tdiv a p
   have h4 : a = a.tmod p + p * a.tdiv p := this.symm
   conv => lhs; rw [h4]
   simp
  rw [h3, Int.emod_eq_of_lt (by omega) (by omega)]
 ·have h4 : a = a.tmod p + p * a.tdiv p := (Int.tmod_add_mul_tdiv a p).symm
  rw [h4, h0]
  simp
theorem mod_any (p a : Int) (w : World) (hp : 1 ≤ p) (hp' : p ≤ 1000) (ha : -9000000000000000000 ≤ a) (ha' : a ≤ 9000000000000000000) :
  Calls Tryz.prog 126 #[.int .i64 p, .int .i64 a] w fun e w' => e = .returned (.int .i64 (a % p)) ∧ w = w' := by
 by_cases h : 0 ≤ a
 ·have h1 := Int.emod_nonneg a (show p ≠ 0 by omega)
  have h2 := Int.emod_lt_of_pos a (show 0 < p by omega)
  go_enter Tryz.func126, Tryz.ntmps126
  go_wp2
  go_ret
  exact ⟨rfl, rfl⟩
 ·obtain ⟨m1, m2, m3, m4⟩ := tmod_neg (show a < 0 by omega) (show 0 < p by omega)
  obtain ⟨m, hm⟩ : ∃ m, m = a.tmod p := ⟨_, rfl⟩
  rw [← hm] at m1 m2 m3 m4
  have M3 := Lib.hid m3; have M4 := Lib.hid m4; clear m3 m4
  have hm' : a.tmod p = m := hm.symm
  clear hm
  by_cases hn : m < 0
  ·go_enter Tryz.func126, Tryz.ntmps126
   go_wp2
   go_ret
   exact ⟨by rw [M3.out hn]; rfl, rfl⟩
  ·obtain rfl : m = 0 := by omega
   go_enter Tryz.func126, Tryz.ntmps126
   go_wp2
   go_ret
   exact ⟨by rw [show a % p = 0 from by simpa using M4.out]; rfl, rfl⟩
theorem mul_bd {b y : Int} (h1 : -1000000 ≤ b) (h2 : b ≤ 1000000) (h3 : 0 ≤ y) (h4 : y ≤ 1000) : -1000000000 ≤ b * y ∧ b * y ≤ 1000000000 := by
 have a1 := Int.mul_le_mul_of_nonneg_right h1 h3
 have a2 := Int.mul_le_mul_of_nonneg_right h2 h3
 omega
/-- A cell of a block that lies in an earlier world. -/
theorem boxc {W w' : World} {b : Nat} {cs : Array Value} {t : TypeId} (hb : Below W.heap.size W w') (h : W.heap[b]? = some (.cells cs t (0, 0))) (j : Nat) : w'.cell? ⟨b, j, none⟩ = cs.toList[j]? :=
 blk_cell ((hb.block b (Array.getElem?_eq_some_iff.1 h).1).trans h) j
theorem boxf {W w' : World} {b : Nat} {cs : Array Value} {t : TypeId} (hb : Below W.heap.size W w') (h : W.heap[b]? = some (.cells cs t (0, 0))) (j : Nat) : w'.frozen? ⟨b, j, none⟩ = false :=
 blk_free ((hb.block b (Array.getElem?_eq_some_iff.1 h).1).trans h) j
/-- A block of an earlier world, in a later one. -/
theorem boxb {W w' : World} {b : Nat} {cs : Array Value} {t : TypeId} (hb : Below W.heap.size W w') (h : W.heap[b]? = some (.cells cs t (0, 0))) : w'.heap[b]? = some (.cells cs t (0, 0)) :=
 (hb.block b (Array.getElem?_eq_some_iff.1 h).1).trans h
theorem heap_at3 (w : World) (o1 o2 o3 : Obj) : (((w.alloc o1).alloc o2).alloc o3).heap[w.heap.size]? = some o1 ∧ (((w.alloc o1).alloc o2).alloc o3).heap[w.heap.size + 1]? = some o2 ∧ (((w.alloc o1).alloc o2).alloc o3).heap[w.heap.size + 1 + 1]? = some o3 :=
 ⟨(heap_past _ _ (by simp <;> omega)).trans ((heap_past _ _ (by simp)).trans (heap_at _ _ rfl)), (heap_past _ _ (by simp)).trans (heap_at _ _ (by simp)), heap_at _ _ (by simp)⟩
theorem below_alloc3 (w : World) (o1 o2 o3 : Obj) : Below w.heap.size w (((w.alloc o1).alloc o2).alloc o3) := ((Below.refl _ _).alloc (by simp) _ |>.alloc (by simp) _).alloc (by simp <;> omega) _
theorem cell_set_ne {w : World} {a p : Addr} {u : Value} (h : p.block ≠ a.block) : (w.setCell a u).cell? p = w.cell? p := World.cell?_of_block (w := w) (Below.heap_setCell _ _ _ _ h)
theorem cell_set_ne' {w : World} {a p : Addr} {u : Value} (h : p.block ≠ a.block) : (w.setCell a u).drew.cell? p = w.cell? p := cell_set_ne h
theorem cell_set_ne2 {w : World} {a p : Addr} {u : Value} (h : p.block ≠ a.block) : (w.drew.setCell a u).cell? p = w.cell? p := cell_set_ne h
/-- The multiples of ys added to xs, as far as place k. -/
def addTo (p b : Int) (xs ys : List Int) (k : Nat) : List Int := (List.zipWith (fun x y => (x + b * y) % p) xs ys).take k ++ xs.drop k
def addRow (p b : Int) (xs ys : List Int) : List Int := List.zipWith (fun x y => (x + b * y) % p) xs ys
theorem addTo_zero (p b : Int) (xs ys : List Int) : addTo p b xs ys 0 = xs := by simp [addTo]
theorem addTo_all (p b : Int) (xs ys : List Int) (h : xs.length = ys.length) (k : Nat) (hk : ys.length ≤ k) : addTo p b xs ys k = addRow p b xs ys := by
 unfold addTo addRow
 rw [List.take_of_length_le (by simp; omega), List.drop_of_length_le (by omega), List.append_nil]
theorem addTo_get (p b : Int) (xs ys : List Int) (k : Nat) (hk : k < ys.length) (h : xs.length = ys.length) : (addTo p b xs ys k)[k]? = xs[k]? := by
 unfold addTo
 rw [List.getElem?_append_right (by simp; omega), List.getElem?_drop]
 congr 1
 simp; omega
theorem addTo_set (p b : Int) (xs ys : List Int) (k : Nat) (x y : Int) (hx : xs[k]? = some x) (hy : ys[k]? = some y) : (addTo p b xs ys k).set k ((x + b * y) % p) = addTo p b xs ys (k + 1) := by
 have h1 := (List.getElem?_eq_some_iff.1 hx).1
 have h2 := (List.getElem?_eq_some_iff.1 hy).1
 have hz : (List.zipWith (fun x y => (x + b * y) % p) xs ys)[k]? = some ((x + b * y) % p) := by rw [List.getElem?_zipWith, hx, hy]
 unfold addTo
 rw [List.set_append_right _ _ (by simp; omega), List.take_add_one, hz]
 have e1 : xs.drop k = x :: xs.drop (k + 1) := by
  rw [List.drop_eq_getElem_cons h1]
  congr 1
  rw [List.getElem?_eq_getElem h1] at hx
  exact Option.some.inj hx
 have e2 : k - ((List.zipWith (fun x y => (x + b * y) % p) xs ys).take k).length = 0 := by simp; omega
 rw [e1, e2, List.set_cons_zero]
 simp
theorem addTo_len (p b : Int) (xs ys : List Int) (k : Nat) (h : xs.length = ys.length) (hk : k ≤ xs.length) : (addTo p b xs ys k).length = xs.length := by
 unfold addTo; simp; omega
set_option maxHeartbeats 2000000 in
theorem addTimes_any (p b : Int) (B g cap cap2 : Nat) (A2 : Option Addr) (xs ys : List Int) (w : World) (hp : 1 ≤ p) (hp' : p ≤ 1000) (hb : -1000000 ≤ b) (hb' : b ≤ 1000000)
  (h : w.ownsRow B 3 1 (.slice (some ⟨g, 0, none⟩) xs.length cap) xs.length (xs.map (Value.int .i64))) (h2 : IntsAt w A2 ys) (hap : ∀ b o, A2 = some ⟨b, o, none⟩ → b ≠ g) (hl : xs.length = ys.length)
  (hn : xs.length ≤ 1048576) (hx : ∀ x ∈ xs, 0 ≤ x ∧ x ≤ 1000) (hy : ∀ y ∈ ys, 0 ≤ y ∧ y ≤ 1000) :
  Calls Tryz.prog 145 #[.int .i64 p, .slice (some ⟨g, 0, none⟩) xs.length cap, .int .i64 b, .slice A2 ys.length cap2] w fun e w' => e = .returned (.tuple #[]) ∧
   w'.ownsRow B 3 1 (.slice (some ⟨g, 0, none⟩) xs.length cap) xs.length ((addRow p b xs ys).map (Value.int .i64)) ∧ w.grownBy w' (some g) := by
 have HO := Lib.hid h
 have HL := Lib.hid hl
 have HX := Lib.hid hx
 have HY := Lib.hid hy
 have hm : ys.length < 9223372036854775807 := by omega
 clear h hl hx hy hn
 go_enter Tryz.func145, Tryz.ntmps145
 go_wp2
 go_loopw [12] (fun i wr => ∃ k : Nat, k ≤ ys.length ∧ i = .int .i64 k ∧ wr.ownsRow B 3 1 (.slice (some ⟨g, 0, none⟩) xs.length cap) xs.length ((addTo p b xs ys k).map (Value.int .i64)) ∧ w.grownBy wr (some g))
  (fun i _ => ys.length - (intOf i).toNat)
 case atStart => exact ⟨0, Nat.zero_le _, rfl, by rw [addTo_zero]; exact HO.out, ⟨rfl, rfl, rfl, Nat.le_refl _, fun _ _ _ => rfl⟩⟩
 case round =>
  obtain ⟨k, hk, rfl, hown, hgr⟩ := hrel
  by_cases hlt : k < ys.length
  ·have hltx : k < xs.length := by have := HL.out; omega
   obtain ⟨x, hx⟩ := get_of_lt hltx
   obtain ⟨y, hy⟩ := get_of_lt hlt
   obtain ⟨bb, o, rfl, hc⟩ := h2.here hlt
   have hcy : wr.cell? ⟨bb, o + k, none⟩ = some (.int .i64 y) := hgr.cell (hc _ _ hy) (by have := hap bb o rfl; simpa using this)
   have hcx : wr.cell? ⟨g, k, none⟩ = some (.int .i64 x) := by
    rw [hown.cellAt k (by omega), List.getElem?_map, addTo_get _ _ _ _ _ hlt HL.out, hx]; rfl
   have hfr := hown.frozenAt k
   obtain ⟨x1, x2⟩ := HX.out x (List.mem_of_getElem? hx)
   obtain ⟨y1, y2⟩ := HY.out y (List.mem_of_getElem? hy)
   obtain ⟨m1, m2⟩ := mul_bd hb hb' y1 y2
   have hst := hown.stored k (.int .i64 ((x + b * y) % p))
   rw [← List.map_set, addTo_set _ _ _ _ _ _ _ hx hy] at hst
   have HS := Lib.hid hst.1
   have HG := Lib.hid (grownBy_trans hgr hst.2)
   clear hst hx hy hc hown hgr h2 hap
   go_wp2_with (go_at_call 126; refine (mod_any _ _ _ hp hp' (by omega) (by omega)).mono ?_; rintro e w' ⟨rfl, rfl⟩)
   go_roundw
   case rel => exact ⟨k+1, by omega, by go_num, HS.out, HG.out⟩
   case measure => simp [intOf]; omega
  ·go_wp2
   go_end0
   rw [addTo_all _ _ _ _ HL.out _ (by omega)] at hown
   exact ⟨rfl, hown, hgr⟩
theorem takeH {P : Program} {md : Region.Mode} {ops : Array Oper} {S : World → Prop} {Q : Exit → Act → World → Prop} {i : Nat} {oi : Oper} {v : Value} {fuel : Nat} {listed : Array Bool} {a : Act} {w : World}
  (hi : ops.toList[i]? = some oi) (hs : Region.noSelect ops = true) (hf : Region.free md ops listed i = true) (hr : (Region.ready md ops listed).contains i = true)
  (hy : YieldsIf P ops S oi v a) (hS : S w) (h : wpAnyH P md ops (fun e a w => Q e a w) S fuel (listed.setIfInBounds i true) (a.put oi.dst v) w)
  (hQ : ∀ c a w, Q (.panic c) (a.put oi.dst v) w → Q (.panic c) a w := by exact fun _ _ _ h => h) :
  wpAnyH P md ops Q S (fuel + 1) listed a w :=
 wpAnyH_take (by rw [← Array.getElem?_toList]; exact hi) hs hf hr hQ hy hS h
theorem takeHQ {P : Program} {md : Region.Mode} {ops : Array Oper} {S : World → Prop} {Q : Exit → Act → World → Prop} (i : Nat) {oi : Oper} {v : Value} {fuel : Nat} {listed : Array Bool} {a : Act} {w : World}
  (hi : ops.toList[i]? = some oi) (hy : YieldsIf P ops S oi v a) (h : wpAnyH P md ops (fun e a w => Q e a w) S fuel (listed.setIfInBounds i true) (a.put oi.dst v) w)
  (hs : Region.noSelect ops = true := by kernel_rfl) (hf : Region.free md ops listed i = true := by kernel_rfl) (hr : (Region.ready md ops listed).contains i = true := by kernel_rfl)
  (hS : S w := by assumption) (hQ : ∀ c a w, Q (.panic c) (a.put oi.dst v) w → Q (.panic c) a w := by exact fun _ _ _ h => h) :
  wpAnyH P md ops Q S (fuel + 1) listed a w := takeH hi hs hf hr hy hS h hQ
theorem consH {P : Program} {md : Region.Mode} {ops : Array Oper} {S : World → Prop} {Q : Exit → Act → World → Prop} {fuel : Nat} {listed : Array Bool} {a : Act} {w : World} {i : Nat} {o : Oper} {rs : List Nat} (ho : ops.toList[i]? = some o)
  (h : ∀ K' : Act → World → Prop, Shut (∀ a w, S w → (S w → wpAnyH P md ops Q S fuel (listed.setIfInBounds i true) a w) → K' a w) → if Region.wanted o (yielded ops a.tmps) = true then Oper.wp P o a w K' Q else K' (a.put o.dst undef) w)
  (hs : AllReadyH P md ops Q S fuel listed a w rs) : AllReadyH P md ops Q S fuel listed a w (i :: rs) :=
 AllReadyH.cons (by rw [← Array.getElem?_toList]; exact ho) h hs
def sw (i j k : Nat) : Nat := if k = j then i else if k = i then j else k
theorem sw_inj {i j k l : Nat} (h : sw i j k = sw i j l) : k = l := by unfold sw at h; split at h <;> split at h <;> (try split at h) <;> (try split at h) <;> omega
theorem swap_get {α : Type} {l : List α} {i j : Nat} {x y : α} (hi : l[i]? = some x) (hj : l[j]? = some y) (k : Nat) : ((l.set i y).set j x)[k]? = l[sw i j k]? := by
 have hi' := (List.getElem?_eq_some_iff.1 hi).1
 have hj' := (List.getElem?_eq_some_iff.1 hj).1
 unfold sw
 by_cases h1 : k = j
 ·subst h1; rw [if_pos rfl, List.getElem?_set_self (by simpa using hj'), hi]
 ·rw [if_neg h1, List.getElem?_set_ne (Ne.symm h1)]
  by_cases h2 : k = i
  ·subst h2; rw [if_pos rfl, List.getElem?_set_self hi', hj]
  ·rw [if_neg h2, List.getElem?_set_ne (Ne.symm h2)]
theorem OwnRowsW.mono {w : World} {B B' : Nat} {v : Value} {rows : List (List Int)} {us : List Value} (h : OwnRowsW w B v rows us) (hB : B' ≤ B) : OwnRowsW w B' v rows us :=
 ⟨⟨h.outer.1, h.outer.2.imp id fun ⟨g, cap, cur, a1, a2, a3⟩ => ⟨g, cap, cur, a1, by omega, a3⟩⟩, fun k u r hu hr => (h.each k u r hu hr).mono hB, h.apart⟩
theorem OwnRowsW.swap {w : World} {B g n cap i j : Nat} {rows : List (List Int)} {us : List Value} {ui uj : Value} {ri rj : List Int} (hn : n = rows.length) (h : OwnRowsW w B (.slice (some ⟨g, 0, none⟩) n cap) rows us)
  (hi : us[i]? = some ui) (hj : us[j]? = some uj) (hri : rows[i]? = some ri) (hrj : rows[j]? = some rj) :
  OwnRowsW ((w.setCell ⟨g, i, none⟩ uj).setCell ⟨g, j, none⟩ ui) B (.slice (some ⟨g, 0, none⟩) n cap) ((rows.set i rj).set j ri) ((us.set i uj).set j ui) := by
 subst hn
 have h1 := h.outer.stored i uj
 have h2 := h1.1.stored j ui
 refine ⟨by simpa using h2.1, fun k u r hu hr => ?_, fun k l u u' b hu hu' hb hb' => ?_⟩
 ·rw [swap_get hi hj] at hu
  rw [swap_get hri hrj] at hr
  have ho := h.each _ u r hu hr
  have hap := apart_types h.outer ho
  exact OwnInts.kept (OwnInts.kept ho h1.2 hap) h2.2 hap
 ·rw [swap_get hi hj] at hu hu'
  exact sw_inj (h.apart _ _ u u' b hu hu' hb hb')
theorem apart_types' {w : World} {B B' : Nat} {v u : Value} {n : Nat} {us : List Value} {xs : List Int} (hO : w.ownsRow B 25 1 v n us) (h : OwnInts w B' u xs) : v.ownBlock = none ∨ v.ownBlock ≠ u.ownBlock := by
 rcases apart_types hO h with h1 | h1
 ·rw [h1]; cases v.ownBlock <;> simp
 ·exact Or.inr (Ne.symm h1)
/-- One slice changed in place (or made anew), not stored yet. -/
theorem OwnRowsW.mod {w w' : World} {B : Nat} {v : Value} {rows : List (List Int)} {us : List Value} {k : Nat} {u u' : Value} {r' : List Int} (h : OwnRowsW w B v rows us) (hk : us[k]? = some u)
  (hgr : w.grownBy w' u.ownBlock) (hu' : OwnInts w' B u' r') (hblk : ∀ b, u'.ownBlock = some b → u.ownBlock = some b ∨ w.heap.size ≤ b) :
  w'.ownsRow B 25 1 v rows.length us ∧ (∀ (j : Nat) (x : Value) (r : List Int), (us.set k u')[j]? = some x → (rows.set k r')[j]? = some r → OwnInts w' B x r) ∧
  (∀ (i j : Nat) (x y : Value) (b : Nat), (us.set k u')[i]? = some x → (us.set k u')[j]? = some y → x.ownBlock = some b → y.ownBlock = some b → i = j) := by
 obtain ⟨r0, hr0, ho⟩ := h.getR hk
 have hkl := (List.getElem?_eq_some_iff.1 hk).1
 have other : ∀ (i : Nat) (x : Value) (b : Nat), i ≠ k → us[i]? = some x → x.ownBlock = some b → u'.ownBlock = some b → False := fun i x b hi hx hb hb' => by
  obtain ⟨rx, _, hox⟩ := h.getR hx
  rcases hblk b hb' with h1 | h1
  ·exact hi (h.apart i k x u b hx hk hb h1)
  ·have := (hox.lt b hb).2; omega
 refine ⟨World.ownsRow.kept h.outer hgr (apart_types' h.outer ho), fun j x r hx hr => ?_, fun i j x y b hx hy hb hb' => ?_⟩
 ·by_cases hj : k = j
  ·subst hj
   rw [List.getElem?_set_self hkl] at hx
   rw [List.getElem?_set_self (by rw [← h.len]; exact hkl)] at hr
   cases hx; cases hr; exact hu'
  ·rw [List.getElem?_set_ne hj] at hx hr
   have hox := h.each j x r hx hr
   refine hox.kept hgr ?_
   rcases hb : x.ownBlock with _ | b
   ·exact Or.inl rfl
   ·refine Or.inr fun e => hj (h.apart k j u x b hk hx e.symm hb)
 ·by_cases hi : k = i <;> by_cases hj : k = j
  ·omega
  ·subst hi
   rw [List.getElem?_set_self hkl] at hx
   rw [List.getElem?_set_ne hj] at hy
   cases hx
   exact (other j y b (Ne.symm hj) hy hb' hb).elim
  ·subst hj
   rw [List.getElem?_set_self hkl] at hy
   rw [List.getElem?_set_ne hi] at hx
   cases hy
   exact (other i x b (Ne.symm hi) hx hb hb').elim
  ·rw [List.getElem?_set_ne hi] at hx
   rw [List.getElem?_set_ne hj] at hy
   exact h.apart i j x y b hx hy hb hb'
theorem set_same {α : Type} {l : List α} {k : Nat} {x : α} (h : l[k]? = some x) : l.set k x = l := by
 apply List.ext_getElem?
 intro j
 by_cases hj : k = j
 ·subst hj; rw [List.getElem?_set_self (List.getElem?_eq_some_iff.1 h).1, h]
 ·rw [List.getElem?_set_ne hj]
/-- One slice changed in place. -/
theorem OwnRowsW.inner {w w' : World} {B : Nat} {v : Value} {rows : List (List Int)} {us : List Value} {k : Nat} {u : Value} {r' : List Int} (h : OwnRowsW w B v rows us) (hk : us[k]? = some u)
  (hgr : w.grownBy w' u.ownBlock) (hu' : OwnInts w' B u r') : OwnRowsW w' B v (rows.set k r') us := by
 obtain ⟨a1, a2, a3⟩ := h.mod hk hgr hu' fun b hb => Or.inl hb
 rw [set_same hk] at a2 a3
 exact ⟨by simpa using a1, a2, a3⟩
/-- One slice changed, and stored. -/
theorem OwnRowsW.put {w w' : World} {B g n cap : Nat} {rows : List (List Int)} {us : List Value} {k : Nat} {u u' : Value} {r' : List Int} (hn : n = rows.length) (h : OwnRowsW w B (.slice (some ⟨g, 0, none⟩) n cap) rows us) (hk : us[k]? = some u)
  (hgr : w.grownBy w' u.ownBlock) (hu' : OwnInts w' B u' r') (hblk : ∀ b, u'.ownBlock = some b → u.ownBlock = some b ∨ w.heap.size ≤ b) :
  OwnRowsW (w'.setCell ⟨g, k, none⟩ u') B (.slice (some ⟨g, 0, none⟩) n cap) (rows.set k r') (us.set k u') := by
 subst hn
 obtain ⟨a1, a2, a3⟩ := h.mod hk hgr hu' hblk
 have hst := a1.stored k u'
 exact ⟨by simpa using hst.1, fun j x r hx hr => (a2 j x r hx hr).kept hst.2 (apart_types a1 (a2 j x r hx hr)), a3⟩
theorem erase_get {α : Type} (l : List α) (k j : Nat) : (l.eraseIdx k)[j]? = l[if j < k then j else j + 1]? := by
 rw [List.getElem?_eraseIdx]; split <;> rfl
/-- One slice taken out. -/
theorem OwnRowsW.erase {w w' : World} {B g n k cap cap' : Nat} {rows : List (List Int)} {us : List Value} (h : OwnRowsW w B (.slice (some ⟨g, 0, none⟩) n cap) rows us) (hk : k < rows.length)
  (hO : w'.ownsRow B 25 1 (.slice (some ⟨g, 0, none⟩) (rows.length - 1) cap') (rows.length - 1) (us.eraseIdx k)) (hgr : w.grownBy w' (some g)) :
  OwnRowsW w' B (.slice (some ⟨g, 0, none⟩) (rows.length - 1) cap') (rows.eraseIdx k) (us.eraseIdx k) := by
 refine ⟨by rw [List.length_eraseIdx_of_lt hk]; exact hO, fun j x r hx hr => ?_, fun i j x y b hx hy hb hb' => ?_⟩
 ·rw [erase_get] at hx hr
  exact (h.each _ x r hx hr).kept hgr (apart_types h.outer (h.each _ x r hx hr))
 ·rw [erase_get] at hx hy
  have := h.apart _ _ x y b hx hy hb hb'
  split at this <;> split at this <;> omega
theorem insAt_len {α : Type} (l : List α) (k : Nat) (x : α) (h : k ≤ l.length) : (l.take k ++ x :: l.drop k).length = l.length + 1 := by simp <;> omega
theorem insAt_get {α : Type} (l : List α) (k j : Nat) (x : α) (h : k ≤ l.length) : (l.take k ++ x :: l.drop k)[j]? = if j < k then l[j]? else if j = k then some x else l[j - 1]? := by
 by_cases h1 : j < k
 ·rw [if_pos h1, List.getElem?_append_left (by simp <;> omega), List.getElem?_take_of_lt h1]
 ·rw [if_neg h1, List.getElem?_append_right (by simp <;> omega)]
  by_cases h2 : j = k
  ·subst h2; rw [if_pos rfl]; simp [Nat.min_eq_left h]
  ·rw [if_neg h2]
   obtain ⟨m, rfl⟩ : ∃ m, j = k + 1 + m := ⟨j - (k + 1), by omega⟩
   have e1 : k + 1 + m - (l.take k).length = m + 1 := by simp [Nat.min_eq_left h]; omega
   have e2 : k + 1 + m - 1 = k + m := by omega
   rw [e1, e2, List.getElem?_cons_succ, List.getElem?_drop]
/-- A slice put in. -/
theorem OwnRowsW.insert {w0 w w' : World} {B k : Nat} {v v' u : Value} {r : List Int} {rows : List (List Int)} {us : List Value} (h : OwnRowsW w0 B v rows us) (hb : Below w0.heap.size w0 w) (hu : OwnInts w w0.heap.size u r) (hB : B ≤ w0.heap.size) (hk : k ≤ rows.length)
  (hO : w'.ownsRow B 25 1 v' (rows.length + 1) (insAt us k u)) (hgr : w.grownBy w' v.ownBlock) : OwnRowsW w' B v' (rows.take k ++ r :: rows.drop k) (insAt us k u) := by
 have hW := h.ext hb
 have hku : k ≤ us.length := by rw [h.len]; exact hk
 have new : ∀ (i : Nat) (x : Value) (b : Nat), us[i]? = some x → x.ownBlock = some b → u.ownBlock = some b → False := fun i x b hx hb hb' => by
  obtain ⟨rx, _, hox⟩ := h.getR hx
  have := (hox.lt b hb).2
  have := (hu.lt b hb').1
  omega
 refine ⟨by rw [insAt_len _ _ _ hk]; exact hO, fun j x rx hx hr => ?_, fun i j x y b hx hy hb hb' => ?_⟩
 ·rw [insAt, insAt_get _ _ _ _ hku] at hx
  rw [insAt_get _ _ _ _ hk] at hr
  by_cases h1 : j < k
  ·rw [if_pos h1] at hx hr
   exact (hW.each _ x rx hx hr).kept hgr (apart_types hW.outer (hW.each _ x rx hx hr))
  ·rw [if_neg h1] at hx hr
   by_cases h2 : j = k
   ·rw [if_pos h2] at hx hr
    cases hx; cases hr
    exact (hu.kept hgr (apart_types hW.outer hu)).mono hB
   ·rw [if_neg h2] at hx hr
    exact (hW.each _ x rx hx hr).kept hgr (apart_types hW.outer (hW.each _ x rx hx hr))
 ·rw [insAt, insAt_get _ _ _ _ hku] at hx hy
  by_cases h1 : i < k <;> by_cases h2 : j < k
  ·rw [if_pos h1] at hx; rw [if_pos h2] at hy
   exact h.apart _ _ x y b hx hy hb hb'
  ·rw [if_pos h1] at hx; rw [if_neg h2] at hy
   by_cases h3 : j = k
   ·rw [if_pos h3] at hy; cases hy; exact (new i x b hx hb hb').elim
   ·rw [if_neg h3] at hy
    have := h.apart _ _ x y b hx hy hb hb'
    omega
  ·rw [if_neg h1] at hx; rw [if_pos h2] at hy
   by_cases h3 : i = k
   ·rw [if_pos h3] at hx; cases hx; exact (new j y b hy hb' hb).elim
   ·rw [if_neg h3] at hx
    have := h.apart _ _ x y b hx hy hb hb'
    omega
  ·rw [if_neg h1] at hx; rw [if_neg h2] at hy
   by_cases h3 : i = k <;> by_cases h4 : j = k
   ·omega
   ·rw [if_pos h3] at hx; rw [if_neg h4] at hy; cases hx; exact (new _ y b hy hb' hb).elim
   ·rw [if_neg h3] at hx; rw [if_pos h4] at hy; cases hy; exact (new _ x b hx hb hb').elim
   ·rw [if_neg h3] at hx; rw [if_neg h4] at hy
    have := h.apart _ _ x y b hx hy hb hb'
    omega
theorem own_at {w : World} {B n cap : Nat} {A : Option Addr} {rows : List (List Int)} {us : List Value} (h : OwnRowsW w B (.slice A n cap) rows us) (hn : 0 < rows.length) : ∃ g, A = some ⟨g, 0, none⟩ ∧ B ≤ g ∧ g < w.heap.size := by
 obtain ⟨g, cap', e, h1, h2⟩ := h.outer.form hn
 simp only [Value.slice.injEq] at e
 exact ⟨g, e.1, h1, h2⟩
theorem own_at1 {w : World} {B n cap : Nat} {A : Option Addr} {xs : List Int} (h : OwnInts w B (.slice A n cap) xs) (hn : 0 < xs.length) : ∃ g, A = some ⟨g, 0, none⟩ ∧ B ≤ g ∧ g < w.heap.size := by
 obtain ⟨g, cap', e, h1, h2⟩ := World.ownsRow.form h hn
 simp only [Value.slice.injEq] at e
 exact ⟨g, e.1, h1, h2⟩
section
variable {P : Program} {ops : Array Oper} {Q : Exit → Act → World → Prop} {md : Region.Mode} {S : World → Prop}
/-- Whatever order comes; behind every operation ahead of number n the world meets S. -/
def anyT (P : Program) (md : Region.Mode) (ops : Array Oper) (Q : Exit → Act → World → Prop) (S : World → Prop) (n : Nat) : Nat → Array Bool → Act → World → Prop
 | 0, listed, a, w => Region.ready md ops listed = [] ∧ Q .normal a w
 | fuel + 1, listed, a, w =>
  (Region.ready md ops listed = [] → Q .normal a w) ∧
  ∀ i ∈ Region.ready md ops listed, wpOp P ops Q i (fun a' w' => (i < n → S w') ∧ anyT P md ops Q S n fuel (listed.setIfInBounds i true) a' w') a w
theorem any_of_T {n : Nat} : ∀ (fuel : Nat) (listed : Array Bool) (a : Act) (w : World), anyT P md ops Q S n fuel listed a w → wpAny P md ops Q fuel listed a w
 | 0, _, _, _, h => h
 | fuel + 1, _, _, _, h => ⟨h.1, fun i hi => wpOp_mono (fun a' w' h' => any_of_T fuel _ a' w' h'.2) (h.2 i hi)⟩
theorem anyT_first {n i : Nat} {oi : Oper} {v : Value} (hi : ops[i]? = some oi) (hsel : ∀ (j : Nat) (o : Oper) cs b, ops[j]? = some o → o.op ≠ .select cs b)
  (hQ : ∀ c a w, Q (.panic c) (a.put oi.dst v) w → Q (.panic c) a w) (hs : Region.sinkB md ops n = true) (hc : Region.chainB md ops n = true) (hn : n < ops.size) (hin : i < n) :
  ∀ (fuel : Nat) (listed : Array Bool) (a : Act) (w : World), HeadInv md ops n listed →
   (∀ j oj, ops[j]? = some oj → j ≠ i → listed.getD j true = false → (∀ e ∈ oj.after, Region.binds md e = true → e.on ≠ i) → oi.apart ops oj = true) →
   i ∈ Region.ready md ops listed → YieldsIf P ops S oi v a → S w →
   anyT P md ops Q S n fuel (listed.setIfInBounds i true) (a.put oi.dst v) w → anyT P md ops Q S n (fuel + 1) listed a w := by
 intro fuel
 induction fuel with
 | zero =>
  intro listed a w _ _ hr hy hS H
  refine ⟨fun h => (by rw [h] at hr; cases hr), fun j hj => ?_⟩
  by_cases hji : j = i
  ·subst hji; exact hy.wpOp hi hS ⟨fun _ => hS, H⟩
  ·have := ready_mono hj hji
   rw [H.1] at this
   cases this
 | succ fuel ih =>
  intro listed a w inv hfree hr hy hS H
  refine ⟨fun h => (by rw [h] at hr; cases hr), fun j hj => ?_⟩
  have hun : listed.getD i true = false := (mem_ready.1 hr).1
  have hjn : j < n := by
   rcases Nat.lt_or_ge j n with h | h
   ·exact h
   ·exact absurd hj (tail_waits hs hc hn inv (n - i) i rfl hin hun j h)
  by_cases hji : j = i
  ·subst hji; exact hy.wpOp hi hS ⟨fun _ => hS, H⟩
  ·have h1 := H.2 j (ready_mono hj hji)
   obtain ⟨hjun, oj, hoj, hall⟩ := mem_ready.1 hj
   have hnot : ∀ e ∈ oj.after, Region.binds md e = true → e.on ≠ i := fun e he hb heq => by
    have h1 := hall e he hb
    rw [heq, getD_both hun] at h1
    cases h1
   have h2 := wpOp_putIf hoj (hfree j oj hoj hji hjun hnot) (fun cs b => hsel i oi cs b hi) (fun cs b => hsel j oj cs b hoj) hQ hy h1
   have hfree' : ∀ k ok, ops[k]? = some ok → k ≠ i → (listed.setIfInBounds j true).getD k true = false →
     (∀ e ∈ ok.after, Region.binds md e = true → e.on ≠ i) → oi.apart ops ok = true := fun k ok hk hki hun hno => by
    refine hfree k ok hk hki ?_ hno
    by_cases hjk : j = k
    ·subst hjk; exact hjun
    ·rw [getD_set_ne true hjk] at hun; exact hun
   refine wpOp_mono (fun a' w' h3 => ⟨h3.2.1, ih (listed.setIfInBounds j true) a' w' (inv.set hj hjn) hfree' (ready_mono hr (Ne.symm hji)) h3.1 (h3.2.1 hjn) ?_⟩) h2
   rw [Array.setIfInBounds_comm _ _ hji]
   exact h3.2.2
/-- 'HeadInv' as a Bool. -/
def headB (md : Region.Mode) (ops : Array Oper) (n : Nat) (listed : Array Bool) : Bool :=
 (listed.size == ops.size) && ((List.range ops.size).all fun j => !listed.getD j false || (match ops.toList[j]? with | some oj => oj.after.toList.all fun e => !Region.binds md e || listed.getD e.on false | none => true)) &&
 ((List.range ops.size).all fun t => decide (t < n) || !listed.getD t true)
theorem headB_spec {n : Nat} {listed : Array Bool} (h : headB md ops n listed = true) : HeadInv md ops n listed := by
 simp only [headB, Bool.and_eq_true, beq_iff_eq, List.all_eq_true, List.mem_range] at h
 obtain ⟨⟨h1, h2⟩, h3⟩ := h
 refine ⟨h1, fun j oj hj hl e he hb => ?_, fun t ht ht' => ?_⟩
 ·have hjl := (Array.getElem?_eq_some_iff.1 hj).1
  have := h2 j hjl
  rw [hl, Array.getElem?_toList, hj] at this
  simp only [Bool.not_true, Bool.false_or, List.all_eq_true] at this
  have := this e (by simpa using he)
  rw [hb] at this
  simpa using this
 ·have := h3 t ht'
  have hd : decide (t < n) = false := by simp; omega
  rw [hd] at this
  simpa using this
theorem takeT {n i : Nat} {oi : Oper} {v : Value} {fuel : Nat} {listed : Array Bool} {a : Act} {w : World}
  (hi : ops.toList[i]? = some oi) (hs : Region.noSelect ops = true) (hf : Region.free md ops listed i = true) (hr : (Region.ready md ops listed).contains i = true)
  (hb : (headB md ops n listed && Region.sinkB md ops n && Region.chainB md ops n && decide (n < ops.size) && decide (i < n)) = true)
  (hy : YieldsIf P ops S oi v a) (hS : S w) (h : anyT P md ops Q S n fuel (listed.setIfInBounds i true) (a.put oi.dst v) w)
  (hQ : ∀ c a w, Q (.panic c) (a.put oi.dst v) w → Q (.panic c) a w := by exact fun _ _ _ h => h) :
  anyT P md ops Q S n (fuel + 1) listed a w := by
 simp only [Bool.and_eq_true, decide_eq_true_eq] at hb
 obtain ⟨⟨⟨⟨h1, h2⟩, h3⟩, h4⟩, h5⟩ := hb
 have hi' : ops[i]? = some oi := by rw [← Array.getElem?_toList]; exact hi
 exact anyT_first hi' (Region.noSelect_spec hs) hQ h2 h3 h4 h5 fuel listed a w (headB_spec h1) (Region.free_spec hi' hf) (by simpa using hr) hy hS h
/-- The same, its closed conditions by computation. -/
theorem takeQ {n : Nat} (i : Nat) {oi : Oper} {v : Value} {fuel : Nat} {listed : Array Bool} {a : Act} {w : World}
  (hi : ops.toList[i]? = some oi) (hy : YieldsIf P ops S oi v a) (h : anyT P md ops Q S n fuel (listed.setIfInBounds i true) (a.put oi.dst v) w)
  (hs : Region.noSelect ops = true := by kernel_rfl) (hf : Region.free md ops listed i = true := by kernel_rfl) (hr : (Region.ready md ops listed).contains i = true := by kernel_rfl)
  (hb : (headB md ops n listed && Region.sinkB md ops n && Region.chainB md ops n && decide (n < ops.size) && decide (i < n)) = true := by kernel_rfl)
  (hS : S w := by assumption) (hQ : ∀ c a w, Q (.panic c) (a.put oi.dst v) w → Q (.panic c) a w := by exact fun _ _ _ h => h) :
  anyT P md ops Q S n (fuel + 1) listed a w := takeT hi hs hf hr hb hy hS h hQ
/-- Only number i may come up. -/
theorem oneT {n i : Nat} {o : Oper} {fuel : Nat} {listed : Array Bool} {a : Act} {w : World} (hr : Region.ready md ops listed = [i]) (ho : ops.toList[i]? = some o)
  (h : ∀ K' : Act → World → Prop, Shut (∀ a w, (i < n → S w) → ((i < n → S w) → anyT P md ops Q S n fuel (listed.setIfInBounds i true) a w) → K' a w) →
   if Region.wanted o (yielded ops a.tmps) = true then Oper.wp P o a w K' Q else K' (a.put o.dst undef) w) : anyT P md ops Q S n (fuel + 1) listed a w := by
 refine ⟨fun h0 => (by rw [h0] at hr; cases hr), fun j hj => ?_⟩
 rw [hr] at hj
 simp only [List.mem_cons, List.not_mem_nil, or_false] at hj
 subst hj
 exact wpOp_step (by rw [← Array.getElem?_toList]; exact ho) (fun K' hK => h K' (fun a w hS hW => hK a w ⟨hS, hW hS⟩))
theorem doneT {n : Nat} {listed : Array Bool} {a : Act} {w : World} (hr : Region.ready md ops listed = []) (h : Q .normal a w) :
  ∀ fuel, anyT P md ops Q S n fuel listed a w
 | 0 => ⟨hr, h⟩
 | _ + 1 => ⟨fun _ => h, by rw [hr]; simp⟩
theorem wp_region_T (n : Nat) {id : Nat} {a : Act} {w : World} (hm : P.follows .mixedOrders = true) (hS : S w.drew)
  (h : S w.drew → anyT P .any ops Q S n ops.size (Array.replicate ops.size false) a w.drew) : (Code.region id ops true).wp P Q a w :=
 wp_region_any hm (any_of_T _ _ _ _ (h hS))
end
end Go.Proofs.YtjdbfokbgmbphaaGreatDoor
