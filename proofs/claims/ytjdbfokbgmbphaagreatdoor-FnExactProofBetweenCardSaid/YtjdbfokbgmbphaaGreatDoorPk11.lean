/- The reference's stMake, kind 3. Conditions: a system of moderate size, a possible step. | A system without one of its hidden columns. Conditions: a system of moderate size; the column is there. -/
import Derived.Test.YtjdbfokbgmbphaaGreatDoorPk9
import Derived.Test.YtjdbfokbgmbphaaGreatDoorPk7
namespace Go.Proofs.YtjdbfokbgmbphaaGreatDoor
set_option linter.unusedVariables false
set_option linter.unusedSimpArgs false
open Go.RowKit
set_option maxRecDepth 100000 in
set_option maxHeartbeats 8000000 in
theorem sm_add (p v h a b c : Int) (A : Option Addr) (cap : Nat) (rows : List (List Int)) (w : World) (XA : Option Addr) (n xcap : Nat) (hR : RowsAt w A rows) (hm : rows.length ≤ 160) (hms : ∀ r ∈ rows, r.length ≤ 1000) (hp : 1 ≤ p) (hp' : p ≤ 1000) (ha : 0 ≤ a) (ha' : a < rows.length) (hb : 0 ≤ b) (hb' : b < rows.length) (hab : a ≠ b) (hc : 0 ≤ c) (hc' : c ≤ 1000) (hx : ∀ r ∈ rows, ∀ x ∈ r, 0 ≤ x ∧ x ≤ 1000) (m : Nat) (hl : ∀ r ∈ rows, r.length = m) :
  Calls Tryz.prog 49 #[.int .i64 p, .agg #[.int .i64 v, .int .i64 h, .slice A rows.length cap], .agg #[.int .i64 3, .int .i64 a, .int .i64 b, .int .i64 c, .slice XA n xcap]] w fun e w' =>
   ∃ u, e = .returned (.agg #[.int .i64 v, .int .i64 h, u]) ∧ OwnRows w' w.heap.size u (rows.set b.toNat (addRow p c (rows.getD b.toNat []) (rows.getD a.toNat []))) ∧ Below w.heap.size w w' := by
 obtain ⟨ra, hra⟩ := get_of_lt (show a.toNat < rows.length by omega)
 obtain ⟨rb, hrb⟩ := get_of_lt (show b.toNat < rows.length by omega)
 have HA := Lib.hid (show rows.getD a.toNat [] = ra by simp [List.getD, hra])
 have HBB := Lib.hid (show rows.getD b.toNat [] = rb by simp [List.getD, hrb])
 have HXA := Lib.hid (show ∀ x ∈ ra, 0 ≤ x ∧ x ≤ 1000 from hx ra (List.mem_of_getElem? hra))
 have HXB := Lib.hid (show ∀ x ∈ rb, 0 ≤ x ∧ x ≤ 1000 from hx rb (List.mem_of_getElem? hrb))
 have HLE := Lib.hid (show rb.length = ra.length by rw [hl ra (List.mem_of_getElem? hra), hl rb (List.mem_of_getElem? hrb)])
 have hrm : ra.length ≤ 1000 := hms ra (List.mem_of_getElem? hra)
 clear hx hl
 have HM := Lib.hid (show rows.length ≤ 1048576 by omega)
 have HMS := Lib.hid (show ∀ r ∈ rows, r.length ≤ 1048576 from fun r hr => by have := hms r hr; omega)
 go_enter Tryz.func49, Tryz.ntmps49
 go_wp2_with fail
 refine (stOwn_any _ _ _ _ _ _ (hR.ext (((Below.refl _ _).alloc (by simp) _ |>.alloc (by simp) _).alloc (by simp <;> omega) _)) HM.out HMS.out).mono ?_
 rintro e w1 ⟨u, rfl, ⟨us, hu⟩, hb1⟩
 obtain ⟨gA, gcap, rfl, _, _, _⟩ := OwnRows.view ⟨us, hu⟩
 obtain ⟨q0, q1, q2⟩ := heap_at3 w (.cells #[.int .i64 v, .int .i64 h, .slice A rows.length cap] 30) (.cells #[.int .i64 3, .int .i64 a, .int .i64 b, .int .i64 c, .slice XA n xcap] 34) (.cells #[.int .i64 0, .int .i64 0, .slice none 0 0] 30)
 have hsz1 := hb1.size
 simp only [World.size_alloc] at hsz1
 go_upto_region 2 with (fail)
 obtain ⟨W2, hW2⟩ : ∃ W2, W2 = w1.alloc (.cells #[.int .i64 v, .int .i64 h, .slice gA rows.length gcap] 30) := ⟨_, rfl⟩
 rw [← hW2]
 have hb2 : Below w1.heap.size w1 W2 := by rw [hW2]; exact (Below.refl _ _).alloc (Nat.le_refl _) _
 have hsz2 : W2.heap.size = w1.heap.size + 1 := by rw [hW2]; simp
 have hb02 := hb1.trans (hb2.mono hb1.size)
 have m2 : W2.heap[w1.heap.size]? = some (.cells #[.int .i64 v, .int .i64 h, .slice gA rows.length gcap] 30 (0, 0)) := by rw [hW2]; exact heap_at _ _ rfl
 have k0 := boxb hb02 q0
 have k1 := boxb hb02 q1
 have k2 := boxb hb02 q2
 have hu2 : OwnRowsW W2 (w.heap.size + 3) (.slice gA rows.length gcap) rows us := (hu.ext hb2).mono (by simp)
 have hub : ∀ g', gA = some ⟨g', 0, none⟩ → g' < w1.heap.size := fun g' e => by subst e; exact (World.ownsRow.lt hu.outer g' rfl).2
 have hin : ∀ (k : Nat) (x : Value), us[k]? = some x → ∀ b, x.ownBlock = some b → b < w1.heap.size := fun k x hx b hb => by obtain ⟨r, _, ho⟩ := hu.getR hx; exact (ho.lt b hb).2
 have hb3 : Below w.heap.size w W2 := (below_alloc3 w _ _ _).trans (hb02.mono (by simp <;> omega))
 clear hu hb1 hb2 hb02 hR hms q0 q1 q2 hW2
 obtain ⟨ua, hua, hoa⟩ := hu2.get hra
 obtain ⟨ub, hubb, hob⟩ := hu2.get hrb
 obtain ⟨g, hgv, hgB, hgl⟩ : ∃ g, gA = some ⟨g, 0, none⟩ ∧ w.heap.size + 3 ≤ g ∧ g < W2.heap.size := own_at hu2 (by omega)
 subst hgv
 have hgu := hub g rfl
 obtain ⟨Aa, ca, rfl, hIa, _⟩ := hoa.view
 obtain ⟨Ab, cb, rfl, _, _⟩ := hob.view
 have z0 : W2.cell? ⟨g, a.toNat, none⟩ = some (.slice Aa ra.length ca) := by rw [hu2.outer.cellAt _ (by omega), hua]
 have z1 : W2.cell? ⟨g, b.toNat, none⟩ = some (.slice Ab rb.length cb) := by rw [hu2.outer.cellAt _ (by omega), hubb]
 obtain ⟨y0, y1, y2, y3, y4⟩ := cells_5 k1
 obtain ⟨x0, x1, x2⟩ := cells_3 m2
 have HAP := Lib.hid (fun ga gb (h1 : (Value.slice Aa ra.length ca).ownBlock = some ga) (h2 : (Value.slice Ab rb.length cb).ownBlock = some gb) => show ga ≠ gb from fun e => by
  have := hu2.apart _ _ _ _ ga hua hubb h1 (by rw [e]; exact h2)
  omega)
 have HU := Lib.hid hu2; have HB := Lib.hid hb3; have HUB := Lib.hid hubb; have HOB := Lib.hid hob; have HOA := Lib.hid hoa; have HI := Lib.hid hIa
 have K0 := Lib.hid k0; have K1 := Lib.hid k1; have K2 := Lib.hid k2; have M2 := Lib.hid m2; have HIN := Lib.hid (hin _ _ hubb)
 have hap := Lib.hid (apart_types' hu2.outer hob)
 clear hu2 hb3 hua hubb hoa hob hra hrb hIa hub hin k0 k1 k2 m2
 go_wp2
 go_loopw [84] (fun i wr => ∃ k : Nat, k ≤ ra.length ∧ i = .int .i64 k ∧ wr.ownsRow (w.heap.size + 3) 3 1 (.slice Ab rb.length cb) rb.length ((addTo p c rb ra k).map (Value.int .i64)) ∧ W2.grownBy wr (Value.slice Ab rb.length cb).ownBlock)
  (fun i _ => ra.length - (intOf i).toNat)
 case atStart => exact ⟨0, Nat.zero_le _, rfl, by rw [addTo_zero]; exact HOB.out, ⟨rfl, rfl, rfl, Nat.le_refl _, fun _ _ _ => rfl⟩⟩
 case round =>
  obtain ⟨k, hk, rfl, hown, hgr⟩ := hrel
  by_cases hlt : k < ra.length
  ·have hltb : k < rb.length := by have := HLE.out; omega
   obtain ⟨y, hy⟩ := get_of_lt hlt
   obtain ⟨x, hx⟩ := get_of_lt hltb
   obtain ⟨gb, rfl, hgb, _⟩ := own_at1 HOB.out (by omega)
   obtain ⟨ga, rfl, hga, _⟩ := own_at1 HOA.out (by omega)
   have hgb' := HIN.out gb rfl
   have hne : g ≠ gb := by
    rcases hap.out with h | h
    ·cases h
    ·exact fun e => h (by rw [e]; rfl)
   have hne2 : ga ≠ gb := HAP.out ga gb rfl rfl
   have t2 : wr.cell? ⟨w.heap.size + 1, 2, none⟩ = some (.int .i64 b) := hgr.cell y2 (by simp [Value.ownBlock]; omega)
   have t3 : wr.cell? ⟨w.heap.size + 1, 3, none⟩ = some (.int .i64 c) := hgr.cell y3 (by simp [Value.ownBlock]; omega)
   have t5 : wr.cell? ⟨w1.heap.size, 2, none⟩ = some (.slice (some ⟨g, 0, none⟩) rows.length gcap) := hgr.cell x2 (by simp [Value.ownBlock]; omega)
   have t6 : wr.cell? ⟨g, b.toNat, none⟩ = some (.slice (some ⟨gb, 0, none⟩) rb.length cb) := hgr.cell z1 (by simp [Value.ownBlock]; omega)
   have t7 : wr.cell? ⟨ga, k, none⟩ = some (.int .i64 y) := by
    rcases HI.out with h | ⟨b', o', h, hc⟩
    ·rw [h] at hlt; simp at hlt
    ·simp only [Option.some.injEq, Addr.mk.injEq] at h
     obtain ⟨rfl, rfl, _⟩ := h
     have := hc k y hy
     rw [Nat.zero_add] at this
     exact hgr.cell this (by simp [Value.ownBlock]; omega)
   have hcx : wr.cell? ⟨gb, k, none⟩ = some (.int .i64 x) := by
    rw [hown.cellAt k (by omega), List.getElem?_map, addTo_get _ _ _ _ _ hlt HLE.out, hx]; rfl
   have hfr := hown.frozenAt k
   obtain ⟨q1, q2⟩ := HXB.out x (List.mem_of_getElem? hx)
   obtain ⟨q3, q4⟩ := HXA.out y (List.mem_of_getElem? hy)
   have m0 := Int.emod_nonneg (y * c) (show p ≠ 0 by omega)
   have m1 := Int.emod_lt_of_pos (y * c) (show 0 < p by omega)
   have hval : (x + y * c) % p = (x + c * y) % p := by rw [Int.mul_comm]
   have hst := hown.stored k (.int .i64 ((x + y * c) % p))
   rw [hval, ← List.map_set, addTo_set _ _ _ _ _ _ _ hx hy, ← hval] at hst
   have HS := Lib.hid hst.1
   have HG := Lib.hid (grownBy_trans hgr hst.2)
   have hjb : (b.toNat : Int) = b := by omega
   clear hst hx hy hown hgr x0 x1 x2 y0 y1 y2 y3 y4 z0 z1 hval hjb
   go_wp2_with fail
   refine wp_region_T (S := fun W => W.cell? ⟨w.heap.size + 1, 2, none⟩ = some (.int .i64 b) ∧ W.cell? ⟨w.heap.size + 1, 3, none⟩ = some (.int .i64 c) ∧ W.cell? ⟨w1.heap.size, 2, none⟩ = some (.slice (some ⟨g, 0, none⟩) rows.length gcap) ∧ W.cell? ⟨g, b.toNat, none⟩ = some (.slice (some ⟨gb, 0, none⟩) rb.length cb) ∧ W.cell? ⟨gb, k, none⟩ = some (.int .i64 x)) 24 (by kernel_rfl) (by simp [*]) (fun hHeld => ?_)
   refine takeQ 0 (v := ?_) rfl (Or.inl ⟨by rfl, ?_⟩) ?_
   rotate_left
   ·intro w h; (try dsimp only at h); go_simp; (try with_reducible rfl)
   simp only [Act.put, List.setIfInBounds_toArray, List.set_cons_zero, List.set_cons_succ]
   refine takeQ 1 (v := ?_) rfl (Or.inl ⟨by rfl, ?_⟩) ?_
   rotate_left
   ·intro w h; (try dsimp only at h); go_simp; (try with_reducible rfl)
   simp only [Act.put, List.setIfInBounds_toArray, List.set_cons_zero, List.set_cons_succ]
   refine takeQ 2 (v := ?_) rfl (Or.inl ⟨by rfl, ?_⟩) ?_
   rotate_left
   ·intro w h; (try dsimp only at h); go_simp; (try with_reducible rfl)
   simp only [Act.put, List.setIfInBounds_toArray, List.set_cons_zero, List.set_cons_succ]
   refine takeQ 3 (v := ?_) rfl (Or.inl ⟨by rfl, ?_⟩) ?_
   rotate_left
   ·intro w h; (try dsimp only at h); go_simp; (try with_reducible rfl)
   simp only [Act.put, List.setIfInBounds_toArray, List.set_cons_zero, List.set_cons_succ]
   refine takeQ 4 (v := ?_) rfl (Or.inl ⟨by rfl, ?_⟩) ?_
   rotate_left
   ·intro w h; (try dsimp only at h); go_simp; (try with_reducible rfl)
   simp only [Act.put, List.setIfInBounds_toArray, List.set_cons_zero, List.set_cons_succ]
   refine takeQ 5 (v := ?_) rfl (Or.inl ⟨by rfl, ?_⟩) ?_
   rotate_left
   ·intro w h; (try dsimp only at h); go_simp; (try with_reducible rfl)
   simp only [Act.put, List.setIfInBounds_toArray, List.set_cons_zero, List.set_cons_succ]
   refine takeQ 6 (v := ?_) rfl (Or.inl ⟨by rfl, ?_⟩) ?_
   rotate_left
   ·intro w h; (try dsimp only at h); go_simp; (try with_reducible rfl)
   simp only [Act.put, List.setIfInBounds_toArray, List.set_cons_zero, List.set_cons_succ]
   refine takeQ 7 (v := ?_) rfl (Or.inl ⟨by rfl, ?_⟩) ?_
   rotate_left
   ·intro w h; (try dsimp only at h); go_simp; (try with_reducible rfl)
   simp only [Act.put, List.setIfInBounds_toArray, List.set_cons_zero, List.set_cons_succ]
   refine takeQ 8 (v := ?_) rfl (Or.inl ⟨by rfl, ?_⟩) ?_
   rotate_left
   ·intro w h; (try dsimp only at h); go_simp; (try with_reducible rfl)
   simp only [Act.put, List.setIfInBounds_toArray, List.set_cons_zero, List.set_cons_succ]
   refine takeQ 9 (v := ?_) rfl (Or.inl ⟨by rfl, ?_⟩) ?_
   rotate_left
   ·intro w h; (try dsimp only at h); go_simp; (try with_reducible rfl)
   simp only [Act.put, List.setIfInBounds_toArray, List.set_cons_zero, List.set_cons_succ]
   refine takeQ 10 (v := ?_) rfl (Or.inl ⟨by rfl, ?_⟩) ?_
   rotate_left
   ·intro w h; (try dsimp only at h); go_simp; (try with_reducible rfl)
   simp only [Act.put, List.setIfInBounds_toArray, List.set_cons_zero, List.set_cons_succ]
   refine takeQ 11 (v := ?_) rfl (Or.inl ⟨by rfl, ?_⟩) ?_
   rotate_left
   ·intro w h; (try dsimp only at h); go_simp; (try with_reducible rfl)
   simp only [Act.put, List.setIfInBounds_toArray, List.set_cons_zero, List.set_cons_succ]
   refine takeQ 12 (v := ?_) rfl (Or.inl ⟨by rfl, ?_⟩) ?_
   rotate_left
   ·intro w h; (try dsimp only at h); go_simp; (try with_reducible rfl)
   simp only [Act.put, List.setIfInBounds_toArray, List.set_cons_zero, List.set_cons_succ]
   refine takeQ 13 (v := ?_) rfl (Or.inl ⟨by rfl, ?_⟩) ?_
   rotate_left
   ·intro w h; (try dsimp only at h); go_simp; (try with_reducible rfl)
   simp only [Act.put, List.setIfInBounds_toArray, List.set_cons_zero, List.set_cons_succ]
   refine takeQ 14 (v := ?_) rfl (Or.inl ⟨by rfl, ?_⟩) ?_
   rotate_left
   ·intro w h; (try dsimp only at h); go_simp; (try with_reducible rfl)
   simp only [Act.put, List.setIfInBounds_toArray, List.set_cons_zero, List.set_cons_succ]
   refine takeQ 15 (v := ?_) rfl (Or.inl ⟨by rfl, ?_⟩) ?_
   rotate_left
   ·intro w h; (try dsimp only at h); go_simp; (try with_reducible rfl)
   simp only [Act.put, List.setIfInBounds_toArray, List.set_cons_zero, List.set_cons_succ]
   refine takeQ 16 (v := ?_) rfl (Or.inl ⟨by rfl, ?_⟩) ?_
   rotate_left
   ·intro w h; (try dsimp only at h); go_simp; (try with_reducible rfl)
   simp only [Act.put, List.setIfInBounds_toArray, List.set_cons_zero, List.set_cons_succ]
   refine takeQ 17 (v := ?_) rfl (Or.inl ⟨by rfl, ?_⟩) ?_
   rotate_left
   ·intro w h; (try dsimp only at h); go_simp; (try with_reducible rfl)
   simp only [Act.put, List.setIfInBounds_toArray, List.set_cons_zero, List.set_cons_succ]
   refine takeQ 18 (v := ?_) rfl (Or.inl ⟨by rfl, ?_⟩) ?_
   rotate_left
   ·intro w h; (try dsimp only at h); go_simp; (try with_reducible rfl)
   simp only [Act.put, List.setIfInBounds_toArray, List.set_cons_zero, List.set_cons_succ]
   refine takeQ 19 (v := ?_) rfl (Or.inl ⟨by rfl, ?_⟩) ?_
   rotate_left
   ·intro w h; (try dsimp only at h); go_simp; (try with_reducible rfl)
   simp only [Act.put, List.setIfInBounds_toArray, List.set_cons_zero, List.set_cons_succ]
   refine takeQ 20 (v := ?_) rfl (Or.inl ⟨by rfl, ?_⟩) ?_
   rotate_left
   ·intro w h; (try dsimp only at h); go_simp; (try with_reducible rfl)
   simp only [Act.put, List.setIfInBounds_toArray, List.set_cons_zero, List.set_cons_succ]
   refine oneT (i := 21) (by kernel_rfl) rfl (fun K hK => ?_)
   go_simp
   refine (fdMul_any p y c _ hp hp' q3 q4 hc hc').mono ?_
   rintro e w' ⟨rfl, rfl⟩
   go_simp
   refine hK.out _ _ (fun _ => hHeld) (fun hHeld => ?_)
   clear hK K
   try simp only [Act.put, List.setIfInBounds_toArray, List.set_cons_zero, List.set_cons_succ]
   have hHeld := hHeld (by decide)
   refine oneT (i := 22) (by kernel_rfl) rfl (fun K hK => ?_)
   go_simp
   refine (fdAdd_any p x (y * c % p) _ hp hp' q1 q2 m0 (by omega)).mono ?_
   rintro e w' ⟨rfl, rfl⟩
   go_simp
   refine hK.out _ _ (fun _ => hHeld) (fun hHeld => ?_)
   clear hK K
   try simp only [Act.put, List.setIfInBounds_toArray, List.set_cons_zero, List.set_cons_succ]
   have hHeld := hHeld (by decide)
   refine oneT (i := 23) (by kernel_rfl) rfl (fun K hK => ?_)
   go_simp
   refine hK.out _ _ (fun _ => hHeld) (fun hHeld => ?_)
   clear hK K
   try simp only [Act.put, List.setIfInBounds_toArray, List.set_cons_zero, List.set_cons_succ]
   have hHeld := hHeld (by decide)
   refine oneT (i := 24) (by kernel_rfl) rfl (fun K hK => ?_)
   go_simp
   refine hK.out _ _ (fun h => absurd h (by decide)) (fun _ => ?_)
   clear hK K
   try simp only [Act.put, List.setIfInBounds_toArray, List.set_cons_zero, List.set_cons_succ]
   refine doneT (by kernel_rfl) ?_ _
   go_wp2
   go_roundw
   case rel => exact ⟨k+1, by omega, by go_num, HS.out, grownBy_trans HG.out (grownBy_drew _ _)⟩
   case measure => simp [intOf]; omega
  ·have hblk : ∀ b, (Value.slice Ab rb.length cb).ownBlock = some b → w.heap.size + 3 ≤ b ∧ b < w1.heap.size := fun b hb => ⟨(World.ownsRow.lt HOB.out b hb).1, HIN.out b hb⟩
   have m2w := (hgr.block w1.heap.size (by omega) (fun e => by have := hblk _ e.symm; omega)).trans M2.out
   have k0w := (hgr.block w.heap.size (by omega) (fun e => by have := hblk _ e.symm; omega)).trans K0.out
   have k1w := (hgr.block (w.heap.size + 1) (by omega) (fun e => by have := hblk _ e.symm; omega)).trans K1.out
   have k2w := (hgr.block (w.heap.size + 1 + 1) (by omega) (fun e => by have := hblk _ e.symm; omega)).trans K2.out
   have hk' : k = ra.length := by omega
   subst hk'
   have hin := HU.out.inner (r' := addRow p c rb ra) HUB.out hgr (by
    unfold OwnInts
    rw [show (addRow p c rb ra).length = rb.length by simp [addRow, HLE.out], ← addTo_all p c rb ra HLE.out ra.length (Nat.le_refl _)]
    exact hown)
   rw [← HA.out, ← HBB.out] at hin
   have HO := Lib.hid (show OwnRows wr (w.heap.size + 3) (.slice (some ⟨g, 0, none⟩) rows.length gcap) (rows.set b.toNat (addRow p c (rows.getD b.toNat []) (rows.getD a.toNat []))) by
    exact ⟨_, hin⟩)
   have HE := Lib.hid (HB.out.grown hgr (by omega) fun b hb => by have := hblk b hb; omega)
   clear hown hgr hblk hin x0 x1 x2 y0 y1 y2 y3 y4 z0 z1
   obtain ⟨y0, y1, y2, y3, y4⟩ := cells_5 k1w
   obtain ⟨s0, s1, s2⟩ := cells_3 k0w
   clear k0w k1w
   have e0 := blk_cell m2w 0
   have e1 := blk_cell m2w 1
   have e2 := blk_cell m2w 2
   have e3 := blk_cell k2w 0
   have e4 := blk_cell k2w 1
   have e5 := blk_cell k2w 2
   have e6 := blk_free k2w 0
   have e7 := blk_free k2w 1
   have e8 := blk_free k2w 2
   simp only [List.getElem?_cons_zero, List.getElem?_cons_succ] at e0 e1 e2 e3 e4 e5
   clear m2w k2w
   go_wp2
   refine bodyPost_ret (v := .agg #[.int .i64 v, .int .i64 h, .slice (some ⟨g, 0, none⟩) rows.length gcap]) (by simp [results, Tryz.results49, go_sem, *]) rfl ⟨_, rfl, ?_, ?_⟩
   ·exact (((HO.out.setCell (by simp <;> omega) _).setCell (by simp <;> omega) _).setCell (by simp <;> omega) _).mono (by omega)
   ·exact ((HE.out.setCell (by simp <;> omega) _).setCell (by simp <;> omega) _).setCell (by simp <;> omega) _
/-- A function applied to the elements, as far as place k. -/
def mapTo {α : Type} (f : α → α) (xs : List α) (k : Nat) : List α := (xs.map f).take k ++ xs.drop k
theorem mapTo_zero {α : Type} (f : α → α) (xs : List α) : mapTo f xs 0 = xs := by simp [mapTo]
theorem mapTo_all {α : Type} (f : α → α) (xs : List α) (k : Nat) (hk : xs.length ≤ k) : mapTo f xs k = xs.map f := by
 unfold mapTo
 rw [List.take_of_length_le (by simpa using hk), List.drop_of_length_le hk, List.append_nil]
theorem mapTo_get {α : Type} (f : α → α) (xs : List α) (k : Nat) (hk : k < xs.length) : (mapTo f xs k)[k]? = xs[k]? := by
 unfold mapTo
 rw [List.getElem?_append_right (by simp; omega), List.getElem?_drop]
 congr 1
 simp; omega
theorem mapTo_len {α : Type} (f : α → α) (xs : List α) (k : Nat) (hk : k ≤ xs.length) : (mapTo f xs k).length = xs.length := by
 unfold mapTo; simp; omega
theorem mapTo_set {α : Type} (f : α → α) (xs : List α) (k : Nat) (x : α) (hx : xs[k]? = some x) : (mapTo f xs k).set k (f x) = mapTo f xs (k + 1) := by
 have h1 := (List.getElem?_eq_some_iff.1 hx).1
 unfold mapTo
 rw [List.set_append_right _ _ (by simp; omega), List.take_add_one]
 have e1 : xs.drop k = x :: xs.drop (k + 1) := by
  rw [List.drop_eq_getElem_cons h1]
  congr 1
  rw [List.getElem?_eq_getElem h1] at hx
  exact Option.some.inj hx
 have e2 : k - ((xs.map f).take k).length = 0 := by simp; omega
 rw [e1, e2, List.set_cons_zero]
 simp [hx]
theorem ownsRow_neSys {w : World} {B b n sz : Nat} {v : Value} {T : TypeId} {vs : List Value} {cs : Array Value} {fr : Nat × Nat} (h : w.ownsRow B T sz v n vs) (hb : w.heap[b]? = some (.cells cs 30 fr)) (hT : T ≠ 30) : v.ownBlock = none ∨ v.ownBlock ≠ some b := by
 rcases h.2 with ⟨rfl, _⟩ | ⟨g, cap, cur, rfl, _, hg, _⟩
 ·exact Or.inl rfl
 ·refine Or.inr fun e => ?_
  simp only [Value.ownBlock, Option.some.injEq] at e
  subst e; rw [hb] at hg; simp at hg; exact hT hg.2.1.symm
theorem frz {w w' : World} {r : Nat} {a : Addr} {v : Value} (hg : w.grownBy w' (some r)) (hf : w.frozen? a = false) (hc : w.cell? a = some v) (hne : a.block ≠ r) : w'.frozen? a = false := by
 have h := hg.block a.block (World.block_lt_of_cell? w a hc) (by simpa using hne)
 unfold World.frozen? at hf ⊢
 rw [h]; exact hf
theorem gcell {w w' : World} {r : Nat} {a : Addr} {v : Value} (hg : w.grownBy w' (some r)) (hc : w.cell? a = some v) (hne : a.block ≠ r) : w'.cell? a = some v :=
 (World.cell?_of_block (w := w) (hg.block a.block (World.block_lt_of_cell? w a hc) (by simpa using hne))).trans hc
theorem erase_map {α β : Type} (f : α → β) (l : List α) (i : Nat) : (l.map f).eraseIdx i = (l.eraseIdx i).map f := by
 apply List.ext_getElem?
 intro j
 rw [erase_get, List.getElem?_map, List.getElem?_map, erase_get]
set_option maxHeartbeats 4000000 in
theorem without_any (b v h : Int) (A : Option Addr) (cap : Nat) (rows : List (List Int)) (w : World) (hR : RowsAt w A rows) (hm : rows.length ≤ 160) (hms : ∀ r ∈ rows, r.length ≤ 1000)
  (hv : 0 ≤ v) (hv' : v ≤ 1000) (hb : 0 ≤ b) (hb' : b ≤ 1000) (hh : 1 ≤ h) (hh' : h ≤ 1000) (hlen : ∀ r ∈ rows, v + b < r.length) :
  Calls Tryz.prog 190 #[.agg #[.int .i64 v, .int .i64 h, .slice A rows.length cap], .int .i64 b] w fun e w' =>
   ∃ u, e = .returned (.agg #[.int .i64 v, .int .i64 (h - 1), u]) ∧ OwnRows w' w.heap.size u (rows.map (fun r => r.eraseIdx (v + b).toNat)) ∧ Below w.heap.size w w' := by
 have HLEN := Lib.hid (show ∀ r ∈ rows, v + b < r.length ∧ r.length ≤ 1000 from fun r hr => ⟨hlen r hr, hms r hr⟩)
 clear hlen
 have HM := Lib.hid (show rows.length ≤ 1048576 by omega)
 have HMS := Lib.hid (show ∀ r ∈ rows, r.length ≤ 1048576 from fun r hr => by have := hms r hr; omega)
 go_enter Tryz.func190, Tryz.ntmps190
 go_wp2_with fail
 refine (copy_any _ _ _ _ _ _ (hR.ext ((Below.refl _ _).alloc (by simp) _ |>.alloc (by simp) _)) HM.out HMS.out).mono ?_
 rintro e w1 ⟨u, rfl, ⟨us, hu⟩, hb1⟩
 obtain ⟨gA, gcap, rfl, _, _, _⟩ := OwnRows.view ⟨us, hu⟩
 have q1 : ((w.alloc (.cells #[.int .i64 v, .int .i64 h, .slice A rows.length cap] 30)).alloc (.cells #[.int .i64 0, .int .i64 0, .slice none 0 0] 30)).heap[w.heap.size]? = some (.cells #[.int .i64 v, .int .i64 h, .slice A rows.length cap] 30) := (heap_past _ _ (by simp)).trans (heap_at _ _ rfl)
 have q2 : ((w.alloc (.cells #[.int .i64 v, .int .i64 h, .slice A rows.length cap] 30)).alloc (.cells #[.int .i64 0, .int .i64 0, .slice none 0 0] 30)).heap[w.heap.size + 1]? = some (.cells #[.int .i64 0, .int .i64 0, .slice none 0 0] 30) := heap_at _ _ (by simp)
 have hsz1 := hb1.size
 simp only [World.size_alloc] at hsz1
 go_upto_region 2 with (fail)
 obtain ⟨W2, hW2⟩ : ∃ W2, W2 = w1.alloc (.cells #[.int .i64 v, .int .i64 h, .slice gA rows.length gcap] 30) := ⟨_, rfl⟩
 rw [← hW2]
 have hb2 : Below w1.heap.size w1 W2 := by rw [hW2]; exact (Below.refl _ _).alloc (Nat.le_refl _) _
 have hsz2 : W2.heap.size = w1.heap.size + 1 := by rw [hW2]; simp
 have hb02 := hb1.trans (hb2.mono hb1.size)
 have m2 : W2.heap[w1.heap.size]? = some (.cells #[.int .i64 v, .int .i64 h, .slice gA rows.length gcap] 30 (0, 0)) := by rw [hW2]; exact heap_at _ _ rfl
 have k1 := boxb hb02 q1
 have k2 := boxb hb02 q2
 have hu2 : OwnRowsW W2 (w.heap.size + 2) (.slice gA rows.length gcap) rows us := (hu.ext hb2).mono (by simp)
 have hb3 : Below w.heap.size w W2 := ((Below.refl w.heap.size w).alloc (by simp) _ |>.alloc (by simp) _).trans (hb02.mono (by simp <;> omega))
 clear hu hb1 hb2 hb02 hR hms q1 q2 hW2
 have x1 := blk_cell k1 0
 have x2 := blk_cell m2 2
 simp only [List.getElem?_cons_zero, List.getElem?_cons_succ] at x1 x2
 have HU := Lib.hid hu2; have HB := Lib.hid hb3
 have K1 := Lib.hid k1; have K2 := Lib.hid k2; have M2 := Lib.hid m2
 clear hu2 hb3 k1 k2 m2
 go_wp2
 go_loopw [13] (fun i wr => ∃ k : Nat, k ≤ rows.length ∧ i = .int .i64 k ∧ (∃ usk, OwnRowsW wr (w.heap.size + 2) (.slice gA rows.length gcap) (mapTo (fun r => r.eraseIdx (v + b).toNat) rows k) usk) ∧
   wr.heap[w1.heap.size]? = some (.cells #[.int .i64 v, .int .i64 h, .slice gA rows.length gcap] 30 (0, 0)) ∧ Below (w.heap.size + 2) W2 wr)
  (fun i _ => rows.length - (intOf i).toNat)
 case atStart => exact ⟨0, Nat.zero_le _, rfl, ⟨us, by rw [mapTo_zero]; exact HU.out⟩, M2.out, Below.refl _ _⟩
 case round =>
  obtain ⟨k, hk, rfl, ⟨usk, hown⟩, hm2, hbw⟩ := hrel
  by_cases hlt : k < rows.length
  ·obtain ⟨r, hr⟩ := get_of_lt hlt
   have hrk : (mapTo (fun r => r.eraseIdx (v + b).toNat) rows k)[k]? = some r := (mapTo_get _ _ _ hlt).trans hr
   obtain ⟨ur, hur, hor⟩ := hown.get hrk
   obtain ⟨hl1, hl2⟩ := HLEN.out r (List.mem_of_getElem? hr)
   obtain ⟨Ar, cr, rfl, _⟩ := hor.view
   obtain ⟨gr, rfl, hgr1, hgr2⟩ := own_at1 hor (by omega)
   obtain ⟨g, rfl, hg1, hg2⟩ := own_at hown (by rw [mapTo_len _ _ _ hk]; omega)
   have hout := hown.outer
   rw [mapTo_len _ _ _ hk] at hout
   have z0 : wr.cell? ⟨g, k, none⟩ = some (.slice (some ⟨gr, 0, none⟩) r.length cr) := by rw [hout.cellAt _ (by omega), hur]
   have y1 : wr.cell? ⟨w.heap.size, 0, none⟩ = some (.int .i64 v) := (hbw.cell (by simp <;> omega)).trans x1
   have y2 : wr.cell? ⟨w1.heap.size, 2, none⟩ = some (.slice (some ⟨g, 0, none⟩) rows.length gcap) := blk_cell hm2 2
   have hne : gr ≠ w1.heap.size := fun e => by
    rcases ownsRow_neSys hor hm2 (by decide) with h1 | h1
    ·cases h1
    ·exact h1 (by rw [← e]; rfl)
   have hne2 : g ≠ w1.heap.size := fun e => by
    rcases ownsRow_neSys hown.outer hm2 (by decide) with h1 | h1
    ·cases h1
    ·exact h1 (by rw [← e]; rfl)
   have f0 := hout.frozenAt k
   have HO := Lib.hid hown; have HR := Lib.hid hor; have HW := Lib.hid hbw; have HM2 := Lib.hid hm2; have HRK := Lib.hid hrk; have HUR := Lib.hid hur; have HRR := Lib.hid hr
   clear hout hown hor hbw hm2 hrk hur hr
   have hw1 : IntKind.i64.wrap (v + b) = v + b := by rw [IntKind.wrap_i64]; omega
   have hw2 : IntKind.i64.wrap (v + b + 1) = v + b + 1 := by rw [IntKind.wrap_i64]; omega
   have hne3 : g ≠ gr := by
    rcases apart_types' HO.out.outer HR.out with h1 | h1
    ·cases h1
    ·exact fun e => h1 (by rw [e]; rfl)
   have DEL := Lib.hid (deleteInts_any (w.heap.size + 2) gr r.length cr (v + b) (r.map (Value.int .i64)) wr.drew (World.ownsRow.drew HR.out) (by intro u hu; simp at hu; obtain ⟨x, _, rfl⟩ := hu; rfl) (by omega) hl1 (by omega))
   go_wp2_with fail
   go_region_held3 (fun w' => w'.cell? ⟨w.heap.size, 0, none⟩ = some (.int .i64 v) ∧ w'.cell? ⟨w1.heap.size, 2, none⟩ = some (.slice (some ⟨g, 0, none⟩) rows.length gcap))
    (first | (exact hS3) | (exact ⟨y1, y2⟩) | (refine ⟨?_, ?_⟩ <;> (first | (refine (cell_set_ne2 (by simp <;> omega)).trans ?_; assumption) | (refine (cell_set_ne' (by simp <;> omega)).trans ?_; assumption))))
    ((go_at_call 191; refine DEL.out.mono ?_; rintro e wx ⟨rfl, hox, hgx⟩; have f3 : wx.frozen? ⟨g, k, none⟩ = false := (frz (w := wr.drew) hgx f0 z0 hne3); have s1 := gcell (w := wr.drew) hgx y1 (show w.heap.size ≠ gr by omega); have s2 := gcell (w := wr.drew) hgx y2 (show w1.heap.size ≠ gr by omega); have hS3 := And.intro s1 s2; clear y1 y2; have z3 := gcell (w := wr.drew) hgx z0 hne3))
   have hgx := grownBy_trans (grownBy_drew wr (some gr)) hgx
   have hou : OwnInts wx (w.heap.size + 2) (.slice (some ⟨gr, 0, none⟩) (r.length - 1) cr) (r.eraseIdx (v + b).toNat) := by
    unfold OwnInts
    rw [← erase_map, List.length_eraseIdx_of_lt (by omega)]
    exact hox
   have hnew := HO.out.put (mapTo_len _ _ _ hk).symm HUR.out hgx hou (fun b hb => Or.inl hb)
   rw [mapTo_set _ _ _ _ HRR.out] at hnew
   have HN := Lib.hid hnew
   have HM3 := Lib.hid ((heap_setCell_other wx ⟨g, k, none⟩ w1.heap.size (.slice (some ⟨gr, 0, none⟩) (r.length - 1) cr) (by simp <;> omega)).trans ((hgx.block w1.heap.size (by have := HW.out.size; simp; omega) (by simp; omega)).trans HM2.out))
   have HB3 := Lib.hid (Below.setCell (Below.grown HW.out hgx (by have := HW.out.size; simp; omega) (fun b hb => by cases hb; omega)) (p := ⟨g, k, none⟩) (by simp <;> omega) (.slice (some ⟨gr, 0, none⟩) (r.length - 1) cr))
   clear hnew hou hox hgx DEL
   go_wp2
   go_roundw
   case rel => exact ⟨k+1, by omega, by go_num, ⟨_, HN.out⟩, HM3.out, HB3.out⟩
   case measure => simp [intOf]; omega
  ·skip
   have hk' : k = rows.length := by omega
   subst hk'
   rw [mapTo_all _ _ _ (Nat.le_refl _)] at hown
   have k2w := (hbw.block _ (by omega)).trans K2.out
   have e0 := blk_cell hm2 1
   have e1 := blk_free hm2 1
   simp only [List.getElem?_cons_zero, List.getElem?_cons_succ] at e0
   have HO := Lib.hid hown; have HW := Lib.hid hbw; have HF := Lib.hid hm2
   have hk2 := Lib.hid k2w
   have hwu : IntKind.i64.wrap (h - 1) = h - 1 := by rw [IntKind.wrap_i64]; omega
   clear hown hbw hm2 k2w x1 x2
   go_upto_region 8 with (fail)
   have m2w := heap_setCell_same wr w1.heap.size 1 _ _ (.int .i64 (h - 1)) HF.out
   simp only [List.setIfInBounds_toArray, List.set_cons_zero, List.set_cons_succ] at m2w
   have k2w := (heap_setCell_other wr ⟨w1.heap.size, 1, none⟩ (w.heap.size + 1) (.int .i64 (h - 1)) (by simp <;> omega)).trans hk2.out
   have hso := HO.out.setSys HF.out (j := 1) (u := .int .i64 (h - 1))
   have HO := Lib.hid (show OwnRows _ (w.heap.size + 2) _ _ from ⟨_, hso⟩)
   have hse := ((HB.out.trans (HW.out.mono (by omega))).setCell (p := ⟨w1.heap.size, 1, none⟩) (by simp <;> omega) (.int .i64 (h - 1)))
   have HE := Lib.hid hse
   clear hso hse
   have e0 := blk_cell m2w 0
   have e1 := blk_cell m2w 1
   have e2 := blk_cell m2w 2
   have e3 := blk_cell k2w 0
   have e4 := blk_cell k2w 1
   have e5 := blk_cell k2w 2
   have e6 := blk_free k2w 0
   have e7 := blk_free k2w 1
   have e8 := blk_free k2w 2
   simp only [List.getElem?_cons_zero, List.getElem?_cons_succ] at e0 e1 e2 e3 e4 e5
   clear m2w k2w
   go_wp2
   refine bodyPost_ret (v := .agg #[.int .i64 v, .int .i64 (h - 1), .slice gA rows.length gcap]) (by simp [results, Tryz.results190, go_sem, *]) rfl ⟨_, rfl, ?_, ?_⟩
   ·exact (((HO.out.setCell (by simp <;> omega) _).setCell (by simp <;> omega) _).setCell (by simp <;> omega) _).mono (by omega)
   ·exact ((HE.out.setCell (by simp <;> omega) _).setCell (by simp <;> omega) _).setCell (by simp <;> omega) _
end Go.Proofs.YtjdbfokbgmbphaaGreatDoor
