/- The reference's stMake, kinds 1, 2, 4 and 5. Conditions: a system of moderate size, a possible step. -/
import Derived.Test.YtjdbfokbgmbphaaGreatDoorPk9
namespace Go.Proofs.YtjdbfokbgmbphaaGreatDoor
set_option linter.unusedVariables false
set_option linter.unusedSimpArgs false
open Go.RowKit
set_option maxRecDepth 100000 in
set_option maxHeartbeats 8000000 in
theorem sm_swap (p v h a b c : Int) (A : Option Addr) (cap : Nat) (rows : List (List Int)) (w : World) (XA : Option Addr) (n xcap : Nat) (hR : RowsAt w A rows) (hm : rows.length ≤ 160) (hms : ∀ r ∈ rows, r.length ≤ 1000) (ha : 0 ≤ a) (ha' : a < rows.length) (hb : 0 ≤ b) (hb' : b < rows.length) (hab : a ≠ b) :
  Calls Tryz.prog 49 #[.int .i64 p, .agg #[.int .i64 v, .int .i64 h, .slice A rows.length cap], .agg #[.int .i64 1, .int .i64 a, .int .i64 b, .int .i64 c, .slice XA n xcap]] w fun e w' =>
   ∃ u, e = .returned (.agg #[.int .i64 v, .int .i64 h, u]) ∧ OwnRows w' w.heap.size u ((rows.set a.toNat (rows.getD b.toNat [])).set b.toNat (rows.getD a.toNat [])) ∧ Below w.heap.size w w' := by
 obtain ⟨ra, hra⟩ := get_of_lt (show a.toNat < rows.length by omega)
 obtain ⟨rb, hrb⟩ := get_of_lt (show b.toNat < rows.length by omega)
 have HA := Lib.hid (show rows.getD a.toNat [] = ra by simp [List.getD, hra])
 have HBB := Lib.hid (show rows.getD b.toNat [] = rb by simp [List.getD, hrb])
 have HM := Lib.hid (show rows.length ≤ 1048576 by omega)
 have HMS := Lib.hid (show ∀ r ∈ rows, r.length ≤ 1048576 from fun r hr => by have := hms r hr; omega)
 go_enter Tryz.func49, Tryz.ntmps49
 go_wp2_with fail
 refine (stOwn_any _ _ _ _ _ _ (hR.ext (((Below.refl _ _).alloc (by simp) _ |>.alloc (by simp) _).alloc (by simp <;> omega) _)) HM.out HMS.out).mono ?_
 rintro e w1 ⟨u, rfl, ⟨us, hu⟩, hb1⟩
 obtain ⟨gA, gcap, rfl, _, _, _⟩ := OwnRows.view ⟨us, hu⟩
 obtain ⟨q0, q1, q2⟩ := heap_at3 w (.cells #[.int .i64 v, .int .i64 h, .slice A rows.length cap] 30) (.cells #[.int .i64 1, .int .i64 a, .int .i64 b, .int .i64 c, .slice XA n xcap] 34) (.cells #[.int .i64 0, .int .i64 0, .slice none 0 0] 30)
 have hsz1 := hb1.size
 simp only [World.size_alloc] at hsz1
 go_upto_region 2 with (fail)
 obtain ⟨W2, hW2⟩ : ∃ W2, W2 = w1.alloc (.cells #[.int .i64 v, .int .i64 h, .slice gA rows.length gcap] 30) := ⟨_, rfl⟩
 rw [← hW2]
 have hb2 : Below w1.heap.size w1 W2 := by rw [hW2]; exact (Below.refl _ _).alloc (Nat.le_refl _) _
 have hsz2 : W2.heap.size = w1.heap.size + 1 := by rw [hW2]; simp
 have hb02 := hb1.trans (hb2.mono hb1.size)
 have m2 : W2.heap[w1.heap.size]? = some (.cells #[.int .i64 v, .int .i64 h, .slice gA rows.length gcap] 30 (0, 0)) := by rw [hW2]; exact heap_at _ _ rfl
 have k0 := boxb hb02 q0
 have k1 := boxb hb02 q1
 have k2 := boxb hb02 q2
 have hu2 : OwnRowsW W2 (w.heap.size + 3) (.slice gA rows.length gcap) rows us := (hu.ext hb2).mono (by simp)
 have hub : ∀ g', gA = some ⟨g', 0, none⟩ → g' < w1.heap.size := fun g' e => by subst e; exact (World.ownsRow.lt hu.outer g' rfl).2
 have hin : ∀ (k : Nat) (x : Value), us[k]? = some x → ∀ b, x.ownBlock = some b → b < w1.heap.size := fun k x hx b hb => by obtain ⟨r, _, ho⟩ := hu.getR hx; exact (ho.lt b hb).2
 have hb3 : Below w.heap.size w W2 := (below_alloc3 w _ _ _).trans (hb02.mono (by simp <;> omega))
 clear hu hb1 hb2 hb02 hR hms q0 q1 q2 hW2
 obtain ⟨g, hgv, hgB, hgl⟩ : ∃ g, gA = some ⟨g, 0, none⟩ ∧ w.heap.size + 3 ≤ g ∧ g < W2.heap.size := own_at hu2 (by omega)
 subst hgv
 have hgu := hub g rfl
 obtain ⟨ua, hua, hoa⟩ := hu2.get hra
 obtain ⟨ub, hubb, hob⟩ := hu2.get hrb
 obtain ⟨Aa, ca, rfl, _⟩ := hoa.view
 obtain ⟨Ab, cb, rfl, _⟩ := hob.view
 obtain ⟨y0, y1, y2, y3, y4⟩ := cells_5 k1
 obtain ⟨x0, x1, x2⟩ := cells_3 m2
 have z0 : W2.cell? ⟨g, a.toNat, none⟩ = some (.slice Aa ra.length ca) := by rw [hu2.outer.cellAt _ (by omega), hua]
 have z1 : W2.cell? ⟨g, b.toNat, none⟩ = some (.slice Ab rb.length cb) := by rw [hu2.outer.cellAt _ (by omega), hubb]
 have f0 := hu2.outer.frozenAt a.toNat
 have f1 := hu2.outer.frozenAt b.toNat
 have HS := Lib.hid (OwnRowsW.swap rfl hu2 hua hubb hra hrb)
 have HB := Lib.hid hb3; have K0 := Lib.hid k0; have K1 := Lib.hid k1; have K2 := Lib.hid k2; have M2 := Lib.hid m2
 clear hu2 hb3 hub hin k0 k1 k2 m2 hua hubb hoa hob hra hrb
 go_upto_region 5 with (fail)
 have z3 : (W2.setCell ⟨g, a.toNat, none⟩ (.slice Ab rb.length cb)).cell? ⟨g, b.toNat, none⟩ = some (.slice Ab rb.length cb) := by rw [World.cell?_setCell_other _ _ _ _ (by simp <;> omega)]; exact z1
 go_region_held3 (fun W => W.cell? ⟨w.heap.size + 1, 1, none⟩ = some (.int .i64 a) ∧ W.cell? ⟨w.heap.size + 1, 2, none⟩ = some (.int .i64 b) ∧ W.cell? ⟨w1.heap.size, 2, none⟩ = some (.slice (some ⟨g, 0, none⟩) rows.length gcap) ∧ W.cell? ⟨g, b.toNat, none⟩ = some (.slice Ab rb.length cb)) (first | exact ⟨y1, y2, x2, z1⟩ | exact ⟨(cell_set_ne (by simp <;> omega)).trans y1, (cell_set_ne (by simp <;> omega)).trans y2, (cell_set_ne (by simp <;> omega)).trans x2, z3⟩)
  (fail)
 obtain ⟨W3, hW3⟩ : ∃ W3, W3 = (W2.setCell ⟨g, a.toNat, none⟩ (.slice Ab rb.length cb)).drew := ⟨_, rfl⟩
 rw [← hW3]
 have hp3 : ∀ j, j ≠ g → W3.heap[j]? = W2.heap[j]? := fun j hj => by rw [hW3]; exact Below.heap_setCell _ _ _ _ hj
 have z4 : W3.cell? ⟨g, b.toNat, none⟩ = some (.slice Ab rb.length cb) := by rw [hW3]; exact z3
 have f4 : W3.frozen? ⟨g, b.toNat, none⟩ = false := by rw [hW3]; simpa using f1
 have k1w := (hp3 _ (by omega)).trans K1.out
 have m2w := (hp3 _ (by omega)).trans M2.out
 have HP3 := Lib.hid hp3; have HW3 := Lib.hid hW3
 clear y0 y1 y2 y3 y4 x0 x1 x2 z0 z1 f0 f1 z3 hp3 hW3
 obtain ⟨y0, y1, y2, y3, y4⟩ := cells_5 k1w
 obtain ⟨x0, x1, x2⟩ := cells_3 m2w
 clear k1w m2w
 go_upto_region 21 with (fail)
 obtain ⟨W4, hW4⟩ : ∃ W4, W4 = W3.setCell ⟨g, b.toNat, none⟩ (.slice Aa ra.length ca) := ⟨_, rfl⟩
 rw [← hW4]
 have hp4 : ∀ j, j ≠ g → W4.heap[j]? = W2.heap[j]? := fun j hj => by rw [hW4]; exact (Below.heap_setCell _ _ _ _ hj).trans (HP3.out j hj)
 have k0w := (hp4 _ (by omega)).trans K0.out
 have k1w := (hp4 _ (by omega)).trans K1.out
 have m2w := (hp4 _ (by omega)).trans M2.out
 have k2w := (hp4 _ (by omega)).trans K2.out
 have HO := Lib.hid (show OwnRows W4 (w.heap.size + 3) (.slice (some ⟨g, 0, none⟩) rows.length gcap) ((rows.set a.toNat rb).set b.toNat ra) by rw [hW4, HW3.out]; exact ⟨_, HS.out.ext (Below.refl _ _).drew⟩)
 have HE := Lib.hid (show Below w.heap.size w W4 by rw [hW4, HW3.out]; exact ((HB.out.setCell (by simp <;> omega) _).drew).setCell (by simp <;> omega) _)
 rw [← HA.out, ← HBB.out] at HO
 clear y0 y1 y2 y3 y4 x0 x1 x2 z4 f4 hp4 hW4
 obtain ⟨y0, y1, y2, y3, y4⟩ := cells_5 k1w
 obtain ⟨s0, s1, s2⟩ := cells_3 k0w
 clear k0w k1w
 have e0 := blk_cell m2w 0
 have e1 := blk_cell m2w 1
 have e2 := blk_cell m2w 2
 have e3 := blk_cell k2w 0
 have e4 := blk_cell k2w 1
 have e5 := blk_cell k2w 2
 have e6 := blk_free k2w 0
 have e7 := blk_free k2w 1
 have e8 := blk_free k2w 2
 simp only [List.getElem?_cons_zero, List.getElem?_cons_succ] at e0 e1 e2 e3 e4 e5
 clear m2w k2w
 go_wp2
 refine bodyPost_ret (v := .agg #[.int .i64 v, .int .i64 h, .slice (some ⟨g, 0, none⟩) rows.length gcap]) (by simp [results, Tryz.results49, go_sem, *]) rfl ⟨_, rfl, ?_, ?_⟩
 ·exact (((HO.out.setCell (by simp <;> omega) _).setCell (by simp <;> omega) _).setCell (by simp <;> omega) _).mono (by omega)
 ·exact ((HE.out.setCell (by simp <;> omega) _).setCell (by simp <;> omega) _).setCell (by simp <;> omega) _
set_option maxRecDepth 100000 in
set_option maxHeartbeats 8000000 in
theorem sm_scale (p v h a b c : Int) (A : Option Addr) (cap : Nat) (rows : List (List Int)) (w : World) (XA : Option Addr) (n xcap : Nat) (hR : RowsAt w A rows) (hm : rows.length ≤ 160) (hms : ∀ r ∈ rows, r.length ≤ 1000) (hp : 1 ≤ p) (hp' : p ≤ 1000) (ha : 0 ≤ a) (ha' : a < rows.length) (hc : 0 ≤ c) (hc' : c ≤ 1000) (hx : ∀ r ∈ rows, ∀ x ∈ r, 0 ≤ x ∧ x ≤ 1000) :
  Calls Tryz.prog 49 #[.int .i64 p, .agg #[.int .i64 v, .int .i64 h, .slice A rows.length cap], .agg #[.int .i64 2, .int .i64 a, .int .i64 b, .int .i64 c, .slice XA n xcap]] w fun e w' =>
   ∃ u, e = .returned (.agg #[.int .i64 v, .int .i64 h, u]) ∧ OwnRows w' w.heap.size u (rows.set a.toNat (mulRow p c (rows.getD a.toNat []))) ∧ Below w.heap.size w w' := by
 obtain ⟨ra, hra⟩ := get_of_lt (show a.toNat < rows.length by omega)
 have HA := Lib.hid (show rows.getD a.toNat [] = ra by simp [List.getD, hra])
 have HX := Lib.hid (show ∀ x ∈ ra, 0 ≤ x ∧ x ≤ 1000 from hx ra (List.mem_of_getElem? hra))
 have hrm : ra.length ≤ 1000 := hms ra (List.mem_of_getElem? hra)
 clear hx
 have HM := Lib.hid (show rows.length ≤ 1048576 by omega)
 have HMS := Lib.hid (show ∀ r ∈ rows, r.length ≤ 1048576 from fun r hr => by have := hms r hr; omega)
 go_enter Tryz.func49, Tryz.ntmps49
 go_wp2_with fail
 refine (stOwn_any _ _ _ _ _ _ (hR.ext (((Below.refl _ _).alloc (by simp) _ |>.alloc (by simp) _).alloc (by simp <;> omega) _)) HM.out HMS.out).mono ?_
 rintro e w1 ⟨u, rfl, ⟨us, hu⟩, hb1⟩
 obtain ⟨gA, gcap, rfl, _, _, _⟩ := OwnRows.view ⟨us, hu⟩
 obtain ⟨q0, q1, q2⟩ := heap_at3 w (.cells #[.int .i64 v, .int .i64 h, .slice A rows.length cap] 30) (.cells #[.int .i64 2, .int .i64 a, .int .i64 b, .int .i64 c, .slice XA n xcap] 34) (.cells #[.int .i64 0, .int .i64 0, .slice none 0 0] 30)
 have hsz1 := hb1.size
 simp only [World.size_alloc] at hsz1
 go_upto_region 2 with (fail)
 obtain ⟨W2, hW2⟩ : ∃ W2, W2 = w1.alloc (.cells #[.int .i64 v, .int .i64 h, .slice gA rows.length gcap] 30) := ⟨_, rfl⟩
 rw [← hW2]
 have hb2 : Below w1.heap.size w1 W2 := by rw [hW2]; exact (Below.refl _ _).alloc (Nat.le_refl _) _
 have hsz2 : W2.heap.size = w1.heap.size + 1 := by rw [hW2]; simp
 have hb02 := hb1.trans (hb2.mono hb1.size)
 have m2 : W2.heap[w1.heap.size]? = some (.cells #[.int .i64 v, .int .i64 h, .slice gA rows.length gcap] 30 (0, 0)) := by rw [hW2]; exact heap_at _ _ rfl
 have k0 := boxb hb02 q0
 have k1 := boxb hb02 q1
 have k2 := boxb hb02 q2
 have hu2 : OwnRowsW W2 (w.heap.size + 3) (.slice gA rows.length gcap) rows us := (hu.ext hb2).mono (by simp)
 have hub : ∀ g', gA = some ⟨g', 0, none⟩ → g' < w1.heap.size := fun g' e => by subst e; exact (World.ownsRow.lt hu.outer g' rfl).2
 have hin : ∀ (k : Nat) (x : Value), us[k]? = some x → ∀ b, x.ownBlock = some b → b < w1.heap.size := fun k x hx b hb => by obtain ⟨r, _, ho⟩ := hu.getR hx; exact (ho.lt b hb).2
 have hb3 : Below w.heap.size w W2 := (below_alloc3 w _ _ _).trans (hb02.mono (by simp <;> omega))
 clear hu hb1 hb2 hb02 hR hms q0 q1 q2 hW2
 obtain ⟨ua, hua, hoa⟩ := hu2.get hra
 obtain ⟨g, hgv, hgB, hgl⟩ : ∃ g, gA = some ⟨g, 0, none⟩ ∧ w.heap.size + 3 ≤ g ∧ g < W2.heap.size := own_at hu2 (by omega)
 subst hgv
 have hgu := hub g rfl
 obtain ⟨Aa, ca, rfl, hIa, _⟩ := hoa.view
 have z0 : W2.cell? ⟨g, a.toNat, none⟩ = some (.slice Aa ra.length ca) := by rw [hu2.outer.cellAt _ (by omega), hua]
 obtain ⟨y0, y1, y2, y3, y4⟩ := cells_5 k1
 obtain ⟨x0, x1, x2⟩ := cells_3 m2
 have HU := Lib.hid hu2; have HB := Lib.hid hb3; have HUA := Lib.hid hua; have HOA := Lib.hid hoa; have HRA := Lib.hid hra; have HI := Lib.hid hIa
 have K0 := Lib.hid k0; have K1 := Lib.hid k1; have K2 := Lib.hid k2; have M2 := Lib.hid m2; have HIN := Lib.hid (hin _ _ hua)
 have hap := Lib.hid (apart_types' hu2.outer hoa)
 clear hu2 hb3 hua hoa hra hIa hub hin k0 k1 k2 m2
 go_wp2
 go_loopw [56] (fun i wr => ∃ k : Nat, k ≤ ra.length ∧ i = .int .i64 k ∧ wr.ownsRow (w.heap.size + 3) 3 1 (.slice Aa ra.length ca) ra.length ((mulTo p c ra k).map (Value.int .i64)) ∧ W2.grownBy wr (Value.slice Aa ra.length ca).ownBlock)
  (fun i _ => ra.length - (intOf i).toNat)
 case atStart => exact ⟨0, Nat.zero_le _, rfl, by rw [mulTo_zero]; exact HOA.out, ⟨rfl, rfl, rfl, Nat.le_refl _, fun _ _ _ => rfl⟩⟩
 case round =>
  obtain ⟨k, hk, rfl, hown, hgr⟩ := hrel
  by_cases hlt : k < ra.length
  ·obtain ⟨x, hx⟩ := get_of_lt hlt
   obtain ⟨ga, rfl, hga, _⟩ := own_at1 HOA.out (by omega)
   have hga' := HIN.out ga rfl
   have hne : g ≠ ga := by
    rcases hap.out with h | h
    ·cases h
    ·exact fun e => h (by rw [e]; rfl)
   have t1 : wr.cell? ⟨w.heap.size + 1, 1, none⟩ = some (.int .i64 a) := hgr.cell y1 (by simp [Value.ownBlock]; omega)
   have t3 : wr.cell? ⟨w.heap.size + 1, 3, none⟩ = some (.int .i64 c) := hgr.cell y3 (by simp [Value.ownBlock]; omega)
   have t5 : wr.cell? ⟨w1.heap.size, 2, none⟩ = some (.slice (some ⟨g, 0, none⟩) rows.length gcap) := hgr.cell x2 (by simp [Value.ownBlock]; omega)
   have t6 : wr.cell? ⟨g, a.toNat, none⟩ = some (.slice (some ⟨ga, 0, none⟩) ra.length ca) := hgr.cell z0 (by simp [Value.ownBlock]; omega)
   have hcx : wr.cell? ⟨ga, k, none⟩ = some (.int .i64 x) := by
    rw [hown.cellAt k (by omega), List.getElem?_map, mulTo_get _ _ _ _ hlt, hx]; rfl
   have hfr := hown.frozenAt k
   obtain ⟨q1, q2⟩ := HX.out x (List.mem_of_getElem? hx)
   have hst := hown.stored k (.int .i64 (x * c % p))
   rw [← List.map_set, mulTo_set _ _ _ _ _ hx] at hst
   have HS := Lib.hid hst.1
   have HG := Lib.hid (grownBy_trans hgr hst.2)
   clear hst hx hown hgr x0 x1 x2 y0 y1 y2 y3 y4 z0
   go_wp2_with fail
   go_region_held3 (fun W => W.cell? ⟨w.heap.size + 1, 1, none⟩ = some (.int .i64 a) ∧ W.cell? ⟨w.heap.size + 1, 3, none⟩ = some (.int .i64 c) ∧ W.cell? ⟨w1.heap.size, 2, none⟩ = some (.slice (some ⟨g, 0, none⟩) rows.length gcap) ∧ W.cell? ⟨g, a.toNat, none⟩ = some (.slice (some ⟨ga, 0, none⟩) ra.length ca))
    (first | exact ⟨t1, t3, t5, t6⟩ | (refine ⟨?_, ?_, ?_, ?_⟩ <;> (first | (refine (cell_set_ne2 (by simp <;> omega)).trans ?_; assumption) | (refine (cell_set_ne' (by simp <;> omega)).trans ?_; assumption))))
    ((go_at_call 86; refine (fdMul_any p x c _ hp hp' q1 q2 hc hc').mono ?_; rintro e w' ⟨rfl, rfl⟩))
   go_wp2
   go_roundw
   case rel => exact ⟨k+1, by omega, by go_num, HS.out, grownBy_trans HG.out (grownBy_drew _ _)⟩
   case measure => simp [intOf]; omega
  ·have hblk : ∀ b, (Value.slice Aa ra.length ca).ownBlock = some b → w.heap.size + 3 ≤ b ∧ b < w1.heap.size := fun b hb => ⟨(World.ownsRow.lt HOA.out b hb).1, HIN.out b hb⟩
   have m2w := (hgr.block w1.heap.size (by omega) (fun e => by have := hblk _ e.symm; omega)).trans M2.out
   have k0w := (hgr.block w.heap.size (by omega) (fun e => by have := hblk _ e.symm; omega)).trans K0.out
   have k1w := (hgr.block (w.heap.size + 1) (by omega) (fun e => by have := hblk _ e.symm; omega)).trans K1.out
   have k2w := (hgr.block (w.heap.size + 1 + 1) (by omega) (fun e => by have := hblk _ e.symm; omega)).trans K2.out
   have hk' : k = ra.length := by omega
   subst hk'
   have HO := Lib.hid (show OwnRows wr (w.heap.size + 3) (.slice (some ⟨g, 0, none⟩) rows.length gcap) (rows.set a.toNat (mulRow p c (rows.getD a.toNat []))) from
    ⟨_, HU.out.inner HUA.out hgr (by rw [HA.out, ← mulTo_all p c ra ra.length (Nat.le_refl _)]; unfold OwnInts; rw [show (mulTo p c ra ra.length).length = ra.length by simp [mulTo]]; exact hown)⟩)
   have HE := Lib.hid (HB.out.grown hgr (by omega) fun b hb => by have := hblk b hb; omega)
   clear hown hgr hblk x0 x1 x2 y0 y1 y2 y3 y4 z0
   obtain ⟨y0, y1, y2, y3, y4⟩ := cells_5 k1w
   obtain ⟨s0, s1, s2⟩ := cells_3 k0w
   clear k0w k1w
   have e0 := blk_cell m2w 0
   have e1 := blk_cell m2w 1
   have e2 := blk_cell m2w 2
   have e3 := blk_cell k2w 0
   have e4 := blk_cell k2w 1
   have e5 := blk_cell k2w 2
   have e6 := blk_free k2w 0
   have e7 := blk_free k2w 1
   have e8 := blk_free k2w 2
   simp only [List.getElem?_cons_zero, List.getElem?_cons_succ] at e0 e1 e2 e3 e4 e5
   clear m2w k2w
   go_wp2
   refine bodyPost_ret (v := .agg #[.int .i64 v, .int .i64 h, .slice (some ⟨g, 0, none⟩) rows.length gcap]) (by simp [results, Tryz.results49, go_sem, *]) rfl ⟨_, rfl, ?_, ?_⟩
   ·exact (((HO.out.setCell (by simp <;> omega) _).setCell (by simp <;> omega) _).setCell (by simp <;> omega) _).mono (by omega)
   ·exact ((HE.out.setCell (by simp <;> omega) _).setCell (by simp <;> omega) _).setCell (by simp <;> omega) _
set_option maxRecDepth 100000 in
set_option maxHeartbeats 8000000 in
theorem sm_drop (p v h a b c : Int) (A : Option Addr) (cap : Nat) (rows : List (List Int)) (w : World) (XA : Option Addr) (n xcap : Nat) (hR : RowsAt w A rows) (hm : rows.length ≤ 160) (hms : ∀ r ∈ rows, r.length ≤ 1000) (ha : 0 ≤ a) (ha' : a < rows.length) :
  Calls Tryz.prog 49 #[.int .i64 p, .agg #[.int .i64 v, .int .i64 h, .slice A rows.length cap], .agg #[.int .i64 4, .int .i64 a, .int .i64 b, .int .i64 c, .slice XA n xcap]] w fun e w' =>
   ∃ u, e = .returned (.agg #[.int .i64 v, .int .i64 h, u]) ∧ OwnRows w' w.heap.size u (rows.eraseIdx a.toNat) ∧ Below w.heap.size w w' := by
 have HM := Lib.hid (show rows.length ≤ 1048576 by omega)
 have HMS := Lib.hid (show ∀ r ∈ rows, r.length ≤ 1048576 from fun r hr => by have := hms r hr; omega)
 go_enter Tryz.func49, Tryz.ntmps49
 go_wp2_with fail
 refine (stOwn_any _ _ _ _ _ _ (hR.ext (((Below.refl _ _).alloc (by simp) _ |>.alloc (by simp) _).alloc (by simp <;> omega) _)) HM.out HMS.out).mono ?_
 rintro e w1 ⟨u, rfl, ⟨us, hu⟩, hb1⟩
 obtain ⟨gA, gcap, rfl, _, _, _⟩ := OwnRows.view ⟨us, hu⟩
 obtain ⟨q0, q1, q2⟩ := heap_at3 w (.cells #[.int .i64 v, .int .i64 h, .slice A rows.length cap] 30) (.cells #[.int .i64 4, .int .i64 a, .int .i64 b, .int .i64 c, .slice XA n xcap] 34) (.cells #[.int .i64 0, .int .i64 0, .slice none 0 0] 30)
 have hsz1 := hb1.size
 simp only [World.size_alloc] at hsz1
 go_upto_region 2 with (fail)
 obtain ⟨W2, hW2⟩ : ∃ W2, W2 = w1.alloc (.cells #[.int .i64 v, .int .i64 h, .slice gA rows.length gcap] 30) := ⟨_, rfl⟩
 rw [← hW2]
 have hb2 : Below w1.heap.size w1 W2 := by rw [hW2]; exact (Below.refl _ _).alloc (Nat.le_refl _) _
 have hsz2 : W2.heap.size = w1.heap.size + 1 := by rw [hW2]; simp
 have hb02 := hb1.trans (hb2.mono hb1.size)
 have m2 : W2.heap[w1.heap.size]? = some (.cells #[.int .i64 v, .int .i64 h, .slice gA rows.length gcap] 30 (0, 0)) := by rw [hW2]; exact heap_at _ _ rfl
 have k0 := boxb hb02 q0
 have k1 := boxb hb02 q1
 have k2 := boxb hb02 q2
 have hu2 : OwnRowsW W2 (w.heap.size + 3) (.slice gA rows.length gcap) rows us := (hu.ext hb2).mono (by simp)
 have hub : ∀ g', gA = some ⟨g', 0, none⟩ → g' < w1.heap.size := fun g' e => by subst e; exact (World.ownsRow.lt hu.outer g' rfl).2
 have hin : ∀ (k : Nat) (x : Value), us[k]? = some x → ∀ b, x.ownBlock = some b → b < w1.heap.size := fun k x hx b hb => by obtain ⟨r, _, ho⟩ := hu.getR hx; exact (ho.lt b hb).2
 have hb3 : Below w.heap.size w W2 := (below_alloc3 w _ _ _).trans (hb02.mono (by simp <;> omega))
 clear hu hb1 hb2 hb02 hR hms q0 q1 q2 hW2
 obtain ⟨j, rfl⟩ := Int.eq_ofNat_of_zero_le ha
 obtain ⟨g, hgv, hgB, hgl⟩ : ∃ g, gA = some ⟨g, 0, none⟩ ∧ w.heap.size + 3 ≤ g ∧ g < W2.heap.size := own_at hu2 (by omega)
 subst hgv
 have hgu := hub g rfl
 obtain ⟨i0, hi0, hz0, hz1, hz2⟩ := info_parts infoRow
 obtain ⟨news, hnews⟩ : ∃ news, news = us.drop (j + 1) := ⟨_, rfl⟩
 obtain ⟨hus0, ⟨hx0, _⟩ | ⟨g', cap', cur, hv0, hB0, hg0, hnc0, hcm0, hcs0, htake0⟩⟩ := hu2.outer
 ·cases hx0
 cases hv0
 simp only [Nat.mul_one] at hus0 hcs0 htake0
 have hlen : news.length = rows.length - (j + 1) := by rw [hnews]; simp [hus0]
 have hcell : ∀ t, t < rows.length → cur.toList[t]? = us[t]? := fun t ht => by rw [← htake0, List.getElem?_take, if_pos ht]
 obtain ⟨A9, hA, hsrc⟩ : ∃ A9 : Addr, (if gcap = j + 1 then some (⟨g, 0, none⟩ : Addr) else some ⟨g, j + 1, none⟩) = some A9 ∧ Hid (∀ t u, news[t]? = some u → W2.drew.cell? (A9.add t) = some u) := by
  by_cases hc : gcap = j + 1
  ·refine ⟨⟨g, 0, none⟩, by simp [hc], fun t u hu => ?_⟩
   have h0 : news.length = 0 := by rw [hlen]; omega
   rw [List.length_eq_zero_iff.1 h0] at hu
   simp at hu
  ·refine ⟨⟨g, j + 1, none⟩, by simp [hc], fun t u hu => ?_⟩
   have ht : t < rows.length - (j + 1) := by have := (List.getElem?_eq_some_iff.1 hu).1; rwa [hlen] at this
   rw [addr_add]
   show W2.cell? _ = _
   rw [blk_cell hg0, hcell _ (by omega), ← hu, hnews, List.getElem?_drop]
 have s1 : Hid (news.length = (rows.length - (j + 1)) * 1) := by rw [Nat.mul_one]; exact hlen
 have s2 : Hid (∀ u ∈ news, u.oneCell' = true) := by
  intro u hu
  rw [hnews] at hu
  exact own_one hu2 u (List.mem_of_mem_drop hu)
 have s3 : Hid (∀ t, t < news.length → (W2.drew.cell? ⟨g, 0 + j * 1 + t, none⟩).isSome = true ∧ W2.drew.frozen? ⟨g, 0 + j * 1 + t, none⟩ = false) := by
  intro t ht
  rw [hlen] at ht
  have hg1 : W2.drew.heap[g]? = some (.cells cur 25 (0, 0)) := hg0
  refine ⟨?_, blk_free hg1 _⟩
  rw [blk_cell hg1, List.getElem?_eq_getElem (by simp; omega)]
  rfl
 obtain ⟨W5, hW5⟩ : ∃ W5, W5 = W2.drew.setCells g (0 + j * 1) news := ⟨_, rfl⟩
 have hb5 := setCells_block g 25 news (0 + j * 1) W2.drew cur hg0 (by rw [hlen]; omega)
 rw [← hW5] at hb5
 have HGR := Lib.hid (show W2.grownBy W5 (some g) from grownBy_trans (grownBy_drew W2 (some g)) hb5.2)
 have HOW := Lib.hid (show W5.ownsRow (w.heap.size + 3) 25 1 (.slice (some ⟨g, 0, none⟩) (rows.length - 1) gcap) (rows.length - 1) (us.eraseIdx j) by
  refine ⟨by simp [List.length_eraseIdx, hus0]; omega, Or.inr ⟨g, gcap, _, rfl, hB0, hb5.1, by omega, hcm0, ?_, ?_⟩⟩
  ·rw [List.size_toArray, splice_len _ _ _ (by simp [hlen]; omega)]
   simpa using hcs0
  ·simp only [Nat.mul_one, Nat.zero_add]
   rw [show rows.length - 1 = j + news.length by omega, take_splice_all _ _ _ (by simp; omega), hnews, List.eraseIdx_eq_take_drop_succ, ← htake0, List.take_take, Nat.min_eq_left (by omega)])
 have HW5 := Lib.hid hW5
 have hjc : j ≤ gcap := by omega
 have hjc1 : j + 1 ≤ gcap := by omega
 have hjn1 : j + 1 ≤ rows.length := by omega
 have hwj : IntKind.i64.wrap ((j : Int) + 1) = (j : Int) + 1 := by rw [IntKind.wrap_i64]; omega
 have htn : ((j : Int) + 1).toNat = j + 1 := by omega
 have hji0 : (0 : Int) ≤ (j : Int) + 1 := by omega
 have hji1 : (j : Int) + 1 ≤ (rows.length : Int) := by omega
 clear hus0 hcs0 htake0 hg0 hnews hlen hW5 hb5 hcell hB0 hnc0 hcm0
 obtain ⟨y0, y1, y2, y3, y4⟩ := cells_5 k1
 obtain ⟨x0, x1, x2⟩ := cells_3 m2
 have HU := Lib.hid hu2; have HB := Lib.hid hb3; have K0 := Lib.hid k0; have K1 := Lib.hid k1; have K2 := Lib.hid k2; have M2 := Lib.hid m2
 clear hu2 hb3 hub hin k0 k1 k2 m2
 go_upto_region 22 with (fail)
 refine wp_region_T (S := fun W => W.cell? ⟨w.heap.size + 1, 1, none⟩ = some (.int .i64 j) ∧ W.cell? ⟨w1.heap.size, 2, none⟩ = some (.slice (some ⟨g, 0, none⟩) rows.length gcap)) 13 (by kernel_rfl) (by simp [*]) (fun hHeld => ?_)
 refine takeQ 0 (v := ?_) rfl (Or.inl ⟨by rfl, ?_⟩) ?_
 rotate_left
 ·intro w h; (try dsimp only at h); go_simp; (try with_reducible rfl)
 simp only [Act.put, List.setIfInBounds_toArray, List.set_cons_zero, List.set_cons_succ]
 refine takeQ 1 (v := ?_) rfl (Or.inl ⟨by rfl, ?_⟩) ?_
 rotate_left
 ·intro w h; (try dsimp only at h); go_simp; (try with_reducible rfl)
 simp only [Act.put, List.setIfInBounds_toArray, List.set_cons_zero, List.set_cons_succ]
 refine takeQ 2 (v := ?_) rfl (Or.inl ⟨by rfl, ?_⟩) ?_
 rotate_left
 ·intro w h; (try dsimp only at h); go_simp; (try with_reducible rfl)
 simp only [Act.put, List.setIfInBounds_toArray, List.set_cons_zero, List.set_cons_succ]
 refine takeQ 3 (v := ?_) rfl (Or.inl ⟨by rfl, ?_⟩) ?_
 rotate_left
 ·intro w h; (try dsimp only at h); go_simp; (try with_reducible rfl)
 simp only [Act.put, List.setIfInBounds_toArray, List.set_cons_zero, List.set_cons_succ]
 refine takeQ 4 (v := ?_) rfl (Or.inl ⟨by rfl, ?_⟩) ?_
 rotate_left
 ·intro w h; (try dsimp only at h); go_simp; (try with_reducible rfl)
 simp only [Act.put, List.setIfInBounds_toArray, List.set_cons_zero, List.set_cons_succ]
 refine takeQ 5 (v := ?_) rfl (Or.inl ⟨by rfl, ?_⟩) ?_
 rotate_left
 ·intro w h; (try dsimp only at h); go_simp; (try with_reducible rfl)
 simp only [Act.put, List.setIfInBounds_toArray, List.set_cons_zero, List.set_cons_succ]
 refine takeQ 6 (v := ?_) rfl (Or.inl ⟨by rfl, ?_⟩) ?_
 rotate_left
 ·intro w h; (try dsimp only at h); go_simp; (try with_reducible rfl)
 simp only [Act.put, List.setIfInBounds_toArray, List.set_cons_zero, List.set_cons_succ]
 refine takeQ 7 (v := ?_) rfl (Or.inl ⟨by rfl, ?_⟩) ?_
 rotate_left
 ·intro w h; (try dsimp only at h); go_simp; (try with_reducible rfl)
 simp only [Act.put, List.setIfInBounds_toArray, List.set_cons_zero, List.set_cons_succ]
 refine takeQ 8 (v := ?_) rfl (Or.inl ⟨by rfl, ?_⟩) ?_
 rotate_left
 ·intro w h; (try dsimp only at h); go_simp; (try with_reducible rfl)
 simp only [Act.put, List.setIfInBounds_toArray, List.set_cons_zero, List.set_cons_succ]
 refine takeQ 9 (v := ?_) rfl (Or.inl ⟨by rfl, ?_⟩) ?_
 rotate_left
 ·intro w h; (try dsimp only at h); go_simp; (try with_reducible rfl)
 simp only [Act.put, List.setIfInBounds_toArray, List.set_cons_zero, List.set_cons_succ]
 refine takeQ 10 (v := ?_) rfl (Or.inl ⟨by rfl, ?_⟩) ?_
 rotate_left
 ·intro w h; (try dsimp only at h); go_simp; (try with_reducible rfl)
 simp only [Act.put, List.setIfInBounds_toArray, List.set_cons_zero, List.set_cons_succ]
 refine oneT (i := 11) (by kernel_rfl) rfl (fun K hK => ?_)
 refine step_append_room rfl (.tmp 140) (.tmp 146) 22 rfl 25 i0 1 Tryz.underlying22 hi0 hz1 g 0 j gcap rfl A9 (rows.length - (j + 1)) (gcap - (j + 1)) news rfl s1.out hsrc.out s2.out (by omega) s3.out ?_
 rw [← HW5.out, show j + (rows.length - (j + 1)) = rows.length - 1 by omega]
 have hF : W5.heap[w1.heap.size]? = _ := (HGR.out.block _ (by omega) (by simp <;> omega)).trans M2.out
 have k1w : W5.heap[w.heap.size + 1]? = _ := (HGR.out.block _ (by omega) (by simp <;> omega)).trans K1.out
 have HF := Lib.hid hF
 have f2 := blk_free hF 2
 obtain ⟨z0, z1, z2⟩ := cells_3 hF
 obtain ⟨t0, t1, t2, t3, t4⟩ := cells_5 k1w
 clear hF k1w y0 y1 y2 y3 y4 x0 x1 x2
 refine hK.out _ _ (fun _ => ⟨t1, z2⟩) (fun hHeld => ?_)
 clear hK K
 try simp only [Act.put, List.setIfInBounds_toArray, List.set_cons_zero, List.set_cons_succ]
 have hHeld := hHeld (by decide)
 refine oneT (i := 12) (by kernel_rfl) rfl (fun K hK => ?_)
 go_simp
 refine hK.out _ _ (fun _ => ⟨t1, z2⟩) (fun hHeld => ?_)
 clear hK K
 try simp only [Act.put, List.setIfInBounds_toArray, List.set_cons_zero, List.set_cons_succ]
 have hHeld := hHeld (by decide)
 refine oneT (i := 13) (by kernel_rfl) rfl (fun K hK => ?_)
 go_simp
 refine hK.out _ _ (fun h => absurd h (by decide)) (fun _ => ?_)
 clear hK K
 try simp only [Act.put, List.setIfInBounds_toArray, List.set_cons_zero, List.set_cons_succ]
 refine doneT (by kernel_rfl) ?_ _
 have m2w := heap_setCell_same W5 w1.heap.size 2 _ _ (.slice (some ⟨g, 0, none⟩) (rows.length - 1) gcap) HF.out
 simp only [List.setIfInBounds_toArray, List.set_cons_zero, List.set_cons_succ] at m2w
 have k0w := (heap_setCell_other W5 ⟨w1.heap.size, 2, none⟩ w.heap.size (.slice (some ⟨g, 0, none⟩) (rows.length - 1) gcap) (by simp <;> omega)).trans ((HGR.out.block _ (by omega) (by simp <;> omega)).trans K0.out)
 have k1w := (heap_setCell_other W5 ⟨w1.heap.size, 2, none⟩ (w.heap.size + 1) (.slice (some ⟨g, 0, none⟩) (rows.length - 1) gcap) (by simp <;> omega)).trans ((HGR.out.block _ (by omega) (by simp <;> omega)).trans K1.out)
 have k2w := (heap_setCell_other W5 ⟨w1.heap.size, 2, none⟩ (w.heap.size + 1 + 1) (.slice (some ⟨g, 0, none⟩) (rows.length - 1) gcap) (by simp <;> omega)).trans ((HGR.out.block _ (by omega) (by simp <;> omega)).trans K2.out)
 have hW := HU.out.erase (by omega) HOW.out HGR.out
 have HO := Lib.hid (show OwnRows _ (w.heap.size + 3) _ _ from ⟨_, hW.setSys HF.out (j := 2) (u := .slice (some ⟨g, 0, none⟩) (rows.length - 1) gcap)⟩)
 have HE := Lib.hid ((HB.out.grown HGR.out (by omega) fun b hb => by cases hb; omega).setCell (p := ⟨w1.heap.size, 2, none⟩) (by simp <;> omega) (.slice (some ⟨g, 0, none⟩) (rows.length - 1) gcap))
 clear hW z0 z1 z2 t0 t1 t2 t3 t4 f2
 obtain ⟨y0, y1, y2, y3, y4⟩ := cells_5 k1w
 obtain ⟨s0, s1, s2⟩ := cells_3 k0w
 clear k0w k1w
 have e0 := blk_cell m2w 0
 have e1 := blk_cell m2w 1
 have e2 := blk_cell m2w 2
 have e3 := blk_cell k2w 0
 have e4 := blk_cell k2w 1
 have e5 := blk_cell k2w 2
 have e6 := blk_free k2w 0
 have e7 := blk_free k2w 1
 have e8 := blk_free k2w 2
 simp only [List.getElem?_cons_zero, List.getElem?_cons_succ] at e0 e1 e2 e3 e4 e5
 clear m2w k2w
 go_wp2
 refine bodyPost_ret (v := .agg #[.int .i64 v, .int .i64 h, .slice (some ⟨g, 0, none⟩) (rows.length - 1) gcap]) (by simp [results, Tryz.results49, go_sem, *]) rfl ⟨_, rfl, ?_, ?_⟩
 ·exact (((HO.out.setCell (by simp <;> omega) _).setCell (by simp <;> omega) _).setCell (by simp <;> omega) _).mono (by omega)
 ·exact ((HE.out.setCell (by simp <;> omega) _).setCell (by simp <;> omega) _).setCell (by simp <;> omega) _
set_option maxRecDepth 100000 in
set_option maxHeartbeats 8000000 in
theorem sm_put (p v h a b c : Int) (A : Option Addr) (cap : Nat) (rows : List (List Int)) (w : World) (XA : Option Addr) (n xcap : Nat) (hR : RowsAt w A rows) (hm : rows.length ≤ 160) (hms : ∀ r ∈ rows, r.length ≤ 1000) (ha : 0 ≤ a) (ha' : a ≤ rows.length) (hv : 0 ≤ v) (hv' : v ≤ 1000) (hh : 0 ≤ h) (hh' : h ≤ 1000) :
  Calls Tryz.prog 49 #[.int .i64 p, .agg #[.int .i64 v, .int .i64 h, .slice A rows.length cap], .agg #[.int .i64 5, .int .i64 a, .int .i64 b, .int .i64 c, .slice XA n xcap]] w fun e w' =>
   ∃ u, e = .returned (.agg #[.int .i64 v, .int .i64 h, u]) ∧ OwnRows w' w.heap.size u (insAt rows a.toNat (List.replicate (v + h).toNat 0)) ∧ Below w.heap.size w w' := by
 have HM := Lib.hid (show rows.length ≤ 1048576 by omega)
 have HMS := Lib.hid (show ∀ r ∈ rows, r.length ≤ 1048576 from fun r hr => by have := hms r hr; omega)
 go_enter Tryz.func49, Tryz.ntmps49
 go_wp2_with fail
 refine (stOwn_any _ _ _ _ _ _ (hR.ext (((Below.refl _ _).alloc (by simp) _ |>.alloc (by simp) _).alloc (by simp <;> omega) _)) HM.out HMS.out).mono ?_
 rintro e w1 ⟨u, rfl, ⟨us, hu⟩, hb1⟩
 obtain ⟨gA, gcap, rfl, _, _, _⟩ := OwnRows.view ⟨us, hu⟩
 obtain ⟨q0, q1, q2⟩ := heap_at3 w (.cells #[.int .i64 v, .int .i64 h, .slice A rows.length cap] 30) (.cells #[.int .i64 5, .int .i64 a, .int .i64 b, .int .i64 c, .slice XA n xcap] 34) (.cells #[.int .i64 0, .int .i64 0, .slice none 0 0] 30)
 have hsz1 := hb1.size
 simp only [World.size_alloc] at hsz1
 go_upto_region 2 with (fail)
 obtain ⟨W2, hW2⟩ : ∃ W2, W2 = w1.alloc (.cells #[.int .i64 v, .int .i64 h, .slice gA rows.length gcap] 30) := ⟨_, rfl⟩
 rw [← hW2]
 have hb2 : Below w1.heap.size w1 W2 := by rw [hW2]; exact (Below.refl _ _).alloc (Nat.le_refl _) _
 have hsz2 : W2.heap.size = w1.heap.size + 1 := by rw [hW2]; simp
 have hb02 := hb1.trans (hb2.mono hb1.size)
 have m2 : W2.heap[w1.heap.size]? = some (.cells #[.int .i64 v, .int .i64 h, .slice gA rows.length gcap] 30 (0, 0)) := by rw [hW2]; exact heap_at _ _ rfl
 have k0 := boxb hb02 q0
 have k1 := boxb hb02 q1
 have k2 := boxb hb02 q2
 have hu2 : OwnRowsW W2 (w.heap.size + 3) (.slice gA rows.length gcap) rows us := (hu.ext hb2).mono (by simp)
 have hub : ∀ g', gA = some ⟨g', 0, none⟩ → g' < w1.heap.size := fun g' e => by subst e; exact (World.ownsRow.lt hu.outer g' rfl).2
 have hin : ∀ (k : Nat) (x : Value), us[k]? = some x → ∀ b, x.ownBlock = some b → b < w1.heap.size := fun k x hx b hb => by obtain ⟨r, _, ho⟩ := hu.getR hx; exact (ho.lt b hb).2
 have hb3 : Below w.heap.size w W2 := (below_alloc3 w _ _ _).trans (hb02.mono (by simp <;> omega))
 clear hu hb1 hb2 hb02 hR hms q0 q1 q2 hW2
 obtain ⟨y0, y1, y2, y3, y4⟩ := cells_5 k1
 obtain ⟨x0, x1, x2⟩ := cells_3 m2
 obtain ⟨s0, s1, s2⟩ := cells_3 k0
 have hwv : IntKind.i64.wrap (v + h) = v + h := by rw [IntKind.wrap_i64]; omega
 have hna : ((v + h).toNat : Int) = v + h := by omega
 have HNA := Lib.hid hna
 clear hna
 have HU := Lib.hid hu2; have HB := Lib.hid hb3; have K0 := Lib.hid k0; have K1 := Lib.hid k1; have K2 := Lib.hid k2; have M2 := Lib.hid m2
 clear hu2 hb3 hub hin k0 k1 k2 m2
 go_upto_region 20 with (fail)
 have HS := Lib.hid (show ∀ wx, Below W2.heap.size W2 wx → (fun W : World => W.cell? ⟨w1.heap.size, 2, none⟩ = some (.slice gA rows.length gcap) ∧ W.cell? ⟨w.heap.size + 1, 1, none⟩ = some (.int .i64 a) ∧ W.cell? ⟨w.heap.size, 0, none⟩ = some (.int .i64 v) ∧ W.cell? ⟨w.heap.size, 1, none⟩ = some (.int .i64 h)) wx from fun wx hb => ⟨ext_cell hb x2, ext_cell hb y1, ext_cell hb s0, ext_cell hb s1⟩)
 refine wp_region_T (S := (fun W : World => W.cell? ⟨w1.heap.size, 2, none⟩ = some (.slice gA rows.length gcap) ∧ W.cell? ⟨w.heap.size + 1, 1, none⟩ = some (.int .i64 a) ∧ W.cell? ⟨w.heap.size, 0, none⟩ = some (.int .i64 v) ∧ W.cell? ⟨w.heap.size, 1, none⟩ = some (.int .i64 h))) 12 (by kernel_rfl) (HS.out _ (Below.refl _ _).drew) (fun hHeld => ?_)
 refine takeQ 0 (v := ?_) rfl (Or.inl ⟨by rfl, ?_⟩) ?_
 rotate_left
 ·intro w h; (try dsimp only at h); go_simp; (try with_reducible rfl)
 simp only [Act.put, List.setIfInBounds_toArray, List.set_cons_zero, List.set_cons_succ]
 refine takeQ 1 (v := ?_) rfl (Or.inl ⟨by rfl, ?_⟩) ?_
 rotate_left
 ·intro w h; (try dsimp only at h); go_simp; (try with_reducible rfl)
 simp only [Act.put, List.setIfInBounds_toArray, List.set_cons_zero, List.set_cons_succ]
 refine takeQ 2 (v := ?_) rfl (Or.inl ⟨by rfl, ?_⟩) ?_
 rotate_left
 ·intro w h; (try dsimp only at h); go_simp; (try with_reducible rfl)
 simp only [Act.put, List.setIfInBounds_toArray, List.set_cons_zero, List.set_cons_succ]
 refine takeQ 3 (v := ?_) rfl (Or.inl ⟨by rfl, ?_⟩) ?_
 rotate_left
 ·intro w h; (try dsimp only at h); go_simp; (try with_reducible rfl)
 simp only [Act.put, List.setIfInBounds_toArray, List.set_cons_zero, List.set_cons_succ]
 refine takeQ 4 (v := ?_) rfl (Or.inl ⟨by rfl, ?_⟩) ?_
 rotate_left
 ·intro w h; (try dsimp only at h); go_simp; (try with_reducible rfl)
 simp only [Act.put, List.setIfInBounds_toArray, List.set_cons_zero, List.set_cons_succ]
 refine takeQ 5 (v := ?_) rfl (Or.inl ⟨by rfl, ?_⟩) ?_
 rotate_left
 ·intro w h; (try dsimp only at h); go_simp; (try with_reducible rfl)
 simp only [Act.put, List.setIfInBounds_toArray, List.set_cons_zero, List.set_cons_succ]
 refine takeQ 6 (v := ?_) rfl (Or.inl ⟨by rfl, ?_⟩) ?_
 rotate_left
 ·intro w h; (try dsimp only at h); go_simp; (try with_reducible rfl)
 simp only [Act.put, List.setIfInBounds_toArray, List.set_cons_zero, List.set_cons_succ]
 refine takeQ 7 (v := ?_) rfl (Or.inl ⟨by rfl, ?_⟩) ?_
 rotate_left
 ·intro w h; (try dsimp only at h); go_simp; (try with_reducible rfl)
 simp only [Act.put, List.setIfInBounds_toArray, List.set_cons_zero, List.set_cons_succ]
 refine takeQ 8 (v := ?_) rfl (Or.inl ⟨by rfl, ?_⟩) ?_
 rotate_left
 ·intro w h; (try dsimp only at h); go_simp; (try with_reducible rfl)
 simp only [Act.put, List.setIfInBounds_toArray, List.set_cons_zero, List.set_cons_succ]
 refine oneT (i := 9) (by kernel_rfl) rfl (fun K hK => ?_)
 obtain ⟨i0, hi0, hz0, hz1, hz2⟩ := info_parts infoInt
 refine step_make _ rfl (.tmp 124) (.tmp 124) 25 rfl W2.heap.size 3 i0 (.int .i64 0) 1 Tryz.underlying25 hi0 hz0 hz1 .i64 .i64 (v + h) (v + h) (v + h).toNat rfl rfl HNA.out.symm HNA.out.symm (by rw [hz2]; omega) (by unfold maxLen; omega) (by simp) ?_
 intro wb hownb hgrb
 have hbb : Below W2.heap.size W2 wb := (Below.refl _ _).drew.trans (grown_none_below hgrb)
 rw [made_ints] at hownb
 have hoz : OwnInts wb W2.heap.size (.slice (some ⟨W2.drew.heap.size, 0, none⟩) (v + h).toNat (v + h).toNat) (List.replicate (v + h).toNat 0) := by simpa [OwnInts] using hownb
 rw [show W2.drew.heap.size = w1.heap.size + 1 from hsz2] at hoz
 have HBB := Lib.hid hbb; have HOZ := Lib.hid hoz
 clear hbb hoz hownb hgrb
 refine hK.out _ _ (fun _ => HS.out _ HBB.out) (fun hHeld => ?_)
 clear hK K
 try simp only [Act.put, List.setIfInBounds_toArray, List.set_cons_zero, List.set_cons_succ]
 have hHeld := hHeld (by decide)
 refine oneT (i := 10) (by kernel_rfl) rfl (fun K hK => ?_)
 go_simp
 refine (stInsert_any (w.heap.size + 3) _ a us rows.length _ _ _ wb (HU.out.ext HBB.out).outer (own_one HU.out) ha ha' (by omega)).mono ?_
 rintro e wc ⟨v9, rfl, ho9, hb9⟩
 obtain ⟨g, gcap9, rfl, hg1, hg2⟩ := World.ownsRow.form ho9 (by omega)
 have hb5 := below_ext HBB.out hb9
 have hszb := HBB.out.size
 have hW := HU.out.insert HBB.out HOZ.out (by omega) (show a.toNat ≤ rows.length by omega) (ownsRow_mono ho9 (by omega)) (grown_of_below hb9)
 have HB5 := Lib.hid hb5; have HOW := Lib.hid hW
 clear hb5 hW ho9 hb9
 go_simp
 refine hK.out _ _ (fun _ => HS.out _ HB5.out) (fun hHeld => ?_)
 clear hK K
 try simp only [Act.put, List.setIfInBounds_toArray, List.set_cons_zero, List.set_cons_succ]
 have hHeld := hHeld (by decide)
 refine oneT (i := 11) (by kernel_rfl) rfl (fun K hK => ?_)
 go_simp
 refine hK.out _ _ (fun _ => HS.out _ HB5.out) (fun hHeld => ?_)
 clear hK K
 try simp only [Act.put, List.setIfInBounds_toArray, List.set_cons_zero, List.set_cons_succ]
 have hHeld := hHeld (by decide)
 have hF := (HB5.out.block w1.heap.size (by omega)).trans M2.out
 have HF := Lib.hid hF
 have f2 := blk_free hF 2
 obtain ⟨z0, z1, z2⟩ := cells_3 hF
 clear hF
 refine oneT (i := 12) (by kernel_rfl) rfl (fun K hK => ?_)
 go_simp
 refine hK.out _ _ (fun h => absurd h (by decide)) (fun _ => ?_)
 clear hK K
 try simp only [Act.put, List.setIfInBounds_toArray, List.set_cons_zero, List.set_cons_succ]
 refine doneT (by kernel_rfl) ?_ _
 have m2w := heap_setCell_same wc w1.heap.size 2 _ _ (.slice (some ⟨g, 0, none⟩) (rows.length + 1) gcap9) HF.out
 simp only [List.setIfInBounds_toArray, List.set_cons_zero, List.set_cons_succ] at m2w
 have k0w := (heap_setCell_other wc ⟨w1.heap.size, 2, none⟩ w.heap.size (.slice (some ⟨g, 0, none⟩) (rows.length + 1) gcap9) (by simp <;> omega)).trans ((HB5.out.block _ (by omega)).trans K0.out)
 have k1w := (heap_setCell_other wc ⟨w1.heap.size, 2, none⟩ (w.heap.size + 1) (.slice (some ⟨g, 0, none⟩) (rows.length + 1) gcap9) (by simp <;> omega)).trans ((HB5.out.block _ (by omega)).trans K1.out)
 have k2w := (heap_setCell_other wc ⟨w1.heap.size, 2, none⟩ (w.heap.size + 1 + 1) (.slice (some ⟨g, 0, none⟩) (rows.length + 1) gcap9) (by simp <;> omega)).trans ((HB5.out.block _ (by omega)).trans K2.out)
 have HO := Lib.hid (show OwnRows _ (w.heap.size + 3) _ (insAt rows a.toNat (List.replicate (v + h).toNat 0)) from ⟨_, HOW.out.setSys HF.out (j := 2) (u := .slice (some ⟨g, 0, none⟩) (rows.length + 1) gcap9)⟩)
 have HE := Lib.hid ((below_ext HB.out HB5.out).setCell (p := ⟨w1.heap.size, 2, none⟩) (by simp <;> omega) (.slice (some ⟨g, 0, none⟩) (rows.length + 1) gcap9))
 clear z0 z1 z2 y0 y1 y2 y3 y4 x0 x1 x2 s0 s1 s2 f2
 obtain ⟨y0, y1, y2, y3, y4⟩ := cells_5 k1w
 obtain ⟨s0, s1, s2⟩ := cells_3 k0w
 clear k0w k1w
 have e0 := blk_cell m2w 0
 have e1 := blk_cell m2w 1
 have e2 := blk_cell m2w 2
 have e3 := blk_cell k2w 0
 have e4 := blk_cell k2w 1
 have e5 := blk_cell k2w 2
 have e6 := blk_free k2w 0
 have e7 := blk_free k2w 1
 have e8 := blk_free k2w 2
 simp only [List.getElem?_cons_zero, List.getElem?_cons_succ] at e0 e1 e2 e3 e4 e5
 clear m2w k2w
 go_wp2
 refine bodyPost_ret (v := .agg #[.int .i64 v, .int .i64 h, .slice (some ⟨g, 0, none⟩) (rows.length + 1) gcap9]) (by simp [results, Tryz.results49, go_sem, *]) rfl ⟨_, rfl, ?_, ?_⟩
 ·exact (((HO.out.setCell (by simp <;> omega) _).setCell (by simp <;> omega) _).setCell (by simp <;> omega) _).mono (by omega)
 ·exact ((HE.out.setCell (by simp <;> omega) _).setCell (by simp <;> omega) _).setCell (by simp <;> omega) _
end Go.Proofs.YtjdbfokbgmbphaaGreatDoor
