/- The steps made (methods 'do'): scale. Conditions: a system of moderate size whose elements lie in 0..1000; the row is there. | The steps made (methods 'do'): add, drop. Conditions: a system of moderate size whose elements lie in 0..1000; the rows are there. | What a call may change: blocks of a range alone. Slices of the call's own whose blocks lie in a range. No conditions. | The laws' marks: numbers written one behind the other into a slice, and read back. Conditions: lengths of at most 2^20, numbers of at most 2^60. -/
import Derived.Test.YtjdbfokbgmbphaaGreatDoorPk6
namespace Go.Proofs.YtjdbfokbgmbphaaGreatDoor
set_option linter.unusedVariables false
set_option linter.unusedSimpArgs false
open Go.RowKit
/-- A row multiplied, as far as place k. -/
def mulTo (p b : Int) (xs : List Int) (k : Nat) : List Int := (xs.map fun x => x * b % p).take k ++ xs.drop k
def mulRow (p b : Int) (xs : List Int) : List Int := xs.map fun x => x * b % p
theorem mulTo_zero (p b : Int) (xs : List Int) : mulTo p b xs 0 = xs := by simp [mulTo]
theorem mulTo_all (p b : Int) (xs : List Int) (k : Nat) (hk : xs.length ≤ k) : mulTo p b xs k = mulRow p b xs := by
 unfold mulTo mulRow
 rw [List.take_of_length_le (by simpa using hk), List.drop_of_length_le hk, List.append_nil]
theorem mulTo_get (p b : Int) (xs : List Int) (k : Nat) (hk : k < xs.length) : (mulTo p b xs k)[k]? = xs[k]? := by
 unfold mulTo
 rw [List.getElem?_append_right (by simp; omega), List.getElem?_drop]
 congr 1
 simp; omega
theorem mulTo_set (p b : Int) (xs : List Int) (k : Nat) (x : Int) (hx : xs[k]? = some x) : (mulTo p b xs k).set k (x * b % p) = mulTo p b xs (k + 1) := by
 have h1 := (List.getElem?_eq_some_iff.1 hx).1
 unfold mulTo
 rw [List.set_append_right _ _ (by simp; omega), List.take_add_one]
 have e1 : xs.drop k = x :: xs.drop (k + 1) := by
  rw [List.drop_eq_getElem_cons h1]
  congr 1
  rw [List.getElem?_eq_getElem h1] at hx
  exact Option.some.inj hx
 have e2 : k - ((xs.map fun x => x * b % p).take k).length = 0 := by simp; omega
 rw [e1, e2, List.set_cons_zero]
 simp [hx]
set_option maxHeartbeats 2000000 in
theorem scaleDo_any (a b p v h : Int) (A : Option Addr) (cap : Nat) (rows : List (List Int)) (w : World) (hR : RowsAt w A rows) (hm : rows.length ≤ 160) (hms : ∀ r ∈ rows, r.length ≤ 1000) (hp : 1 ≤ p) (hp' : p ≤ 1000)
  (ha : 0 ≤ a) (ha' : a < rows.length) (hb : 0 ≤ b) (hb' : b ≤ 1000) (hx : ∀ r ∈ rows, ∀ x ∈ r, 0 ≤ x ∧ x ≤ 1000) :
  Calls Tryz.prog 166 #[.agg #[.int .i64 a, .int .i64 b], .int .i64 p, .agg #[.int .i64 v, .int .i64 h, .slice A rows.length cap]] w fun e w' =>
   ∃ u, e = .returned (.agg #[.int .i64 v, .int .i64 h, u]) ∧ OwnRows w' w.heap.size u (rows.set a.toNat (mulRow p b (rows.getD a.toNat []))) ∧ Below w.heap.size w w' := by
 obtain ⟨ra, hra⟩ := get_of_lt (show a.toNat < rows.length by omega)
 have HA := Lib.hid (show rows.getD a.toNat [] = ra by simp [List.getD, hra])
 have HX := Lib.hid (show ∀ x ∈ ra, 0 ≤ x ∧ x ≤ 1000 from hx ra (List.mem_of_getElem? hra))
 have hrm : ra.length ≤ 1000 := hms ra (List.mem_of_getElem? hra)
 clear hx
 have HM := Lib.hid (show rows.length ≤ 1048576 by omega)
 have HMS := Lib.hid (show ∀ r ∈ rows, r.length ≤ 1048576 from fun r hr => by have := hms r hr; omega)
 go_enter Tryz.func166, Tryz.ntmps166
 go_wp2_with fail
 refine (copy_any _ _ _ _ _ _ (hR.ext (((Below.refl _ _).alloc (by simp) _ |>.alloc (by simp) _).alloc (by simp <;> omega) _)) HM.out HMS.out).mono ?_
 rintro e w1 ⟨u, rfl, ⟨us, hu⟩, hb1⟩
 obtain ⟨gA, gcap, rfl, _, _, _⟩ := OwnRows.view ⟨us, hu⟩
 obtain ⟨q0, q1, q2⟩ := heap_at3 w (.cells #[.int .i64 a, .int .i64 b] 120) (.cells #[.int .i64 v, .int .i64 h, .slice A rows.length cap] 30) (.cells #[.int .i64 0, .int .i64 0, .slice none 0 0] 30)
 have hsz1 := hb1.size
 simp only [World.size_alloc] at hsz1
 go_upto_region 2 with (fail)
 obtain ⟨W2, hW2⟩ : ∃ W2, W2 = w1.alloc (.cells #[.int .i64 v, .int .i64 h, .slice gA rows.length gcap] 30) := ⟨_, rfl⟩
 rw [← hW2]
 have hb2 : Below w1.heap.size w1 W2 := by rw [hW2]; exact (Below.refl _ _).alloc (Nat.le_refl _) _
 have hsz2 : W2.heap.size = w1.heap.size + 1 := by rw [hW2]; simp
 have hb02 := hb1.trans (hb2.mono hb1.size)
 have m2 : W2.heap[w1.heap.size]? = some (.cells #[.int .i64 v, .int .i64 h, .slice gA rows.length gcap] 30 (0, 0)) := by rw [hW2]; exact heap_at _ _ rfl
 have k0 := boxb hb02 q0
 have k1 := boxb hb02 q1
 have k2 := boxb hb02 q2
 have hu2 : OwnRowsW W2 (w.heap.size + 3) (.slice gA rows.length gcap) rows us := (hu.ext hb2).mono (by simp)
 have hub : ∀ g', gA = some ⟨g', 0, none⟩ → g' < w1.heap.size := fun g' e => by subst e; exact (World.ownsRow.lt hu.outer g' rfl).2
 have hin : ∀ (k : Nat) (x : Value), us[k]? = some x → ∀ b, x.ownBlock = some b → b < w1.heap.size := fun k x hx b hb => by obtain ⟨r, _, ho⟩ := hu.getR hx; exact (ho.lt b hb).2
 have hb3 : Below w.heap.size w W2 := (below_alloc3 w _ _ _).trans (hb02.mono (by simp <;> omega))
 clear hu hb1 hb2 hb02 hR hms q0 q1 q2 hW2
 obtain ⟨ua, hua, hoa⟩ := hu2.get hra
 obtain ⟨g, hgv, hgB, hgl⟩ : ∃ g, gA = some ⟨g, 0, none⟩ ∧ w.heap.size + 3 ≤ g ∧ g < W2.heap.size := own_at hu2 (by omega)
 subst hgv
 have hgu := hub g rfl
 obtain ⟨Aa, ca, rfl, hIa, _⟩ := hoa.view
 have x0 := blk_cell k0 0
 have x1 := blk_cell k0 1
 have x2 := blk_cell m2 2
 simp only [List.getElem?_cons_zero, List.getElem?_cons_succ] at x0 x1 x2
 have z0 : W2.cell? ⟨g, a.toNat, none⟩ = some (.slice Aa ra.length ca) := by rw [hu2.outer.cellAt _ (by omega), hua]
 have HU := Lib.hid hu2; have HB := Lib.hid hb3; have HUA := Lib.hid hua; have HOA := Lib.hid hoa; have HRA := Lib.hid hra; have HI := Lib.hid hIa
 have K2 := Lib.hid k2; have M2 := Lib.hid m2; have HIN := Lib.hid (hin _ _ hua)
 have hap := Lib.hid (apart_types' hu2.outer hoa)
 clear hu2 hb3 hua hoa hra hIa hub hin k0 k1 k2 m2
 go_wp2
 go_loopw [19] (fun i wr => ∃ k : Nat, k ≤ ra.length ∧ i = .int .i64 k ∧ wr.ownsRow (w.heap.size + 3) 3 1 (.slice Aa ra.length ca) ra.length ((mulTo p b ra k).map (Value.int .i64)) ∧ W2.grownBy wr (Value.slice Aa ra.length ca).ownBlock)
  (fun i _ => ra.length - (intOf i).toNat)
 case atStart => exact ⟨0, Nat.zero_le _, rfl, by rw [mulTo_zero]; exact HOA.out, ⟨rfl, rfl, rfl, Nat.le_refl _, fun _ _ _ => rfl⟩⟩
 case round =>
  obtain ⟨k, hk, rfl, hown, hgr⟩ := hrel
  by_cases hlt : k < ra.length
  ·obtain ⟨x, hx⟩ := get_of_lt hlt
   obtain ⟨ga, rfl, hga, _⟩ := own_at1 HOA.out (by omega)
   have hga' := HIN.out ga rfl
   have hne : g ≠ ga := by
    rcases hap.out with h | h
    ·cases h
    ·exact fun e => h (by rw [e]; rfl)
   have y0 : wr.cell? ⟨w.heap.size, 0, none⟩ = some (.int .i64 a) := hgr.cell x0 (by simp [Value.ownBlock]; omega)
   have y1 : wr.cell? ⟨w.heap.size, 1, none⟩ = some (.int .i64 b) := hgr.cell x1 (by simp [Value.ownBlock]; omega)
   have y2 : wr.cell? ⟨w1.heap.size, 2, none⟩ = some (.slice (some ⟨g, 0, none⟩) rows.length gcap) := hgr.cell x2 (by simp [Value.ownBlock]; omega)
   have y3 : wr.cell? ⟨g, a.toNat, none⟩ = some (.slice (some ⟨ga, 0, none⟩) ra.length ca) := hgr.cell z0 (by simp [Value.ownBlock]; omega)
   have hcx : wr.cell? ⟨ga, k, none⟩ = some (.int .i64 x) := by
    rw [hown.cellAt k (by omega), List.getElem?_map, mulTo_get _ _ _ _ hlt, hx]; rfl
   have hfr := hown.frozenAt k
   obtain ⟨x1, x2⟩ := HX.out x (List.mem_of_getElem? hx)
   have m0 : 0 ≤ x * b := Int.mul_nonneg x1 hb
   have m1 : x * b ≤ 1000000 := by
    have := Int.mul_le_mul x2 hb' hb (by omega)
    omega
   have hst := hown.stored k (.int .i64 (x * b % p))
   rw [← List.map_set, mulTo_set _ _ _ _ _ hx] at hst
   have HS := Lib.hid hst.1
   have HG := Lib.hid (grownBy_trans hgr hst.2)
   have h1 := Int.emod_nonneg (x * b) (show p ≠ 0 by omega)
   have h2 := Int.emod_lt_of_pos (x * b) (show 0 < p by omega)
   have h0 : ¬ p = 0 := by omega
   have h3 : (x * b).tmod p = x * b % p := Int.tmod_eq_emod_of_nonneg m0
   clear hst hx hown hgr x0 z0
   go_wp2_with fail
   go_region_held3 (fun w' => w'.cell? ⟨w.heap.size, 0, none⟩ = some (.int .i64 a) ∧ w'.cell? ⟨w.heap.size, 1, none⟩ = some (.int .i64 b) ∧ w'.cell? ⟨w1.heap.size, 2, none⟩ = some (.slice (some ⟨g, 0, none⟩) rows.length gcap) ∧ w'.cell? ⟨g, a.toNat, none⟩ = some (.slice (some ⟨ga, 0, none⟩) ra.length ca))
    (first | (simp [*]; done) | (refine ⟨?_, ?_, ?_, ?_⟩ <;> (first | (refine (cell_set_ne2 (by simp <;> omega)).trans ?_; assumption) | (refine (cell_set_ne' (by simp <;> omega)).trans ?_; assumption)))) (fail)
   go_wp2
   go_roundw
   case rel => exact ⟨k+1, by omega, by go_num, HS.out, grownBy_trans HG.out (grownBy_drew _ _)⟩
   case measure => simp [intOf]; omega
  ·have hblk : ∀ b, (Value.slice Aa ra.length ca).ownBlock = some b → w.heap.size + 3 ≤ b ∧ b < w1.heap.size := fun b hb => ⟨(World.ownsRow.lt HOA.out b hb).1, HIN.out b hb⟩
   have m2w := (hgr.block w1.heap.size (by omega) (fun e => by have := hblk _ e.symm; omega)).trans M2.out
   have k2w := (hgr.block (w.heap.size + 1 + 1) (by omega) (fun e => by have := hblk _ e.symm; omega)).trans K2.out
   have hk' : k = ra.length := by omega
   subst hk'
   have HO := Lib.hid (show OwnRows wr (w.heap.size + 3) (.slice (some ⟨g, 0, none⟩) rows.length gcap) (rows.set a.toNat (mulRow p b (rows.getD a.toNat []))) from
    ⟨_, HU.out.inner HUA.out hgr (by rw [HA.out, ← mulTo_all p b ra ra.length (Nat.le_refl _)]; unfold OwnInts; rw [show (mulTo p b ra ra.length).length = ra.length by simp [mulTo]]; exact hown)⟩)
   have HE := Lib.hid (HB.out.grown hgr (by omega) fun b hb => by have := hblk b hb; omega)
   clear hown hgr hblk x0 x1 x2 z0
   have e0 := blk_cell m2w 0
   have e1 := blk_cell m2w 1
   have e2 := blk_cell m2w 2
   have e3 := blk_cell k2w 0
   have e4 := blk_cell k2w 1
   have e5 := blk_cell k2w 2
   have e6 := blk_free k2w 0
   have e7 := blk_free k2w 1
   have e8 := blk_free k2w 2
   simp only [List.getElem?_cons_zero, List.getElem?_cons_succ] at e0 e1 e2 e3 e4 e5
   clear m2w k2w
   go_wp2
   refine bodyPost_ret (v := .agg #[.int .i64 v, .int .i64 h, .slice (some ⟨g, 0, none⟩) rows.length gcap]) (by simp [results, Tryz.results166, go_sem, *]) rfl ⟨_, rfl, ?_, ?_⟩
   ·exact (((HO.out.setCell (by simp <;> omega) _).setCell (by simp <;> omega) _).setCell (by simp <;> omega) _).mono (by omega)
   ·exact ((HE.out.setCell (by simp <;> omega) _).setCell (by simp <;> omega) _).setCell (by simp <;> omega) _
theorem own_one {w : World} {B : Nat} {v : Value} {rows : List (List Int)} {us : List Value} (h : OwnRowsW w B v rows us) : ∀ u ∈ us, u.oneCell' = true := fun u hu => by
 obtain ⟨k, hk⟩ := List.mem_iff_getElem?.1 hu
 obtain ⟨r, _, ho⟩ := h.getR hk
 obtain ⟨A', c', rfl, _⟩ := ho.view
 rfl
theorem grown_set (w : World) (b j : Nat) (u : Value) : w.grownBy (w.setCell ⟨b, j, none⟩ u) (some b) :=
 ⟨rfl, rfl, rfl, by simp, fun k _ hk => heap_setCell_other w ⟨b, j, none⟩ k u (fun e => hk (by simp [e]))⟩
/-- A store into the variable of a system, which is no block of the row's. -/
theorem OwnRowsW.setSys {w : World} {B b j : Nat} {v u : Value} {cs : Array Value} {fr : Nat × Nat} {rows : List (List Int)} {us : List Value} (h : OwnRowsW w B v rows us) (hb : w.heap[b]? = some (.cells cs 30 fr)) :
  OwnRowsW (w.setCell ⟨b, j, none⟩ u) B v rows us := by
 refine ⟨World.ownsRow.kept h.outer (grown_set w b j u) ?_, fun k x r hx hr => OwnInts.kept (h.each k x r hx hr) (grown_set w b j u) ?_, h.apart⟩
 ·rcases h.outer.2 with ⟨rfl, _⟩ | ⟨g, cap, cur, rfl, _, hg, _⟩
  ·exact Or.inl rfl
  ·refine Or.inr fun e => ?_
   simp only [Value.ownBlock, Option.some.injEq] at e
   subst e; rw [hb] at hg; simp at hg
 ·rcases (h.each k x r hx hr).2 with ⟨rfl, _⟩ | ⟨g, cap, cur, rfl, _, hg, _⟩
  ·exact Or.inl rfl
  ·refine Or.inr fun e => ?_
   simp only [Value.ownBlock, Option.some.injEq] at e
   subst e; rw [hb] at hg; simp at hg
set_option maxHeartbeats 2000000 in
theorem dropDo_any (a p v h : Int) (A : Option Addr) (cap : Nat) (rows : List (List Int)) (w : World) (hR : RowsAt w A rows) (hm : rows.length ≤ 160) (hms : ∀ r ∈ rows, r.length ≤ 1000)
  (ha : 0 ≤ a) (ha' : a < rows.length) :
  Calls Tryz.prog 172 #[.agg #[.int .i64 a], .int .i64 p, .agg #[.int .i64 v, .int .i64 h, .slice A rows.length cap]] w fun e w' =>
   ∃ u, e = .returned (.agg #[.int .i64 v, .int .i64 h, u]) ∧ OwnRows w' w.heap.size u (rows.eraseIdx a.toNat) ∧ Below w.heap.size w w' := by
 have HM := Lib.hid (show rows.length ≤ 1048576 by omega)
 have HMS := Lib.hid (show ∀ r ∈ rows, r.length ≤ 1048576 from fun r hr => by have := hms r hr; omega)
 go_enter Tryz.func172, Tryz.ntmps172
 go_wp2_with fail
 refine (copy_any _ _ _ _ _ _ (hR.ext (((Below.refl _ _).alloc (by simp) _ |>.alloc (by simp) _).alloc (by simp <;> omega) _)) HM.out HMS.out).mono ?_
 rintro e w1 ⟨u, rfl, ⟨us, hu⟩, hb1⟩
 obtain ⟨gA, gcap, rfl, _, _, _⟩ := OwnRows.view ⟨us, hu⟩
 obtain ⟨q0, q1, q2⟩ := heap_at3 w (.cells #[.int .i64 a] 124) (.cells #[.int .i64 v, .int .i64 h, .slice A rows.length cap] 30) (.cells #[.int .i64 0, .int .i64 0, .slice none 0 0] 30)
 have hsz1 := hb1.size
 simp only [World.size_alloc] at hsz1
 go_upto_region 2 with (fail)
 obtain ⟨W2, hW2⟩ : ∃ W2, W2 = w1.alloc (.cells #[.int .i64 v, .int .i64 h, .slice gA rows.length gcap] 30) := ⟨_, rfl⟩
 rw [← hW2]
 have hb2 : Below w1.heap.size w1 W2 := by rw [hW2]; exact (Below.refl _ _).alloc (Nat.le_refl _) _
 have hsz2 : W2.heap.size = w1.heap.size + 1 := by rw [hW2]; simp
 have hb02 := hb1.trans (hb2.mono hb1.size)
 have m2 : W2.heap[w1.heap.size]? = some (.cells #[.int .i64 v, .int .i64 h, .slice gA rows.length gcap] 30 (0, 0)) := by rw [hW2]; exact heap_at _ _ rfl
 have k0 := boxb hb02 q0
 have k1 := boxb hb02 q1
 have k2 := boxb hb02 q2
 have hu2 : OwnRowsW W2 (w.heap.size + 3) (.slice gA rows.length gcap) rows us := (hu.ext hb2).mono (by simp)
 have hub : ∀ g', gA = some ⟨g', 0, none⟩ → g' < w1.heap.size := fun g' e => by subst e; exact (World.ownsRow.lt hu.outer g' rfl).2
 have hin : ∀ (k : Nat) (x : Value), us[k]? = some x → ∀ b, x.ownBlock = some b → b < w1.heap.size := fun k x hx b hb => by obtain ⟨r, _, ho⟩ := hu.getR hx; exact (ho.lt b hb).2
 have hb3 : Below w.heap.size w W2 := (below_alloc3 w _ _ _).trans (hb02.mono (by simp <;> omega))
 clear hu hb1 hb2 hb02 hR hms q0 q1 q2 hW2
 obtain ⟨g, hgv, hgB, hgl⟩ : ∃ g, gA = some ⟨g, 0, none⟩ ∧ w.heap.size + 3 ≤ g ∧ g < W2.heap.size := own_at hu2 (by omega)
 subst hgv
 have hgu := hub g rfl
 have x0 := blk_cell k0 0
 have x2 := blk_cell m2 2
 simp only [List.getElem?_cons_zero, List.getElem?_cons_succ] at x0 x2
 have HU := Lib.hid hu2; have HB := Lib.hid hb3
 have K2 := Lib.hid k2; have M2 := Lib.hid m2
 clear hu2 hb3 hub hin k0 k1 k2 m2
 go_upto_region 3 with (go_at_call 175; refine (deleteRows_any (w.heap.size + 3) g rows.length gcap a us _ HU.out.outer (own_one HU.out) ha ha' (by omega)).mono ?_; rintro e wr ⟨rfl, hown, hgr⟩; have hF := (hgr.block w1.heap.size (by omega) (by simp; omega)).trans M2.out; have HG := Lib.hid hgr; have HO := Lib.hid hown; have f2 := blk_free hF 2; have c2 := blk_cell hF 2; simp only [List.getElem?_cons_zero, List.getElem?_cons_succ] at c2; have HF := Lib.hid hF; clear hF hgr hown)
 have m2w := heap_setCell_same wr w1.heap.size 2 _ _ (.slice (some ⟨g, 0, none⟩) (rows.length - 1) gcap) HF.out
 simp only [List.setIfInBounds_toArray, List.set_cons_zero, List.set_cons_succ] at m2w
 have k2w := (heap_setCell_other wr ⟨w1.heap.size, 2, none⟩ (w.heap.size + 1 + 1) (.slice (some ⟨g, 0, none⟩) (rows.length - 1) gcap) (by simp <;> omega)).trans ((HG.out.block _ (by omega) (by simp; omega)).trans K2.out)
 have hW := HU.out.erase (by omega) HO.out HG.out
 have HO := Lib.hid (show OwnRows _ (w.heap.size + 3) _ _ from ⟨_, hW.setSys HF.out (j := 2) (u := .slice (some ⟨g, 0, none⟩) (rows.length - 1) gcap)⟩)
 have HE := Lib.hid ((HB.out.grown HG.out (by omega) fun b hb => by cases hb; omega).setCell (p := ⟨w1.heap.size, 2, none⟩) (by simp <;> omega) (.slice (some ⟨g, 0, none⟩) (rows.length - 1) gcap))
 clear hW c2 f2 x0 x2
 have e0 := blk_cell m2w 0
 have e1 := blk_cell m2w 1
 have e2 := blk_cell m2w 2
 have e3 := blk_cell k2w 0
 have e4 := blk_cell k2w 1
 have e5 := blk_cell k2w 2
 have e6 := blk_free k2w 0
 have e7 := blk_free k2w 1
 have e8 := blk_free k2w 2
 simp only [List.getElem?_cons_zero, List.getElem?_cons_succ] at e0 e1 e2 e3 e4 e5
 clear m2w k2w
 go_wp2
 refine bodyPost_ret (v := .agg #[.int .i64 v, .int .i64 h, .slice (some ⟨g, 0, none⟩) (rows.length - 1) gcap]) (by simp [results, Tryz.results172, go_sem, *]) rfl ⟨_, rfl, ?_, ?_⟩
 ·exact (((HO.out.setCell (by simp <;> omega) _).setCell (by simp <;> omega) _).setCell (by simp <;> omega) _).mono (by omega)
 ·exact ((HE.out.setCell (by simp <;> omega) _).setCell (by simp <;> omega) _).setCell (by simp <;> omega) _
/-- Of what was there, at most the blocks from lo to hi have turned. -/
structure Within (lo hi : Nat) (w w' : World) : Prop where
 os : w'.os = w.os
 tape : w'.tape = w.tape
 output : w'.output = w.output
 size : w.heap.size ≤ w'.heap.size
 block : ∀ k, k < w.heap.size → (k < lo ∨ hi ≤ k) → w'.heap[k]? = w.heap[k]?
theorem Within.refl (lo hi : Nat) (w : World) : Within lo hi w w := ⟨rfl, rfl, rfl, Nat.le_refl _, fun _ _ _ => rfl⟩
theorem Within.trans {lo hi : Nat} {a b c : World} (h : Within lo hi a b) (k : Within lo hi b c) : Within lo hi a c :=
 ⟨k.os.trans h.os, k.tape.trans h.tape, k.output.trans h.output, Nat.le_trans h.size k.size, fun i h1 h2 => (k.block i (Nat.lt_of_lt_of_le h1 h.size) h2).trans (h.block i h1 h2)⟩
theorem Within.of_below {lo hi : Nat} {w w' : World} (h : Below w.heap.size w w') : Within lo hi w w' := ⟨h.os, h.tape, h.output, h.size, fun k h1 _ => h.block k h1⟩
theorem Within.of_grown {lo hi b : Nat} {w w' : World} (h : w.grownBy w' (some b)) (h1 : lo ≤ b) (h2 : b < hi) : Within lo hi w w' :=
 ⟨h.os, h.tape, h.output, h.size, fun k hk hr => h.block k hk (fun e => by cases e; omega)⟩
theorem Within.mono {lo hi lo' hi' : Nat} {w w' : World} (h : Within lo hi w w') (h1 : lo' ≤ lo) (h2 : hi ≤ hi') : Within lo' hi' w w' :=
 ⟨h.os, h.tape, h.output, h.size, fun k hk hr => h.block k hk (by omega)⟩
theorem Within.below {lo hi B : Nat} {w w' : World} (h : Within lo hi w w') (hB : B ≤ lo) (hw : B ≤ w.heap.size) : Below B w w' :=
 ⟨h.os, h.tape, h.output, h.size, fun k hk => h.block k (by omega) (by omega)⟩
theorem Within.cell {lo hi : Nat} {w w' : World} (h : Within lo hi w w') {p : Addr} {v : Value} (hc : w.cell? p = some v) (hp : p.block < lo ∨ hi ≤ p.block) : w'.cell? p = some v := by
 rw [← hc]; exact World.cell?_of_block (w := w) (h.block _ (World.block_lt_of_cell? w p hc) hp)
/-- The integers xs in a slice of the call's own, its block from lo to hi. -/
structure HasI (w : World) (lo hi : Nat) (v : Value) (xs : List Int) : Prop where
 own : OwnInts w lo v xs
 up : ∀ b, v.ownBlock = some b → b < hi
/-- Rows in slices of the call's own, their blocks from lo to hi. -/
structure HasW (w : World) (lo hi : Nat) (v : Value) (rows : List (List Int)) (us : List Value) : Prop where
 own : OwnRowsW w lo v rows us
 up : ∀ b, v.ownBlock = some b → b < hi
 ups : ∀ u ∈ us, ∀ b, u.ownBlock = some b → b < hi
def Has (w : World) (lo hi : Nat) (v : Value) (rows : List (List Int)) : Prop := ∃ us, HasW w lo hi v rows us
theorem HasI.of {w : World} {B : Nat} {v : Value} {xs : List Int} (h : OwnInts w B v xs) : HasI w B w.heap.size v xs := ⟨h, fun b hb => (h.lt b hb).2⟩
theorem Has.of {w : World} {B : Nat} {v : Value} {rows : List (List Int)} (h : OwnRows w B v rows) : Has w B w.heap.size v rows := by
 obtain ⟨us, h⟩ := h
 refine ⟨us, h, fun b hb => (World.ownsRow.lt h.outer b hb).2, fun u hu b hb => ?_⟩
 obtain ⟨k, hk⟩ := List.mem_iff_getElem?.1 hu
 obtain ⟨r, _, ho⟩ := h.getR hk
 exact (ho.lt b hb).2
theorem HasI.mono {w : World} {lo hi lo' hi' : Nat} {v : Value} {xs : List Int} (h : HasI w lo hi v xs) (h1 : lo' ≤ lo) (h2 : hi ≤ hi') : HasI w lo' hi' v xs :=
 ⟨h.own.mono h1, fun b hb => by have := h.up b hb; omega⟩
theorem OwnInts.within {w w' : World} {B lo hi hv : Nat} {v : Value} {xs : List Int} (h : OwnInts w B v xs) (up : ∀ b, v.ownBlock = some b → b < hv) (hw : Within lo hi w w') (hd : hv ≤ lo ∨ hi ≤ B) : OwnInts w' B v xs := by
 refine ⟨h.1, h.2.imp id fun ⟨g, cap, cur, a1, a2, a3, a4⟩ => ⟨g, cap, cur, a1, a2, ?_, a4⟩⟩
 have := up g (by rw [a1]; rfl)
 exact (hw.block g (Array.getElem?_eq_some_iff.1 a3).1 (by omega)).trans a3
theorem HasI.within {w w' : World} {lo hi lo' hi' : Nat} {v : Value} {xs : List Int} (h : HasI w lo hi v xs) (hw : Within lo' hi' w w') (hd : hi ≤ lo' ∨ hi' ≤ lo) : HasI w' lo hi v xs :=
 ⟨h.own.within h.up hw hd, h.up⟩
theorem HasW.within {w w' : World} {lo hi lo' hi' : Nat} {v : Value} {rows : List (List Int)} {us : List Value} (h : HasW w lo hi v rows us) (hw : Within lo' hi' w w') (hd : hi ≤ lo' ∨ hi' ≤ lo) : HasW w' lo hi v rows us := by
 refine ⟨⟨⟨h.own.outer.1, h.own.outer.2.imp id fun ⟨g, cap, cur, a1, a2, a3, a4⟩ => ⟨g, cap, cur, a1, a2, (hw.block g (Array.getElem?_eq_some_iff.1 a3).1 (by have := h.up g (by rw [a1]; rfl); omega)).trans a3, a4⟩⟩, fun k u r hu hr => ?_, h.own.apart⟩, h.up, h.ups⟩
 exact (h.own.each k u r hu hr).within (h.ups u (List.mem_of_getElem? hu)) hw hd
theorem Has.within {w w' : World} {lo hi lo' hi' : Nat} {v : Value} {rows : List (List Int)} (h : Has w lo hi v rows) (hw : Within lo' hi' w w') (hd : hi ≤ lo' ∨ hi' ≤ lo) : Has w' lo hi v rows := by
 obtain ⟨us, h⟩ := h; exact ⟨us, h.within hw hd⟩
theorem HasI.ext {w w' : World} {lo hi : Nat} {v : Value} {xs : List Int} (h : HasI w lo hi v xs) (hb : Below w.heap.size w w') : HasI w' lo hi v xs := ⟨h.own.ext hb, h.up⟩
theorem HasW.ext {w w' : World} {lo hi : Nat} {v : Value} {rows : List (List Int)} {us : List Value} (h : HasW w lo hi v rows us) (hb : Below w.heap.size w w') : HasW w' lo hi v rows us := ⟨h.own.ext hb, h.up, h.ups⟩
theorem Has.ext {w w' : World} {lo hi : Nat} {v : Value} {rows : List (List Int)} (h : Has w lo hi v rows) (hb : Below w.heap.size w w') : Has w' lo hi v rows := by
 obtain ⟨us, h⟩ := h; exact ⟨us, h.ext hb⟩
theorem Has.own {w : World} {lo hi : Nat} {v : Value} {rows : List (List Int)} (h : Has w lo hi v rows) : OwnRows w lo v rows := by
 obtain ⟨us, h⟩ := h; exact ⟨us, h.own⟩
theorem Has.nil (w : World) (lo hi : Nat) : Has w lo hi (.slice none 0 0) [] :=
 ⟨[], ⟨World.ownsRow_nil _ _ _ _, fun k u r hu => by simp at hu, fun i j u u' b hu => by simp at hu⟩, fun b hb => by simp [Value.ownBlock] at hb, fun u hu => by cases hu⟩
theorem grown_refl (w : World) (r : Option Nat) : w.grownBy w r := ⟨rfl, rfl, rfl, Nat.le_refl _, fun _ _ _ => rfl⟩
theorem grown_trans {a b c : World} {r : Option Nat} (h : a.grownBy b r) (k : b.grownBy c r) : a.grownBy c r :=
 ⟨k.os.trans h.os, k.tape.trans h.tape, k.output.trans h.output, Nat.le_trans h.size k.size, fun i hi hne => (k.block i (Nat.lt_of_lt_of_le hi h.size) hne).trans (h.block i hi hne)⟩
theorem Within.of_own {lo hi : Nat} {w w' : World} {r : Option Nat} (h : w.grownBy w' r) (hv : ∀ b, r = some b → lo ≤ b ∧ b < hi) : Within lo hi w w' :=
 ⟨h.os, h.tape, h.output, h.size, fun k hk hr => h.block k hk (fun e => by have := hv k e.symm; omega)⟩
/-- n numbers from k on. -/
def nums (k : Int) (n : Nat) : List Int := (List.range n).map fun (i : Nat) => k + (i : Int)
theorem nums_len (k : Int) (n : Nat) : (nums k n).length = n := by simp [nums]
theorem nums_get (k : Int) (n j : Nat) (h : j < n) : (nums k n)[j]? = some (k + j) := by simp [nums, h]
theorem nums_succ (k : Int) (n : Nat) : nums k (n + 1) = nums k n ++ [k + n] := by simp [nums, List.range_succ]
def numTo (k : Int) (xs : List Int) (j : Nat) : List Int := nums k j ++ xs.drop j
theorem numTo_len (k : Int) (xs : List Int) (j : Nat) (h : j ≤ xs.length) : (numTo k xs j).length = xs.length := by simp [numTo, nums_len]; omega
theorem numTo_all (k : Int) (xs : List Int) (j : Nat) (h : j = xs.length) : numTo k xs j = nums k xs.length := by subst h; simp [numTo]
theorem numTo_set (k : Int) (xs : List Int) (j : Nat) (h : j < xs.length) : (numTo k xs j).set j (k + j) = numTo k xs (j + 1) := by
 unfold numTo
 rw [List.set_append_right _ _ (by rw [nums_len]; omega), nums_len, Nat.sub_self, List.drop_eq_getElem_cons h, List.set_cons_zero, nums_succ, List.append_assoc]
 rfl
set_option maxHeartbeats 1000000 in
theorem markIntS_any (k : Int) (lo : Nat) (A : Option Addr) (cap : Nat) (xs : List Int) (w : World) (h : OwnInts w lo (.slice A xs.length cap) xs) (hl : xs.length ≤ 1048576) (hk : 0 ≤ k) (hk' : k ≤ 1152921504606846976) :
  Calls Tryz.prog 57 #[.slice A xs.length cap, .int .i64 k] w fun e w' => e = .returned (.int .i64 (k + xs.length)) ∧ OwnInts w' lo (.slice A xs.length cap) (nums k xs.length) ∧ w.grownBy w' (Value.slice A xs.length cap).ownBlock := by
 by_cases h0 : xs.length = 0
 ·have hx : xs = [] := List.eq_nil_of_length_eq_zero h0
  subst hx
  have HH := Lib.hid h
  clear h h0
  go_enter Tryz.func57, Tryz.ntmps57
  go_wp2
  go_loopw [1, 5] (fun q i wr => i = .int .i64 0 ∧ q = .int .i64 k ∧ wr = w) (fun _ _ _ => 0)
  case atStart => exact ⟨rfl, rfl, rfl⟩
  case round =>
   obtain ⟨rfl, rfl, rfl⟩ := hrel
   go_wp2
   go_ret
   exact ⟨ret_int (by simp), HH.out, grown_refl _ _⟩
 ·obtain ⟨g, cap', hv, hg1, hg2⟩ := World.ownsRow.form h (by omega)
  simp only [Value.slice.injEq] at hv
  obtain ⟨rfl, _, rfl⟩ := hv
  have HH := Lib.hid (show OwnInts w lo (.slice (some ⟨g, 0, none⟩) xs.length cap) xs from h)
  have HL := Lib.hid (show (0 : Nat) < xs.length by omega)
  clear h h0
  go_enter Tryz.func57, Tryz.ntmps57
  go_wp2
  go_loopw [1, 5] (fun q i wr => ∃ j : Nat, j ≤ xs.length ∧ i = .int .i64 j ∧ q = .int .i64 (k + j) ∧ wr.ownsRow lo 3 1 (.slice (some ⟨g, 0, none⟩) xs.length cap) xs.length ((numTo k xs j).map (Value.int .i64)) ∧ w.grownBy wr (some g))
   (fun _ i _ => xs.length - (intOf i).toNat)
  case atStart => exact ⟨0, Nat.zero_le _, rfl, by go_num, by simpa [numTo, nums, OwnInts] using HH.out, grown_refl _ _⟩
  case round =>
   obtain ⟨j, hj, rfl, rfl, hown, hwi⟩ := hrel
   by_cases hlt : j < xs.length
   ·have hfr := hown.frozenAt j
    have hcell : wr.cell? ⟨g, j, none⟩ = some (.int .i64 ((numTo k xs j).getD j 0)) := by
     have hj2 : j < (numTo k xs j).length := by rw [numTo_len k xs j hj]; exact hlt
     rw [hown.cellAt j (by omega), List.getElem?_map, List.getElem?_eq_getElem hj2, List.getD_eq_getElem?_getD, List.getElem?_eq_getElem hj2]; rfl
    have hst := hown.stored j (.int .i64 (k + j))
    rw [← List.map_set, numTo_set k xs j hlt] at hst
    have HS := Lib.hid hst.1
    have HW := Lib.hid (grown_trans hwi hst.2)
    clear hst hown hwi HH
    go_wp2
    go_roundw
    case rel => exact ⟨j+1, by omega, by go_num, by go_num, HS.out, HW.out⟩
    case measure => simp [intOf]; omega
   ·have hje : j = xs.length := by omega
    have HO := Lib.hid hown; have HW := Lib.hid hwi; have HJ := Lib.hid hje
    clear hown hwi hje
    go_wp2
    go_ret
    rw [numTo_all k xs j HJ.out] at HO
    exact ⟨ret_int (by rw [HJ.out]), by simpa [OwnInts, nums_len] using HO.out, HW.out⟩
set_option maxHeartbeats 1000000 in
theorem heldIntS_any (k : Int) (A : Option Addr) (cap n : Nat) (w : World) (h : IntsAt w A (nums k n)) (hl : n ≤ 1048576) (hk : 0 ≤ k) (hk' : k ≤ 1152921504606846976) :
  Calls Tryz.prog 65 #[.slice A n cap, .int .i64 k] w fun e w' => e = .returned (.int .i64 (k + n)) ∧ w = w' := by
 go_enter Tryz.func65, Tryz.ntmps65
 go_wp2
 go_loop [1, 5] (fun q i => ∃ j : Nat, j ≤ n ∧ i = .int .i64 j ∧ q = .int .i64 (k + j)) (fun _ i => n - (intOf i).toNat)
 case atStart => exact ⟨0, Nat.zero_le _, rfl, by go_num⟩
 case round =>
  obtain ⟨j, hj, rfl, rfl⟩ := hrel
  by_cases hlt : j < n
  ·have hlt2 : j < (nums k n).length := by rw [nums_len]; exact hlt
   obtain ⟨b, o, rfl, hc⟩ := h.here hlt2
   have hck := hc j _ (nums_get k n j hlt)
   clear hc h
   go_wp2
   go_round
   case rel => exact ⟨j+1, by omega, by go_num, by go_num⟩
   case measure => simp [intOf]; omega
  ·have HJ := Lib.hid (show j = n by omega)
   go_wp2
   go_ret
   exact ⟨ret_int (by rw [HJ.out]), rfl⟩
end Go.Proofs.YtjdbfokbgmbphaaGreatDoor
