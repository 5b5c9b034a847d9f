/- The steps made (methods 'do'): scale. Conditions: a system of moderate size whose elements lie in 0..1000; the row is there. -/
import Derived.Test.YtjdbfokbgmbphaaGreatDoorUpd
namespace Go.Proofs.YtjdbfokbgmbphaaGreatDoor
set_option linter.unusedVariables false
set_option linter.unusedSimpArgs false
open Go.RowKit

/-- A row multiplied, as far as place k. -/
def mulTo (p b : Int) (xs : List Int) (k : Nat) : List Int := (xs.map fun x => x * b % p).take k ++ xs.drop k
def mulRow (p b : Int) (xs : List Int) : List Int := xs.map fun x => x * b % p
theorem mulTo_zero (p b : Int) (xs : List Int) : mulTo p b xs 0 = xs := by simp [mulTo]
theorem mulTo_all (p b : Int) (xs : List Int) (k : Nat) (hk : xs.length ≤ k) : mulTo p b xs k = mulRow p b xs := by
  unfold mulTo mulRow
  rw [List.take_of_length_le (by simpa using hk), List.drop_of_length_le hk, List.append_nil]
theorem mulTo_get (p b : Int) (xs : List Int) (k : Nat) (hk : k < xs.length) : (mulTo p b xs k)[k]? = xs[k]? := by
  unfold mulTo
  rw [List.getElem?_append_right (by simp; omega), List.getElem?_drop]
  congr 1
  simp; omega
theorem mulTo_set (p b : Int) (xs : List Int) (k : Nat) (x : Int) (hx : xs[k]? = some x) : (mulTo p b xs k).set k (x * b % p) = mulTo p b xs (k + 1) := by
  have h1 := (List.getElem?_eq_some_iff.1 hx).1
  unfold mulTo
  rw [List.set_append_right _ _ (by simp; omega), List.take_add_one]
  have e1 : xs.drop k = x :: xs.drop (k + 1) := by
    rw [List.drop_eq_getElem_cons h1]
    congr 1
    rw [List.getElem?_eq_getElem h1] at hx
    exact Option.some.inj hx
  have e2 : k - ((xs.map fun x => x * b % p).take k).length = 0 := by simp; omega
  rw [e1, e2, List.set_cons_zero]
  simp [hx]

set_option maxHeartbeats 2000000 in
theorem scaleDo_any (a b p v h : Int) (A : Option Addr) (cap : Nat) (rows : List (List Int)) (w : World) (hR : RowsAt w A rows) (hm : rows.length ≤ 160) (hms : ∀ r ∈ rows, r.length ≤ 1000) (hp : 1 ≤ p) (hp' : p ≤ 1000)
    (ha : 0 ≤ a) (ha' : a < rows.length) (hb : 0 ≤ b) (hb' : b ≤ 1000) (hx : ∀ r ∈ rows, ∀ x ∈ r, 0 ≤ x ∧ x ≤ 1000) :
    Calls Tryz.prog 166 #[.agg #[.int .i64 a, .int .i64 b], .int .i64 p, .agg #[.int .i64 v, .int .i64 h, .slice A rows.length cap]] w fun e w' =>
      ∃ u, e = .returned (.agg #[.int .i64 v, .int .i64 h, u]) ∧ OwnRows w' w.heap.size u (rows.set a.toNat (mulRow p b (rows.getD a.toNat []))) ∧ Below w.heap.size w w' := by
  obtain ⟨ra, hra⟩ := get_of_lt (show a.toNat < rows.length by omega)
  have HA := Lib.hid (show rows.getD a.toNat [] = ra by simp [List.getD, hra])
  have HX := Lib.hid (show ∀ x ∈ ra, 0 ≤ x ∧ x ≤ 1000 from hx ra (List.mem_of_getElem? hra))
  have hrm : ra.length ≤ 1000 := hms ra (List.mem_of_getElem? hra)
  clear hx
  have HM := Lib.hid (show rows.length ≤ 1048576 by omega)
  have HMS := Lib.hid (show ∀ r ∈ rows, r.length ≤ 1048576 from fun r hr => by have := hms r hr; omega)
  go_enter Tryz.func166, Tryz.ntmps166
  go_wp2_with fail
  refine (copy_any _ _ _ _ _ _ (hR.ext (((Below.refl _ _).alloc (by simp) _ |>.alloc (by simp) _).alloc (by simp <;> omega) _)) HM.out HMS.out).mono ?_
  rintro e w1 ⟨u, rfl, ⟨us, hu⟩, hb1⟩
  obtain ⟨gA, gcap, rfl, _, _, _⟩ := OwnRows.view ⟨us, hu⟩
  obtain ⟨q0, q1, q2⟩ := heap_at3 w (.cells #[.int .i64 a, .int .i64 b] 120) (.cells #[.int .i64 v, .int .i64 h, .slice A rows.length cap] 30) (.cells #[.int .i64 0, .int .i64 0, .slice none 0 0] 30)
  have hsz1 := hb1.size
  simp only [World.size_alloc] at hsz1
  go_upto_region 2 with (fail)
  obtain ⟨W2, hW2⟩ : ∃ W2, W2 = w1.alloc (.cells #[.int .i64 v, .int .i64 h, .slice gA rows.length gcap] 30) := ⟨_, rfl⟩
  rw [← hW2]
  have hb2 : Below w1.heap.size w1 W2 := by rw [hW2]; exact (Below.refl _ _).alloc (Nat.le_refl _) _
  have hsz2 : W2.heap.size = w1.heap.size + 1 := by rw [hW2]; simp
  have hb02 := hb1.trans (hb2.mono hb1.size)
  have m2 : W2.heap[w1.heap.size]? = some (.cells #[.int .i64 v, .int .i64 h, .slice gA rows.length gcap] 30 (0, 0)) := by rw [hW2]; exact heap_at _ _ rfl
  have k0 := boxb hb02 q0
  have k1 := boxb hb02 q1
  have k2 := boxb hb02 q2
  have hu2 : OwnRowsW W2 (w.heap.size + 3) (.slice gA rows.length gcap) rows us := (hu.ext hb2).mono (by simp)
  have hub : ∀ g', gA = some ⟨g', 0, none⟩ → g' < w1.heap.size := fun g' e => by subst e; exact (World.ownsRow.lt hu.outer g' rfl).2
  have hin : ∀ (k : Nat) (x : Value), us[k]? = some x → ∀ b, x.ownBlock = some b → b < w1.heap.size := fun k x hx b hb => by obtain ⟨r, _, ho⟩ := hu.getR hx; exact (ho.lt b hb).2
  have hb3 : Below w.heap.size w W2 := (below_alloc3 w _ _ _).trans (hb02.mono (by simp <;> omega))
  clear hu hb1 hb2 hb02 hR hms q0 q1 q2 hW2
  obtain ⟨ua, hua, hoa⟩ := hu2.get hra
  obtain ⟨g, hgv, hgB, hgl⟩ : ∃ g, gA = some ⟨g, 0, none⟩ ∧ w.heap.size + 3 ≤ g ∧ g < W2.heap.size := own_at hu2 (by omega)
  subst hgv
  have hgu := hub g rfl
  obtain ⟨Aa, ca, rfl, hIa, _⟩ := hoa.view
  have x0 := blk_cell k0 0
  have x1 := blk_cell k0 1
  have x2 := blk_cell m2 2
  simp only [List.getElem?_cons_zero, List.getElem?_cons_succ] at x0 x1 x2
  have z0 : W2.cell? ⟨g, a.toNat, none⟩ = some (.slice Aa ra.length ca) := by rw [hu2.outer.cellAt _ (by omega), hua]
  have HU := Lib.hid hu2; have HB := Lib.hid hb3; have HUA := Lib.hid hua; have HOA := Lib.hid hoa; have HRA := Lib.hid hra; have HI := Lib.hid hIa
  have K2 := Lib.hid k2; have M2 := Lib.hid m2; have HIN := Lib.hid (hin _ _ hua)
  have hap := Lib.hid (apart_types' hu2.outer hoa)
  clear hu2 hb3 hua hoa hra hIa hub hin k0 k1 k2 m2
  go_wp2
  go_loopw [19] (fun i wr => ∃ k : Nat, k ≤ ra.length ∧ i = .int .i64 k ∧ wr.ownsRow (w.heap.size + 3) 3 1 (.slice Aa ra.length ca) ra.length ((mulTo p b ra k).map (Value.int .i64)) ∧ W2.grownBy wr (Value.slice Aa ra.length ca).ownBlock)
    (fun i _ => ra.length - (intOf i).toNat)
  case atStart => exact ⟨0, Nat.zero_le _, rfl, by rw [mulTo_zero]; exact HOA.out, ⟨rfl, rfl, rfl, Nat.le_refl _, fun _ _ _ => rfl⟩⟩
  case round =>
    obtain ⟨k, hk, rfl, hown, hgr⟩ := hrel
    by_cases hlt : k < ra.length
    · obtain ⟨x, hx⟩ := get_of_lt hlt
      obtain ⟨ga, rfl, hga, _⟩ := own_at1 HOA.out (by omega)
      have hga' := HIN.out ga rfl
      have hne : g ≠ ga := by
        rcases hap.out with h | h
        · cases h
        · exact fun e => h (by rw [e]; rfl)
      have y0 : wr.cell? ⟨w.heap.size, 0, none⟩ = some (.int .i64 a) := hgr.cell x0 (by simp [Value.ownBlock]; omega)
      have y1 : wr.cell? ⟨w.heap.size, 1, none⟩ = some (.int .i64 b) := hgr.cell x1 (by simp [Value.ownBlock]; omega)
      have y2 : wr.cell? ⟨w1.heap.size, 2, none⟩ = some (.slice (some ⟨g, 0, none⟩) rows.length gcap) := hgr.cell x2 (by simp [Value.ownBlock]; omega)
      have y3 : wr.cell? ⟨g, a.toNat, none⟩ = some (.slice (some ⟨ga, 0, none⟩) ra.length ca) := hgr.cell z0 (by simp [Value.ownBlock]; omega)
      have hcx : wr.cell? ⟨ga, k, none⟩ = some (.int .i64 x) := by
        rw [hown.cellAt k (by omega), List.getElem?_map, mulTo_get _ _ _ _ hlt, hx]; rfl
      have hfr := hown.frozenAt k
      obtain ⟨x1, x2⟩ := HX.out x (List.mem_of_getElem? hx)
      have m0 : 0 ≤ x * b := Int.mul_nonneg x1 hb
      have m1 : x * b ≤ 1000000 := by
        have := Int.mul_le_mul x2 hb' hb (by omega)
        omega
      have hst := hown.stored k (.int .i64 (x * b % p))
      rw [← List.map_set, mulTo_set _ _ _ _ _ hx] at hst
      have HS := Lib.hid hst.1
      have HG := Lib.hid (grownBy_trans hgr hst.2)
      have h1 := Int.emod_nonneg (x * b) (show p ≠ 0 by omega)
      have h2 := Int.emod_lt_of_pos (x * b) (show 0 < p by omega)
      have h0 : ¬ p = 0 := by omega
      have h3 : (x * b).tmod p = x * b % p := Int.tmod_eq_emod_of_nonneg m0
      clear hst hx hown hgr x0 z0
      go_wp2_with fail
      go_region_held3 (fun w' => w'.cell? ⟨w.heap.size, 0, none⟩ = some (.int .i64 a) ∧ w'.cell? ⟨w.heap.size, 1, none⟩ = some (.int .i64 b) ∧ w'.cell? ⟨w1.heap.size, 2, none⟩ = some (.slice (some ⟨g, 0, none⟩) rows.length gcap) ∧ w'.cell? ⟨g, a.toNat, none⟩ = some (.slice (some ⟨ga, 0, none⟩) ra.length ca))
        (first | (simp [*]; done) | (refine ⟨?_, ?_, ?_, ?_⟩ <;> (first | (refine (cell_set_ne2 (by simp <;> omega)).trans ?_; assumption) | (refine (cell_set_ne' (by simp <;> omega)).trans ?_; assumption)))) (fail)
      go_wp2
      go_roundw
      case rel => exact ⟨k+1, by omega, by go_num, HS.out, grownBy_trans HG.out (grownBy_drew _ _)⟩
      case measure => simp [intOf]; omega
    · have hblk : ∀ b, (Value.slice Aa ra.length ca).ownBlock = some b → w.heap.size + 3 ≤ b ∧ b < w1.heap.size := fun b hb => ⟨(World.ownsRow.lt HOA.out b hb).1, HIN.out b hb⟩
      have m2w := (hgr.block w1.heap.size (by omega) (fun e => by have := hblk _ e.symm; omega)).trans M2.out
      have k2w := (hgr.block (w.heap.size + 1 + 1) (by omega) (fun e => by have := hblk _ e.symm; omega)).trans K2.out
      have hk' : k = ra.length := by omega
      subst hk'
      have HO := Lib.hid (show OwnRows wr (w.heap.size + 3) (.slice (some ⟨g, 0, none⟩) rows.length gcap) (rows.set a.toNat (mulRow p b (rows.getD a.toNat []))) from
        ⟨_, HU.out.inner HUA.out hgr (by rw [HA.out, ← mulTo_all p b ra ra.length (Nat.le_refl _)]; unfold OwnInts; rw [show (mulTo p b ra ra.length).length = ra.length by simp [mulTo]]; exact hown)⟩)
      have HE := Lib.hid (HB.out.grown hgr (by omega) fun b hb => by have := hblk b hb; omega)
      clear hown hgr hblk x0 x1 x2 z0
      have e0 := blk_cell m2w 0
      have e1 := blk_cell m2w 1
      have e2 := blk_cell m2w 2
      have e3 := blk_cell k2w 0
      have e4 := blk_cell k2w 1
      have e5 := blk_cell k2w 2
      have e6 := blk_free k2w 0
      have e7 := blk_free k2w 1
      have e8 := blk_free k2w 2
      simp only [List.getElem?_cons_zero, List.getElem?_cons_succ] at e0 e1 e2 e3 e4 e5
      clear m2w k2w
      go_wp2
      refine bodyPost_ret (v := .agg #[.int .i64 v, .int .i64 h, .slice (some ⟨g, 0, none⟩) rows.length gcap]) (by simp [results, Tryz.results166, go_sem, *]) rfl ⟨_, rfl, ?_, ?_⟩
      · exact (((HO.out.setCell (by simp <;> omega) _).setCell (by simp <;> omega) _).setCell (by simp <;> omega) _).mono (by omega)
      · exact ((HE.out.setCell (by simp <;> omega) _).setCell (by simp <;> omega) _).setCell (by simp <;> omega) _
end Go.Proofs.YtjdbfokbgmbphaaGreatDoor
