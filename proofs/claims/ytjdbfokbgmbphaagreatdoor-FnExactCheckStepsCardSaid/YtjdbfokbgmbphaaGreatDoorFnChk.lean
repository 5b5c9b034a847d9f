/- laws.FnExactCheckSteps returns true for all arguments. Conditions: lengths of at most maxLen; the table of primes is laid. -/
import Derived.Test.YtjdbfokbgmbphaaGreatDoorPk29
import Derived.Test.YtjdbfokbgmbphaaGreatDoorPk28
import Derived.Deep.Cut
namespace Go.Proofs.YtjdbfokbgmbphaaGreatDoor
set_option linter.unusedVariables false
set_option linter.unusedSimpArgs false
open Go.RowKit

/-- What the law keeps in hand while arguments and answers are marked: each in blocks of its own. -/
structure UFnChk (w2 : World) (E1 : Array Value) (v1 : Value) (R1 : List (List Int)) (v2 : Value) (R2 : List Stp) (E3 : Array Value) (v3 : Value) (R3 : List (List Int)) (l1 h1 b1 : Nat) (l2 h2 : Nat) (l3 h3 b3 : Nat) (W : World) : Prop where
  base : Below w2.heap.size w2 W
  ord : w2.heap.size ≤ l1 ∧ l1 ≤ h1 ∧ h1 ≤ b1 ∧ b1 + 1 ≤ l2 ∧ l2 ≤ h2 ∧ h2 ≤ l3 ∧ l3 ≤ h3 ∧ h3 ≤ b3
  x1 : W.heap[b1]? = some (.cells E1 30 (0, 0))
  x3 : W.heap[b3]? = some (.cells E3 30 (0, 0))
  o1 : Has W l1 h1 v1 R1
  o2 : HasS W l2 h2 v2 R2
  o3 : Has W l3 h3 v3 R3
section
variable {w2 : World} {E1 : Array Value} {v1 : Value} {R1 : List (List Int)} {v2 : Value} {R2 : List Stp} {E3 : Array Value} {v3 : Value} {R3 : List (List Int)} {l1 h1 b1 : Nat} {l2 h2 : Nat} {l3 h3 b3 : Nat} {W W' : World}
theorem UFnChk.ext (h : UFnChk w2 E1 v1 R1 v2 R2 E3 v3 R3 l1 h1 b1 l2 h2 l3 h3 b3 W) (hb : Below W.heap.size W W') : UFnChk w2 E1 v1 R1 v2 R2 E3 v3 R3 l1 h1 b1 l2 h2 l3 h3 b3 W' :=
  ⟨below_ext h.base hb, h.ord, box_at h.x1 hb, box_at h.x3 hb, h.o1.ext hb, h.o2.ext hb, h.o3.ext hb⟩
theorem UFnChk.mark1 (h : UFnChk w2 E1 v1 R1 v2 R2 E3 v3 R3 l1 h1 b1 l2 h2 l3 h3 b3 W) (hw : Within l1 h1 W W') {R : List (List Int)} (ho : Has W' l1 h1 v1 R) : UFnChk w2 E1 v1 R v2 R2 E3 v3 R3 l1 h1 b1 l2 h2 l3 h3 b3 W' := by
  obtain ⟨a0, a1, a2, a3, a4, a5, a6, a7⟩ := h.ord
  exact ⟨h.base.trans (hw.below (by omega) h.base.size), h.ord, box_in h.x1 hw (by omega), box_in h.x3 hw (by omega), ho, h.o2.within hw (by omega), h.o3.within hw (by omega)⟩
theorem UFnChk.mark2 (h : UFnChk w2 E1 v1 R1 v2 R2 E3 v3 R3 l1 h1 b1 l2 h2 l3 h3 b3 W) (hw : Within l2 h2 W W') {R : List Stp} (ho : HasS W' l2 h2 v2 R) : UFnChk w2 E1 v1 R1 v2 R E3 v3 R3 l1 h1 b1 l2 h2 l3 h3 b3 W' := by
  obtain ⟨a0, a1, a2, a3, a4, a5, a6, a7⟩ := h.ord
  exact ⟨h.base.trans (hw.below (by omega) h.base.size), h.ord, box_in h.x1 hw (by omega), box_in h.x3 hw (by omega), h.o1.within hw (by omega), ho, h.o3.within hw (by omega)⟩
theorem UFnChk.mark3 (h : UFnChk w2 E1 v1 R1 v2 R2 E3 v3 R3 l1 h1 b1 l2 h2 l3 h3 b3 W) (hw : Within l3 h3 W W') {R : List (List Int)} (ho : Has W' l3 h3 v3 R) : UFnChk w2 E1 v1 R1 v2 R2 E3 v3 R l1 h1 b1 l2 h2 l3 h3 b3 W' := by
  obtain ⟨a0, a1, a2, a3, a4, a5, a6, a7⟩ := h.ord
  exact ⟨h.base.trans (hw.below (by omega) h.base.size), h.ord, box_in h.x1 hw (by omega), box_in h.x3 hw (by omega), h.o1.within hw (by omega), h.o2.within hw (by omega), ho⟩
end

set_option maxRecDepth 100000 in
set_option maxHeartbeats 8000000 in
theorem fnChk_walk (p : Int) (s1 : Sy) (A1 : Option Addr) (c1 : Nat) (xs2 : List Stp) (A2 : Option Addr) (c2 : Nat) (s3 : Sy) (A3 : Option Addr) (c3 : Nat) (w : World) (hP : Primes w) (hR1 : RowsAt w A1 s1.rows) (hm1 : s1.rows.length ≤ maxLen) (hms1 : ∀ r ∈ s1.rows, r.length ≤ maxLen) (hR2 : StepsAt w A2 xs2) (hm2 : xs2.length ≤ maxLen) (hms2 : ∀ r ∈ xs2, r.row.length ≤ maxLen) (hR3 : RowsAt w A3 s3.rows) (hm3 : s3.rows.length ≤ maxLen) (hms3 : ∀ r ∈ s3.rows, r.length ≤ maxLen) :
  Calls Tryz.prog 7 #[.int .i64 p, .agg #[.int .i64 s1.v, .int .i64 s1.h, .slice A1 s1.rows.length c1], .slice A2 xs2.length c2, .agg #[.int .i64 s3.v, .int .i64 s3.h, .slice A3 s3.rows.length c3]] w fun e w' => e = .returned (.bool true) ∧ Below w.heap.size w w' := by
  have HM1 := Lib.hid hm1; have HMS1 := Lib.hid hms1
  have HM2 := Lib.hid hm2; have HMS2 := Lib.hid hms2
  have HM3 := Lib.hid hm3; have HMS3 := Lib.hid hms3
  have hB : Below w.heap.size w ((w.alloc (.cells #[.int .i64 s1.v, .int .i64 s1.h, .slice A1 s1.rows.length c1] 24)).alloc (.cells #[.int .i64 s3.v, .int .i64 s3.h, .slice A3 s3.rows.length c3] 24)) := ((Below.refl w.heap.size w).alloc (by simp) _).alloc (by simp) _
  have HB0 := Lib.hid hB
  have HQ0_1 := Lib.hid (show ((w.alloc (.cells #[.int .i64 s1.v, .int .i64 s1.h, .slice A1 s1.rows.length c1] 24)).alloc (.cells #[.int .i64 s3.v, .int .i64 s3.h, .slice A3 s3.rows.length c3] 24)).heap[w.heap.size]? = some (.cells #[.int .i64 s1.v, .int .i64 s1.h, .slice A1 s1.rows.length c1] 24 (0, 0)) from (heap_past _ _ (by simp)).trans (heap_at _ _ rfl))
  have HQ0_3 := Lib.hid (show ((w.alloc (.cells #[.int .i64 s1.v, .int .i64 s1.h, .slice A1 s1.rows.length c1] 24)).alloc (.cells #[.int .i64 s3.v, .int .i64 s3.h, .slice A3 s3.rows.length c3] 24)).heap[w.heap.size + 1]? = some (.cells #[.int .i64 s3.v, .int .i64 s3.h, .slice A3 s3.rows.length c3] 24 (0, 0)) from heap_at _ _ (by simp))
  have HR1 := Lib.hid hR1
  have HR2 := Lib.hid hR2
  have HR3 := Lib.hid hR3
  have HP := Lib.hid hP
  clear hB hP hR1 hm1 hms1 hR2 hm2 hms2 hR3 hm3 hms3
  go_enter Tryz.func7, Tryz.ntmps7
  go_wp2_with (first | (go_at_call 12; refine (szSystem_any s3.v s3.h A3 c3 s3.rows _ _ (HR3.out.ext HB2.out) HM3.out HMS3.out (by omega) (by omega)).mono ?_; rintro e w3 ⟨q3, rfl, hq, hb⟩; have HB3 := Lib.hid (below_ext HB2.out hb); have HQ3_1 := Lib.hid (box_at HQ2_1.out hb); have HQ3_3 := Lib.hid (box_at HQ2_3.out hb); have hq2_3 := LeftRows.le2 hq hq2_2; have HQQ3 := Lib.hid hq; clear hb hq x10 x11 x12 x30 x31 x32; obtain ⟨x10, x11, x12⟩ := cells_3 HQ3_1.out; obtain ⟨x30, x31, x32⟩ := cells_3 HQ3_3.out) | (go_at_call 23; refine (szStepS_any A2 c2 xs2 _ _ (HR2.out.ext HB1.out) HM2.out HMS2.out (by omega) (by omega)).mono ?_; rintro e w2 ⟨q2, rfl, hq, hb⟩; have HB2 := Lib.hid (below_ext HB1.out hb); have HQ2_1 := Lib.hid (box_at HQ1_1.out hb); have HQ2_3 := Lib.hid (box_at HQ1_3.out hb); have hq2_2 := LeftSteps.le2 hq hq2_1; have HQQ2 := Lib.hid hq; clear hb hq x10 x11 x12 x30 x31 x32; obtain ⟨x10, x11, x12⟩ := cells_3 HQ2_1.out; obtain ⟨x30, x31, x32⟩ := cells_3 HQ2_3.out) | (go_at_call 12; refine (szSystem_any s1.v s1.h A1 c1 s1.rows 1048576 _ (HR1.out.ext HB0.out) HM1.out HMS1.out (by omega) (by omega)).mono ?_; rintro e w1 ⟨q1, rfl, hq, hb⟩; have HB1 := Lib.hid (below_ext HB0.out hb); have HQ1_1 := Lib.hid (box_at HQ0_1.out hb); have HQ1_3 := Lib.hid (box_at HQ0_3.out hb); have hq2_1 := LeftRows.le2 hq (Int.le_refl _); have HQQ1 := Lib.hid hq; clear hb hq; obtain ⟨x10, x11, x12⟩ := cells_3 HQ1_1.out; obtain ⟨x30, x31, x32⟩ := cells_3 HQ1_3.out))
  · go_ret
    exact ⟨rfl, HB1.out⟩
  · go_ret
    exact ⟨rfl, HB2.out⟩
  · go_ret
    exact ⟨rfl, HB3.out⟩
  have hl1 : s1.rows.length ≤ 1048576 ∧ ∀ r ∈ s1.rows, r.length ≤ 1048576 := by
    rcases HQQ1.out with h | ⟨_, _, h1, h2⟩
    · omega
    · exact ⟨by omega, fun r hr => by have := h2 r hr; omega⟩
  have HL1 := Lib.hid hl1.1; have HLS1 := Lib.hid hl1.2; have HRZ1 := Lib.hid (HR1.out.ext HB3.out)
  have hl2 : xs2.length ≤ 1048576 ∧ ∀ r ∈ xs2, r.row.length ≤ 1048576 := by
    rcases HQQ2.out with h | ⟨_, _, h1, h2⟩
    · omega
    · exact ⟨by omega, fun r hr => by have := h2 r hr; omega⟩
  have HL2 := Lib.hid hl2.1; have HLS2 := Lib.hid hl2.2; have HRZ2 := Lib.hid (HR2.out.ext HB3.out)
  have hl3 : s3.rows.length ≤ 1048576 ∧ ∀ r ∈ s3.rows, r.length ≤ 1048576 := by
    rcases HQQ3.out with h | ⟨_, _, h1, h2⟩
    · omega
    · exact ⟨by omega, fun r hr => by have := h2 r hr; omega⟩
  have HL3 := Lib.hid hl3.1; have HLS3 := Lib.hid hl3.2; have HRZ3 := Lib.hid (HR3.out.ext HB3.out)
  have HPZ := Lib.hid (HP.out.ext HB3.out)
  obtain ⟨y0, hy0⟩ : ∃ y, y = ckR p s1 xs2 s3 := ⟨_, rfl⟩
  obtain ⟨y1, hy1⟩ : ∃ y, y = ckOk p s1 xs2 s3 := ⟨_, rfl⟩
  have SPEC : ∀ (B1 : Option Addr) (d1 : Nat) (B2 : Option Addr) (d2 : Nat) (B3 : Option Addr) (d3 : Nat) (W : World) (g1 : RowsAt W B1 s1.rows) (g2 : StepsAt W B2 xs2) (g3 : RowsAt W B3 s3.rows), Calls Tryz.prog 35 #[.int .i64 p, .agg #[.int .i64 s1.v, .int .i64 s1.h, .slice B1 s1.rows.length d1], .slice B2 xs2.length d2, .agg #[.int .i64 s3.v, .int .i64 s3.h, .slice B3 s3.rows.length d3]] W (fun e w' => e = .returned (.tuple #[.bool y0, .bool y1]) ∧ Below W.heap.size W w') := fun B1 d1 B2 d2 B3 d3 W g1 g2 g3 => by
    rw [hy0, hy1]; exact specCheckC p s1 B1 d1 xs2 B2 d2 s3 B3 d3 W g1 hl1.1 hl1.2 g2 hl2.1 hl2.2 g3 hl3.1 hl3.2
  have IMPL : ∀ (B1 : Option Addr) (d1 : Nat) (B2 : Option Addr) (d2 : Nat) (B3 : Option Addr) (d3 : Nat) (W : World) (g0 : Below w3.heap.size w3 W) (g1 : RowsAt W B1 s1.rows) (g2 : StepsAt W B2 xs2) (g3 : RowsAt W B3 s3.rows), Calls Tryz.prog 36 #[.int .i64 p, .agg #[.int .i64 s1.v, .int .i64 s1.h, .slice B1 s1.rows.length d1], .slice B2 xs2.length d2, .agg #[.int .i64 s3.v, .int .i64 s3.h, .slice B3 s3.rows.length d3]] W (fun e w' => e = .returned (.tuple #[.bool y0, .bool y1]) ∧ Below W.heap.size W w') := fun B1 d1 B2 d2 B3 d3 W g0 g1 g2 g3 => by
    rw [hy0, hy1]; exact implCheckC p s1 B1 d1 xs2 B2 d2 s3 B3 d3 W (HPZ.out.ext g0) g1 hl1.1 hl1.2 g2 hl2.1 hl2.2 g3 hl3.1 hl3.2
  have HSPEC := Lib.hid SPEC; have HIMPL := Lib.hid IMPL
  clear SPEC IMPL hy0 hy1 HP hl1 HR1 HM1 HMS1 HQQ1 HB0 hl2 HR2 HM2 HMS2 HQQ2 HB1 hl3 HR3 HM3 HMS3 HQQ3 HB2 HQ0_1 HQ0_3 HQ1_1 HQ1_3 HQ2_1 HQ2_3
  clear x10 x11 x12 x30 x31 x32
  have HSBs := Lib.hid (show ∀ W, Below w3.heap.size w3 W → W.cell? ⟨w.heap.size, 0, none⟩ = some (.int .i64 s1.v) ∧ W.cell? ⟨w.heap.size, 1, none⟩ = some (.int .i64 s1.h) ∧ W.cell? ⟨w.heap.size, 2, none⟩ = some (.slice A1 s1.rows.length c1) ∧ W.cell? ⟨w.heap.size + 1, 0, none⟩ = some (.int .i64 s3.v) ∧ W.cell? ⟨w.heap.size + 1, 1, none⟩ = some (.int .i64 s3.h) ∧ W.cell? ⟨w.heap.size + 1, 2, none⟩ = some (.slice A3 s3.rows.length c3) from fun W hW => by
    obtain ⟨a10, a11, a12⟩ := cells_3 (box_at HQ3_1.out hW)
    obtain ⟨a30, a31, a32⟩ := cells_3 (box_at HQ3_3.out hW)
    exact ⟨a10, a11, a12, a30, a31, a32⟩)
  go_region_held3 (fun W => W.cell? ⟨w.heap.size, 0, none⟩ = some (.int .i64 s1.v) ∧ W.cell? ⟨w.heap.size, 1, none⟩ = some (.int .i64 s1.h) ∧ W.cell? ⟨w.heap.size, 2, none⟩ = some (.slice A1 s1.rows.length c1) ∧ W.cell? ⟨w.heap.size + 1, 0, none⟩ = some (.int .i64 s3.v) ∧ W.cell? ⟨w.heap.size + 1, 1, none⟩ = some (.int .i64 s3.h) ∧ W.cell? ⟨w.heap.size + 1, 2, none⟩ = some (.slice A3 s3.rows.length c3)) (first | exact HSBs.out _ (Below.refl _ _).drew | exact HSBs.out _ HXs1.out | exact HSBs.out _ HXs2.out | exact HSBs.out _ HXs3.out | exact HSBs.out _ HVs.out)
    (first | (go_at_call 35; refine (HSPEC.out Bs1 ds1 Bs2 ds2 Bs3 ds3 _ HYs3_1.out HYs3_2.out HYs3_3.out).mono ?_; rintro e wrs ⟨rfl, hb⟩; have HVs := Lib.hid (below_ext HXs3.out hb); clear hb) | (go_at_call 15; refine (toSystem_any s3.v s3.h A3 c3 s3.rows _ (HRZ3.out.ext (HXs2.out)) HL3.out HLS3.out).mono ?_; rintro e wxs3 ⟨u, rfl, hu, hb⟩; obtain ⟨Bs3, ds3, rfl, hr, _⟩ := hu.view; have HXs3 := Lib.hid (below_ext (HXs2.out) hb); have HYs3_3 := Lib.hid hr; have HYs3_1 := Lib.hid (HYs2_1.out.ext hb); have HYs3_2 := Lib.hid (HYs2_2.out.ext hb); clear hu hb hr) | (go_at_call 25; refine (toStepS_any A2 c2 xs2 _ (HRZ2.out.ext (HXs1.out)) HL2.out HLS2.out).mono ?_; rintro e wxs2 ⟨u, rfl, hu, hb⟩; obtain ⟨Bs2, ds2, rfl, hr, _⟩ := hu.view; have HXs2 := Lib.hid (below_ext (HXs1.out) hb); have HYs2_2 := Lib.hid hr; have HYs2_1 := Lib.hid (HYs1_1.out.ext hb); clear hu hb hr) | (go_at_call 15; refine (toSystem_any s1.v s1.h A1 c1 s1.rows _ (HRZ1.out.ext ((Below.refl _ _).drew)) HL1.out HLS1.out).mono ?_; rintro e wxs1 ⟨u, rfl, hu, hb⟩; obtain ⟨Bs1, ds1, rfl, hr, _⟩ := hu.view; have HXs1 := Lib.hid (below_ext ((Below.refl _ _).drew) hb); have HYs1_1 := Lib.hid hr; clear hu hb hr))
  clear HSBs
  obtain ⟨x10, x11, x12⟩ := cells_3 (box_at HQ3_1.out (HVs.out))
  obtain ⟨x30, x31, x32⟩ := cells_3 (box_at HQ3_3.out (HVs.out))
  go_upto_region 13 with (go_at_call 15; refine (toSystem_any s1.v s1.h A1 c1 s1.rows _ (HRZ1.out.ext (HVs.out)) HL1.out HLS1.out).mono ?_; rintro e wx1 ⟨u, rfl, hu, hb⟩; obtain ⟨B1, d1, rfl, hr, _⟩ := hu.view; have HXX1 := Lib.hid hb; have HRR1 := Lib.hid hr; have HOO1 := Lib.hid (Has.of hu); clear hu hb hr)
  have HE1 := Lib.hid (below_ext (HVs.out) HXX1.out)
  obtain ⟨wbx1, hWb⟩ : ∃ wb, wb = wx1.alloc (.cells #[.int .i64 s1.v, .int .i64 s1.h, .slice B1 s1.rows.length d1] 30) := ⟨_, rfl⟩
  rw [← hWb]
  have hb : Below wx1.heap.size wx1 wbx1 := by rw [hWb]; exact (Below.refl _ _).alloc (Nat.le_refl _) _
  have HBXx1 := Lib.hid (show wbx1.heap[wx1.heap.size]? = some (.cells #[.int .i64 s1.v, .int .i64 s1.h, .slice B1 s1.rows.length d1] 30 (0, 0)) by rw [hWb]; exact heap_at _ _ rfl)
  have HBSx1 := Lib.hid (show wbx1.heap.size = wx1.heap.size + 1 by rw [hWb]; simp)
  have HBBx1 := Lib.hid hb
  clear hb hWb
  have HF1 := Lib.hid (below_ext HE1.out HBBx1.out)
  clear x10 x11 x12 x30 x31 x32
  obtain ⟨x10, x11, x12⟩ := cells_3 (box_at HQ3_1.out (HF1.out))
  obtain ⟨x30, x31, x32⟩ := cells_3 (box_at HQ3_3.out (HF1.out))
  go_upto_region 14 with (go_at_call 25; refine (toStepS_any A2 c2 xs2 _ (HRZ2.out.ext (HF1.out)) HL2.out HLS2.out).mono ?_; rintro e wx2 ⟨u, rfl, hu, hb⟩; obtain ⟨B2, d2, rfl, hr, _⟩ := hu.view; have HXX2 := Lib.hid hb; have HRR2 := Lib.hid hr; have HOO2 := Lib.hid (HasS.of hu); clear hu hb hr)
  have HE2 := Lib.hid (below_ext (HF1.out) HXX2.out)
  clear x10 x11 x12 x30 x31 x32
  obtain ⟨x10, x11, x12⟩ := cells_3 (box_at HQ3_1.out (HE2.out))
  obtain ⟨x30, x31, x32⟩ := cells_3 (box_at HQ3_3.out (HE2.out))
  go_upto_region 15 with (go_at_call 15; refine (toSystem_any s3.v s3.h A3 c3 s3.rows _ (HRZ3.out.ext (HE2.out)) HL3.out HLS3.out).mono ?_; rintro e wx3 ⟨u, rfl, hu, hb⟩; obtain ⟨B3, d3, rfl, hr, _⟩ := hu.view; have HXX3 := Lib.hid hb; have HRR3 := Lib.hid hr; have HOO3 := Lib.hid (Has.of hu); clear hu hb hr)
  have HE3 := Lib.hid (below_ext (HE2.out) HXX3.out)
  obtain ⟨wbx3, hWb⟩ : ∃ wb, wb = wx3.alloc (.cells #[.int .i64 s3.v, .int .i64 s3.h, .slice B3 s3.rows.length d3] 30) := ⟨_, rfl⟩
  rw [← hWb]
  have hb : Below wx3.heap.size wx3 wbx3 := by rw [hWb]; exact (Below.refl _ _).alloc (Nat.le_refl _) _
  have HBXx3 := Lib.hid (show wbx3.heap[wx3.heap.size]? = some (.cells #[.int .i64 s3.v, .int .i64 s3.h, .slice B3 s3.rows.length d3] 30 (0, 0)) by rw [hWb]; exact heap_at _ _ rfl)
  have HBSx3 := Lib.hid (show wbx3.heap.size = wx3.heap.size + 1 by rw [hWb]; simp)
  have HBBx3 := Lib.hid hb
  clear hb hWb
  have HF3 := Lib.hid (below_ext HE3.out HBBx3.out)
  clear x10 x11 x12 x30 x31 x32
  obtain ⟨x10, x11, x12⟩ := cells_3 (box_at HBXx1.out (below_ext (below_ext (HXX2.out) HXX3.out) HBBx3.out))
  obtain ⟨x30, x31, x32⟩ := cells_3 (box_at HBXx3.out (Below.refl _ _))
  go_upto_region 18 with (go_at_call 36; refine (HIMPL.out B1 d1 B2 d2 B3 d3 _ (HF3.out) (HRR1.out.ext (below_ext (below_ext (below_ext (HBBx1.out) HXX2.out) HXX3.out) HBBx3.out)) (HRR2.out.ext (below_ext (HXX3.out) HBBx3.out)) (HRR3.out.ext (HBBx3.out))).mono ?_; rintro e wrg ⟨rfl, hb⟩; have HXg := Lib.hid hb; have HVg := Lib.hid (below_ext (HF3.out) hb); clear hb)
  have hsz : True := trivial
  have UU : UFnChk w3 #[.int .i64 s1.v, .int .i64 s1.h, .slice B1 s1.rows.length d1] (.slice B1 s1.rows.length d1) s1.rows (.slice B2 xs2.length d2) xs2 #[.int .i64 s3.v, .int .i64 s3.h, .slice B3 s3.rows.length d3] (.slice B3 s3.rows.length d3) s3.rows (wrs.heap.size) (wx1.heap.size) (wx1.heap.size) (wbx1.heap.size) (wx2.heap.size) (wx2.heap.size) (wx3.heap.size) (wx3.heap.size) wrg := by
    exact ⟨HVg.out, ⟨HVs.out.size, HXX1.out.size, Nat.le_refl _, (by have := HBSx1.out; omega), HXX2.out.size, Nat.le_refl _, HXX3.out.size, Nat.le_refl _⟩, box_at HBXx1.out (below_ext (below_ext (below_ext (HXX2.out) HXX3.out) HBBx3.out) HXg.out), box_at HBXx3.out (HXg.out), HOO1.out.ext (below_ext (below_ext (below_ext (below_ext (HBBx1.out) HXX2.out) HXX3.out) HBBx3.out) HXg.out), HOO2.out.ext (below_ext (below_ext (HXX3.out) HBBx3.out) HXg.out), HOO3.out.ext (below_ext (HBBx3.out) HXg.out)⟩
  have HU0 := Lib.hid UU
  clear UU HVs HXg HVg hsz HXX1 HXX2 HXX3 HRR1 HRR2 HRR3 HOO1 HOO2 HOO3 HE1 HE2 HE3 HXs1 HXs2 HXs3 HYs1_1 HYs2_1 HYs2_2 HYs3_1 HYs3_2 HYs3_3 HF1 HBXx1 HBSx1 HBBx1 HF3 HBXx3 HBSx3 HBBx3
  clear x10 x11 x12 x30 x31 x32
  obtain ⟨wq, hwq⟩ : ∃ wq, wq = wrg := ⟨_, rfl⟩
  rw [← hwq]; rw [← hwq] at HU0
  have HU1 := HU0; clear hwq HU0
  have HUd1 := Lib.hid (HU1.out.ext (Below.refl _ _).drew)
  have HSS1 := Lib.hid (show ∀ W, Below wq.heap.size wq W → W.cell? ⟨w.heap.size, 0, none⟩ = some (.int .i64 s1.v) ∧ W.cell? ⟨w.heap.size, 1, none⟩ = some (.int .i64 s1.h) ∧ W.cell? ⟨w.heap.size, 2, none⟩ = some (.slice A1 s1.rows.length c1) ∧ W.cell? ⟨wx1.heap.size, 0, none⟩ = some (.int .i64 s1.v) ∧ W.cell? ⟨wx1.heap.size, 1, none⟩ = some (.int .i64 s1.h) ∧ W.cell? ⟨wx1.heap.size, 2, none⟩ = some (.slice B1 s1.rows.length d1) from fun W hW => by
    obtain ⟨a0, a1, a2⟩ := cells_3 (box_at HQ3_1.out (below_ext HU1.out.base hW))
    obtain ⟨b0, b1, b2⟩ := cells_3 (box_at HU1.out.x1 hW)
    exact ⟨a0, a1, a2, b0, b1, b2⟩)
  go_region_held3 (fun W => W.cell? ⟨w.heap.size, 0, none⟩ = some (.int .i64 s1.v) ∧ W.cell? ⟨w.heap.size, 1, none⟩ = some (.int .i64 s1.h) ∧ W.cell? ⟨w.heap.size, 2, none⟩ = some (.slice A1 s1.rows.length c1) ∧ W.cell? ⟨wx1.heap.size, 0, none⟩ = some (.int .i64 s1.v) ∧ W.cell? ⟨wx1.heap.size, 1, none⟩ = some (.int .i64 s1.h) ∧ W.cell? ⟨wx1.heap.size, 2, none⟩ = some (.slice B1 s1.rows.length d1)) (first | exact HSS1.out _ (Below.refl _ _).drew | exact HSS1.out _ HK1.out | exact HSS1.out _ HKK1.out)
    (first | (go_at_call 15; refine (toSystem_any s1.v s1.h A1 c1 s1.rows _ (HRZ1.out.ext (HUd1.out.base)) HL1.out HLS1.out).mono ?_; rintro e wqa ⟨u, rfl, hu, hb⟩; obtain ⟨Bq, dq, rfl, hrq, _⟩ := hu.view; have HK1 := Lib.hid ((Below.refl wq.heap.size wq).drew.trans hb); have HU1a := Lib.hid (HUd1.out.ext hb); have HRq := Lib.hid hrq; clear hu hb hrq) | (go_at_call 18; refine (eqSystem_same s1.v s1.h B1 Bq d1 dq s1.rows _ (rows_at HU1a.out.o1.own) HRq.out (len_max HL1.out) (fun r hr => len_max (HLS1.out r hr))).mono ?_; rintro e wqb ⟨rfl, hb⟩; have HKK1 := Lib.hid (below_ext HK1.out hb); have HU1b := Lib.hid (HU1a.out.ext hb); clear hb))
  go_upto_region 20 with (fail)
  obtain ⟨wq, hwq⟩ : ∃ wq, wq = wqb := ⟨_, rfl⟩
  rw [← hwq]; rw [← hwq] at HU1b
  clear hwq HU1a HK1 HKK1 HRq HSS1 HUd1 HU1
  go_upto_region 22 with (first | (go_at_call 25; refine (toStepS_any A2 c2 xs2 _ (HRZ2.out.ext (HU1b.out.base)) HL2.out HLS2.out).mono ?_; rintro e wqa ⟨u, rfl, hu, hb⟩; obtain ⟨Bq, dq, rfl, hrq, _⟩ := hu.view; have HU2a := Lib.hid (HU1b.out.ext hb); have HRq := Lib.hid hrq; clear hu hb hrq) | (go_at_call 27; refine (eqStepS_same B2 Bq d2 dq xs2 _ (steps_at HU2a.out.o2.own) HRq.out HL2.out HLS2.out).mono ?_; rintro e wq ⟨rfl, hb⟩; have HU2b := Lib.hid (HU2a.out.ext hb); clear hb))
  clear HU2a HRq HU1b
  have HUd3 := Lib.hid (HU2b.out.ext (Below.refl _ _).drew)
  have HSS3 := Lib.hid (show ∀ W, Below wq.heap.size wq W → W.cell? ⟨w.heap.size + 1, 0, none⟩ = some (.int .i64 s3.v) ∧ W.cell? ⟨w.heap.size + 1, 1, none⟩ = some (.int .i64 s3.h) ∧ W.cell? ⟨w.heap.size + 1, 2, none⟩ = some (.slice A3 s3.rows.length c3) ∧ W.cell? ⟨wx3.heap.size, 0, none⟩ = some (.int .i64 s3.v) ∧ W.cell? ⟨wx3.heap.size, 1, none⟩ = some (.int .i64 s3.h) ∧ W.cell? ⟨wx3.heap.size, 2, none⟩ = some (.slice B3 s3.rows.length d3) from fun W hW => by
    obtain ⟨a0, a1, a2⟩ := cells_3 (box_at HQ3_3.out (below_ext HU2b.out.base hW))
    obtain ⟨b0, b1, b2⟩ := cells_3 (box_at HU2b.out.x3 hW)
    exact ⟨a0, a1, a2, b0, b1, b2⟩)
  go_region_held3 (fun W => W.cell? ⟨w.heap.size + 1, 0, none⟩ = some (.int .i64 s3.v) ∧ W.cell? ⟨w.heap.size + 1, 1, none⟩ = some (.int .i64 s3.h) ∧ W.cell? ⟨w.heap.size + 1, 2, none⟩ = some (.slice A3 s3.rows.length c3) ∧ W.cell? ⟨wx3.heap.size, 0, none⟩ = some (.int .i64 s3.v) ∧ W.cell? ⟨wx3.heap.size, 1, none⟩ = some (.int .i64 s3.h) ∧ W.cell? ⟨wx3.heap.size, 2, none⟩ = some (.slice B3 s3.rows.length d3)) (first | exact HSS3.out _ (Below.refl _ _).drew | exact HSS3.out _ HK3.out | exact HSS3.out _ HKK3.out)
    (first | (go_at_call 15; refine (toSystem_any s3.v s3.h A3 c3 s3.rows _ (HRZ3.out.ext (HUd3.out.base)) HL3.out HLS3.out).mono ?_; rintro e wqa ⟨u, rfl, hu, hb⟩; obtain ⟨Bq, dq, rfl, hrq, _⟩ := hu.view; have HK3 := Lib.hid ((Below.refl wq.heap.size wq).drew.trans hb); have HU3a := Lib.hid (HUd3.out.ext hb); have HRq := Lib.hid hrq; clear hu hb hrq) | (go_at_call 18; refine (eqSystem_same s3.v s3.h B3 Bq d3 dq s3.rows _ (rows_at HU3a.out.o3.own) HRq.out (len_max HL3.out) (fun r hr => len_max (HLS3.out r hr))).mono ?_; rintro e wqb ⟨rfl, hb⟩; have HKK3 := Lib.hid (below_ext HK3.out hb); have HU3b := Lib.hid (HU3a.out.ext hb); clear hb))
  go_upto_region 24 with (fail)
  obtain ⟨wq, hwq⟩ : ∃ wq, wq = wqb := ⟨_, rfl⟩
  rw [← hwq]; rw [← hwq] at HU3b
  clear hwq HU3a HK3 HKK3 HRq HSS3 HUd3 HU2b
  go_wp2
  go_ret
  exact ⟨rfl, below_ext HB3.out HU3b.out.base⟩
end Go.Proofs.YtjdbfokbgmbphaaGreatDoor
