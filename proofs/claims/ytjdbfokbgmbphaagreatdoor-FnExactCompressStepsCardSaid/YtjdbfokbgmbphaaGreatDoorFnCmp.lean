/- laws.FnExactCompressSteps returns true for all arguments. Conditions: lengths of at most maxLen; the table of primes is laid. -/
import Derived.Test.YtjdbfokbgmbphaaGreatDoorPk40
import Derived.Test.YtjdbfokbgmbphaaGreatDoorPk28
import Derived.Deep.Cut
namespace Go.Proofs.YtjdbfokbgmbphaaGreatDoor
set_option linter.unusedVariables false
set_option linter.unusedSimpArgs false
open Go.RowKit

/-- What the law keeps in hand while arguments and answers are marked: each in blocks of its own. -/
structure UFnCmp (w2 : World) (v0 : Value) (R0 : List Stp) (E1 : Array Value) (v1 : Value) (R1 : List (List Int)) (v2 : Value) (R2 : List Stp) (v9 : Value) (R9 : List Stp) (l0 h0 : Nat) (l1 h1 b1 : Nat) (l2 h2 : Nat) (l9 h9 : Nat) (W : World) : Prop where
  base : Below w2.heap.size w2 W
  ord : w2.heap.size ≤ l0 ∧ l0 ≤ h0 ∧ h0 ≤ l1 ∧ l1 ≤ h1 ∧ h1 ≤ b1 ∧ b1 + 1 ≤ l2 ∧ l2 ≤ h2 ∧ h2 ≤ l9 ∧ l9 ≤ h9
  x1 : W.heap[b1]? = some (.cells E1 30 (0, 0))
  o0 : HasS W l0 h0 v0 R0
  o1 : Has W l1 h1 v1 R1
  o2 : HasS W l2 h2 v2 R2
  o9 : HasS W l9 h9 v9 R9
section
variable {w2 : World} {v0 : Value} {R0 : List Stp} {E1 : Array Value} {v1 : Value} {R1 : List (List Int)} {v2 : Value} {R2 : List Stp} {v9 : Value} {R9 : List Stp} {l0 h0 : Nat} {l1 h1 b1 : Nat} {l2 h2 : Nat} {l9 h9 : Nat} {W W' : World}
theorem UFnCmp.ext (h : UFnCmp w2 v0 R0 E1 v1 R1 v2 R2 v9 R9 l0 h0 l1 h1 b1 l2 h2 l9 h9 W) (hb : Below W.heap.size W W') : UFnCmp w2 v0 R0 E1 v1 R1 v2 R2 v9 R9 l0 h0 l1 h1 b1 l2 h2 l9 h9 W' :=
  ⟨below_ext h.base hb, h.ord, box_at h.x1 hb, h.o0.ext hb, h.o1.ext hb, h.o2.ext hb, h.o9.ext hb⟩
theorem UFnCmp.mark1 (h : UFnCmp w2 v0 R0 E1 v1 R1 v2 R2 v9 R9 l0 h0 l1 h1 b1 l2 h2 l9 h9 W) (hw : Within l1 h1 W W') {R : List (List Int)} (ho : Has W' l1 h1 v1 R) : UFnCmp w2 v0 R0 E1 v1 R v2 R2 v9 R9 l0 h0 l1 h1 b1 l2 h2 l9 h9 W' := by
  obtain ⟨a0, a1, a2, a3, a4, a5, a6, a7, a8⟩ := h.ord
  exact ⟨h.base.trans (hw.below (by omega) h.base.size), h.ord, box_in h.x1 hw (by omega), h.o0.within hw (by omega), ho, h.o2.within hw (by omega), h.o9.within hw (by omega)⟩
theorem UFnCmp.mark2 (h : UFnCmp w2 v0 R0 E1 v1 R1 v2 R2 v9 R9 l0 h0 l1 h1 b1 l2 h2 l9 h9 W) (hw : Within l2 h2 W W') {R : List Stp} (ho : HasS W' l2 h2 v2 R) : UFnCmp w2 v0 R0 E1 v1 R1 v2 R v9 R9 l0 h0 l1 h1 b1 l2 h2 l9 h9 W' := by
  obtain ⟨a0, a1, a2, a3, a4, a5, a6, a7, a8⟩ := h.ord
  exact ⟨h.base.trans (hw.below (by omega) h.base.size), h.ord, box_in h.x1 hw (by omega), h.o0.within hw (by omega), h.o1.within hw (by omega), ho, h.o9.within hw (by omega)⟩
theorem UFnCmp.mark9 (h : UFnCmp w2 v0 R0 E1 v1 R1 v2 R2 v9 R9 l0 h0 l1 h1 b1 l2 h2 l9 h9 W) (hw : Within l9 h9 W W') {R : List Stp} (ho : HasS W' l9 h9 v9 R) : UFnCmp w2 v0 R0 E1 v1 R1 v2 R2 v9 R l0 h0 l1 h1 b1 l2 h2 l9 h9 W' := by
  obtain ⟨a0, a1, a2, a3, a4, a5, a6, a7, a8⟩ := h.ord
  exact ⟨h.base.trans (hw.below (by omega) h.base.size), h.ord, box_in h.x1 hw (by omega), h.o0.within hw (by omega), h.o1.within hw (by omega), h.o2.within hw (by omega), ho⟩
end

set_option maxRecDepth 100000 in
set_option maxHeartbeats 8000000 in
theorem fnCmp_walk (p : Int) (s1 : Sy) (A1 : Option Addr) (c1 : Nat) (xs2 : List Stp) (A2 : Option Addr) (c2 : Nat) (w : World) (hP : Primes w) (hR1 : RowsAt w A1 s1.rows) (hm1 : s1.rows.length ≤ maxLen) (hms1 : ∀ r ∈ s1.rows, r.length ≤ maxLen) (hR2 : StepsAt w A2 xs2) (hm2 : xs2.length ≤ maxLen) (hms2 : ∀ r ∈ xs2, r.row.length ≤ maxLen) :
  Calls Tryz.prog 10 #[.int .i64 p, .agg #[.int .i64 s1.v, .int .i64 s1.h, .slice A1 s1.rows.length c1], .slice A2 xs2.length c2] w fun e w' => e = .returned (.bool true) ∧ Below w.heap.size w w' := by
  have HM1 := Lib.hid hm1; have HMS1 := Lib.hid hms1
  have HM2 := Lib.hid hm2; have HMS2 := Lib.hid hms2
  have hB : Below w.heap.size w (w.alloc (.cells #[.int .i64 s1.v, .int .i64 s1.h, .slice A1 s1.rows.length c1] 24)) := (Below.refl w.heap.size w).alloc (by simp) _
  have HB0 := Lib.hid hB
  have HQ0_1 := Lib.hid (show (w.alloc (.cells #[.int .i64 s1.v, .int .i64 s1.h, .slice A1 s1.rows.length c1] 24)).heap[w.heap.size]? = some (.cells #[.int .i64 s1.v, .int .i64 s1.h, .slice A1 s1.rows.length c1] 24 (0, 0)) from heap_at _ _ (by simp))
  have HR1 := Lib.hid hR1
  have HR2 := Lib.hid hR2
  have HP := Lib.hid hP
  clear hB hP hR1 hm1 hms1 hR2 hm2 hms2
  go_enter Tryz.func10, Tryz.ntmps10
  go_wp2_with (first | (go_at_call 23; refine (szStepS_any A2 c2 xs2 _ _ (HR2.out.ext HB1.out) HM2.out HMS2.out (by omega) (by omega)).mono ?_; rintro e w2 ⟨q2, rfl, hq, hb⟩; have HB2 := Lib.hid (below_ext HB1.out hb); have HQ2_1 := Lib.hid (box_at HQ1_1.out hb); have hq2_2 := LeftSteps.le2 hq hq2_1; have HQQ2 := Lib.hid hq; clear hb hq x10 x11 x12; obtain ⟨x10, x11, x12⟩ := cells_3 HQ2_1.out) | (go_at_call 12; refine (szSystem_any s1.v s1.h A1 c1 s1.rows 1048576 _ (HR1.out.ext HB0.out) HM1.out HMS1.out (by omega) (by omega)).mono ?_; rintro e w1 ⟨q1, rfl, hq, hb⟩; have HB1 := Lib.hid (below_ext HB0.out hb); have HQ1_1 := Lib.hid (box_at HQ0_1.out hb); have hq2_1 := LeftRows.le2 hq (Int.le_refl _); have HQQ1 := Lib.hid hq; clear hb hq; obtain ⟨x10, x11, x12⟩ := cells_3 HQ1_1.out))
  · go_ret
    exact ⟨rfl, HB1.out⟩
  · go_ret
    exact ⟨rfl, HB2.out⟩
  have hl1 : s1.rows.length ≤ 1048576 ∧ ∀ r ∈ s1.rows, r.length ≤ 1048576 := by
    rcases HQQ1.out with h | ⟨_, _, h1, h2⟩
    · omega
    · exact ⟨by omega, fun r hr => by have := h2 r hr; omega⟩
  have HL1 := Lib.hid hl1.1; have HLS1 := Lib.hid hl1.2; have HRZ1 := Lib.hid (HR1.out.ext HB2.out)
  have hl2 : xs2.length ≤ 1048576 ∧ ∀ r ∈ xs2, r.row.length ≤ 1048576 := by
    rcases HQQ2.out with h | ⟨_, _, h1, h2⟩
    · omega
    · exact ⟨by omega, fun r hr => by have := h2 r hr; omega⟩
  have HL2 := Lib.hid hl2.1; have HLS2 := Lib.hid hl2.2; have HRZ2 := Lib.hid (HR2.out.ext HB2.out)
  have HPZ := Lib.hid (HP.out.ext HB2.out)
  obtain ⟨t, ht⟩ : ∃ t, t = cmX p s1 xs2 := ⟨_, rfl⟩
  obtain ⟨ok, hok⟩ : ∃ ok, ok = apOk p s1 xs2 := ⟨_, rfl⟩
  have hlt := cmX_le (p := p) (s := s1) HLS2.out
  rw [← ht] at hlt
  have HTL := Lib.hid hlt.1; have HTS := Lib.hid hlt.2
  have SPEC : ∀ (B1 : Option Addr) (d1 : Nat) (B2 : Option Addr) (d2 : Nat) (W : World) (g1 : RowsAt W B1 s1.rows) (g2 : StepsAt W B2 xs2), Calls Tryz.prog 41 #[.int .i64 p, .agg #[.int .i64 s1.v, .int .i64 s1.h, .slice B1 s1.rows.length d1], .slice B2 xs2.length d2] W (SteppedTo t ok W) := fun B1 d1 B2 d2 W g1 g2 => by
    rw [ht, hok]; exact specCompressC p s1 B1 d1 xs2 B2 d2 W g1 hl1.1 hl1.2 g2 hl2.1 hl2.2
  have IMPL : ∀ (B1 : Option Addr) (d1 : Nat) (B2 : Option Addr) (d2 : Nat) (W : World) (g0 : Below w2.heap.size w2 W) (g1 : RowsAt W B1 s1.rows) (g2 : StepsAt W B2 xs2), Calls Tryz.prog 42 #[.int .i64 p, .agg #[.int .i64 s1.v, .int .i64 s1.h, .slice B1 s1.rows.length d1], .slice B2 xs2.length d2] W (SteppedTo t ok W) := fun B1 d1 B2 d2 W g0 g1 g2 => by
    rw [ht, hok]; exact implCompressC p s1 B1 d1 xs2 B2 d2 W (HPZ.out.ext g0) g1 hl1.1 hl1.2 g2 hl2.1 hl2.2
  have HSPEC := Lib.hid SPEC; have HIMPL := Lib.hid IMPL
  clear SPEC IMPL hlt ht hok HP hl1 HR1 HM1 HMS1 HQQ1 HB0 hl2 HR2 HM2 HMS2 HQQ2 HB1 HQ0_1 HQ1_1
  go_upto_region 9 with (first | (go_at_call 41; refine (HSPEC.out Bs1 ds1 Bs2 ds2 _ HYs2_1.out HYs2_2.out).mono ?_; rintro e wrs ⟨u, rfl, hu, hb⟩; obtain ⟨Cs, fs, rfl, _⟩ := hu.view; have HVs := Lib.hid (below_ext HXs2.out hb); have HOs := Lib.hid (HasS.of hu); have HSs := Lib.hid hb.size; clear hu hb) | (go_at_call 25; refine (toStepS_any A2 c2 xs2 _ (HRZ2.out.ext (HXs1.out)) HL2.out HLS2.out).mono ?_; rintro e wxs2 ⟨u, rfl, hu, hb⟩; obtain ⟨Bs2, ds2, rfl, hr, _⟩ := hu.view; have HXs2 := Lib.hid (below_ext (HXs1.out) hb); have HYs2_2 := Lib.hid hr; have HYs2_1 := Lib.hid (HYs1_1.out.ext hb); clear hu hb hr) | (go_at_call 15; refine (toSystem_any s1.v s1.h A1 c1 s1.rows _ (HRZ1.out.ext (Below.refl _ _)) HL1.out HLS1.out).mono ?_; rintro e wxs1 ⟨u, rfl, hu, hb⟩; obtain ⟨Bs1, ds1, rfl, hr, _⟩ := hu.view; have HXs1 := Lib.hid (below_ext (Below.refl _ _) hb); have HYs1_1 := Lib.hid hr; clear hu hb hr))
  clear x10 x11 x12
  obtain ⟨x10, x11, x12⟩ := cells_3 (box_at HQ2_1.out (HVs.out))
  go_upto_region 10 with (go_at_call 15; refine (toSystem_any s1.v s1.h A1 c1 s1.rows _ (HRZ1.out.ext (HVs.out)) HL1.out HLS1.out).mono ?_; rintro e wx1 ⟨u, rfl, hu, hb⟩; obtain ⟨B1, d1, rfl, hr, _⟩ := hu.view; have HXX1 := Lib.hid hb; have HRR1 := Lib.hid hr; have HOO1 := Lib.hid (Has.of hu); clear hu hb hr)
  have HE1 := Lib.hid (below_ext (HVs.out) HXX1.out)
  obtain ⟨wbx1, hWb⟩ : ∃ wb, wb = wx1.alloc (.cells #[.int .i64 s1.v, .int .i64 s1.h, .slice B1 s1.rows.length d1] 30) := ⟨_, rfl⟩
  rw [← hWb]
  have hb : Below wx1.heap.size wx1 wbx1 := by rw [hWb]; exact (Below.refl _ _).alloc (Nat.le_refl _) _
  have HBXx1 := Lib.hid (show wbx1.heap[wx1.heap.size]? = some (.cells #[.int .i64 s1.v, .int .i64 s1.h, .slice B1 s1.rows.length d1] 30 (0, 0)) by rw [hWb]; exact heap_at _ _ rfl)
  have HBSx1 := Lib.hid (show wbx1.heap.size = wx1.heap.size + 1 by rw [hWb]; simp)
  have HBBx1 := Lib.hid hb
  clear hb hWb
  have HF1 := Lib.hid (below_ext HE1.out HBBx1.out)
  clear x10 x11 x12
  obtain ⟨x10, x11, x12⟩ := cells_3 (box_at HQ2_1.out (HF1.out))
  go_upto_region 11 with (go_at_call 25; refine (toStepS_any A2 c2 xs2 _ (HRZ2.out.ext (HF1.out)) HL2.out HLS2.out).mono ?_; rintro e wx2 ⟨u, rfl, hu, hb⟩; obtain ⟨B2, d2, rfl, hr, _⟩ := hu.view; have HXX2 := Lib.hid hb; have HRR2 := Lib.hid hr; have HOO2 := Lib.hid (HasS.of hu); clear hu hb hr)
  have HE2 := Lib.hid (below_ext (HF1.out) HXX2.out)
  clear x10 x11 x12
  obtain ⟨x10, x11, x12⟩ := cells_3 (box_at HBXx1.out (HXX2.out))
  go_upto_region 12 with (go_at_call 42; refine (HIMPL.out B1 d1 B2 d2 _ (HE2.out) (HRR1.out.ext (below_ext (HBBx1.out) HXX2.out)) (HRR2.out.ext (Below.refl _ _))).mono ?_; rintro e wrg ⟨u, rfl, hu, hb⟩; obtain ⟨Cg, fg, rfl, _⟩ := hu.view; have HXg := Lib.hid hb; have HOg := Lib.hid (HasS.of hu); have HVg := Lib.hid (below_ext (HE2.out) hb); clear hu hb)
  have hsz : True := trivial
  have UU : UFnCmp w2 (.slice Cs t.length fs) t #[.int .i64 s1.v, .int .i64 s1.h, .slice B1 s1.rows.length d1] (.slice B1 s1.rows.length d1) s1.rows (.slice B2 xs2.length d2) xs2 (.slice Cg t.length fg) t (wxs2.heap.size) (wrs.heap.size) (wrs.heap.size) (wx1.heap.size) (wx1.heap.size) (wbx1.heap.size) (wx2.heap.size) (wx2.heap.size) (wrg.heap.size) wrg := by
    exact ⟨HVg.out, ⟨HXs2.out.size, HSs.out, Nat.le_refl _, HXX1.out.size, Nat.le_refl _, (by have := HBSx1.out; omega), HXX2.out.size, Nat.le_refl _, HXg.out.size⟩, box_at HBXx1.out (below_ext (HXX2.out) HXg.out), HOs.out.ext (below_ext (below_ext (below_ext (HXX1.out) HBBx1.out) HXX2.out) HXg.out), HOO1.out.ext (below_ext (below_ext (HBBx1.out) HXX2.out) HXg.out), HOO2.out.ext (HXg.out), HOg.out.ext (Below.refl _ _)⟩
  have HU0 := Lib.hid UU
  clear UU HVs HOs HSs HXg HOg HVg hsz HXX1 HXX2 HRR1 HRR2 HOO1 HOO2 HE1 HE2 HXs1 HXs2 HYs1_1 HYs2_1 HYs2_2 HF1 HBXx1 HBSx1 HBBx1
  clear x10 x11 x12
  go_upto_region 14 with (go_at_call 27; refine (eqStepS_same Cg Cs fg fs t _ (steps_at HU0.out.o9.own) (steps_at HU0.out.o0.own) HTL.out HTS.out).mono ?_; rintro e wq ⟨rfl, hb⟩; have HU1 := Lib.hid (HU0.out.ext hb); clear hb)
  have HUd1 := Lib.hid (HU1.out.ext (Below.refl _ _).drew)
  have HSS1 := Lib.hid (show ∀ W, Below wq.heap.size wq W → W.cell? ⟨w.heap.size, 0, none⟩ = some (.int .i64 s1.v) ∧ W.cell? ⟨w.heap.size, 1, none⟩ = some (.int .i64 s1.h) ∧ W.cell? ⟨w.heap.size, 2, none⟩ = some (.slice A1 s1.rows.length c1) ∧ W.cell? ⟨wx1.heap.size, 0, none⟩ = some (.int .i64 s1.v) ∧ W.cell? ⟨wx1.heap.size, 1, none⟩ = some (.int .i64 s1.h) ∧ W.cell? ⟨wx1.heap.size, 2, none⟩ = some (.slice B1 s1.rows.length d1) from fun W hW => by
    obtain ⟨a0, a1, a2⟩ := cells_3 (box_at HQ2_1.out (below_ext HU1.out.base hW))
    obtain ⟨b0, b1, b2⟩ := cells_3 (box_at HU1.out.x1 hW)
    exact ⟨a0, a1, a2, b0, b1, b2⟩)
  go_region_held3 (fun W => W.cell? ⟨w.heap.size, 0, none⟩ = some (.int .i64 s1.v) ∧ W.cell? ⟨w.heap.size, 1, none⟩ = some (.int .i64 s1.h) ∧ W.cell? ⟨w.heap.size, 2, none⟩ = some (.slice A1 s1.rows.length c1) ∧ W.cell? ⟨wx1.heap.size, 0, none⟩ = some (.int .i64 s1.v) ∧ W.cell? ⟨wx1.heap.size, 1, none⟩ = some (.int .i64 s1.h) ∧ W.cell? ⟨wx1.heap.size, 2, none⟩ = some (.slice B1 s1.rows.length d1)) (first | exact HSS1.out _ (Below.refl _ _).drew | exact HSS1.out _ HK1.out | exact HSS1.out _ HKK1.out)
    (first | (go_at_call 15; refine (toSystem_any s1.v s1.h A1 c1 s1.rows _ (HRZ1.out.ext (HUd1.out.base)) HL1.out HLS1.out).mono ?_; rintro e wqa ⟨u, rfl, hu, hb⟩; obtain ⟨Bq, dq, rfl, hrq, _⟩ := hu.view; have HK1 := Lib.hid ((Below.refl wq.heap.size wq).drew.trans hb); have HU1a := Lib.hid (HUd1.out.ext hb); have HRq := Lib.hid hrq; clear hu hb hrq) | (go_at_call 18; refine (eqSystem_same s1.v s1.h B1 Bq d1 dq s1.rows _ (rows_at HU1a.out.o1.own) HRq.out (len_max HL1.out) (fun r hr => len_max (HLS1.out r hr))).mono ?_; rintro e wqb ⟨rfl, hb⟩; have HKK1 := Lib.hid (below_ext HK1.out hb); have HU1b := Lib.hid (HU1a.out.ext hb); clear hb))
  go_upto_region 16 with (fail)
  obtain ⟨wq, hwq⟩ : ∃ wq, wq = wqb := ⟨_, rfl⟩
  rw [← hwq]; rw [← hwq] at HU1b
  clear hwq HU1a HK1 HKK1 HRq HSS1 HUd1 HU1
  go_upto_region 18 with (first | (go_at_call 25; refine (toStepS_any A2 c2 xs2 _ (HRZ2.out.ext (HU1b.out.base)) HL2.out HLS2.out).mono ?_; rintro e wqa ⟨u, rfl, hu, hb⟩; obtain ⟨Bq, dq, rfl, hrq, _⟩ := hu.view; have HU2a := Lib.hid (HU1b.out.ext hb); have HRq := Lib.hid hrq; clear hu hb hrq) | (go_at_call 27; refine (eqStepS_same B2 Bq d2 dq xs2 _ (steps_at HU2a.out.o2.own) HRq.out HL2.out HLS2.out).mono ?_; rintro e wq ⟨rfl, hb⟩; have HU2b := Lib.hid (HU2a.out.ext hb); clear hb))
  clear HU2a HRq HU1b
  have hta1 := tot_nonneg s1.rows; have htb1 := tot_le s1.rows HLS1.out; have hlc1 := HL1.out
  have hta2 := totS_nonneg xs2; have htb2 := totS_le xs2 HLS2.out; have hlc2 := HL2.out
  have hta9 := totS_nonneg t; have htb9 := totS_le t HTS.out; have hlc9 := HTL.out
  go_upto_region 19 with (fail)
  obtain ⟨x0, x1, x2⟩ := cells_3 HU2b.out.x1
  go_upto_region 20 with (go_at_call 20; refine (markSystem_any 1 s1.v s1.h _ _ B1 d1 s1.rows _ HU2b.out.o1 hlc1 HLS1.out (by omega) (by omega)).mono ?_; rintro e wm1 ⟨rfl, ho, hw⟩; have HM1 := Lib.hid (HU2b.out.mark1 hw ho); clear ho hw)
  clear x0 x1 x2
  clear HU2b
  go_upto_region 21 with (go_at_call 33; refine (markStepS_any (1 + tot s1.rows) _ _ B2 d2 xs2 _ HM1.out.o2 hlc2 HLS2.out (by omega) (by omega)).mono ?_; rintro e wm2 ⟨rfl, ho, hw⟩; have HM2 := Lib.hid (HM1.out.mark2 hw ho); clear ho hw)
  clear HM1
  go_upto_region 24 with (go_at_call 27; refine (eqStepS_same Cg Cs fg fs t _ (steps_at HM2.out.o9.own) (steps_at HM2.out.o0.own) HTL.out HTS.out).mono ?_; rintro e wq ⟨rfl, hb⟩; have HN1 := Lib.hid (HM2.out.ext hb); clear hb)
  clear HM2
  go_upto_region 26 with (go_at_call 33; refine (markStepS_any 1 _ _ Cg fg t _ HN1.out.o9 hlc9 HTS.out (by omega) (by omega)).mono ?_; rintro e wm9 ⟨rfl, ho, hw⟩; have HN2 := Lib.hid (HN1.out.mark9 hw ho); clear ho hw)
  clear HN1
  go_upto_region 31 with (go_at_call 34; refine (heldStepS_any 1 Cg fg t _ (steps_at HN2.out.o9.own) hlc9 HTS.out (by omega) (by omega)).mono ?_; rintro e wh ⟨rfl, rfl⟩; have HN3 := HN2)
  clear HN2
  obtain ⟨x10, x11, x12⟩ := cells_3 (box_at HQ2_1.out HN3.out.base)
  go_upto_region 32 with (first | (go_at_call 42; refine (HIMPL.out Br1 dr1 Br2 dr2 _ HXr2.out.base HYr2_1.out HYr2_2.out).mono ?_; rintro e wrr ⟨u, rfl, hu, hb⟩; obtain ⟨Cr, fr, rfl, hrr, _⟩ := hu.view; have HN4 := Lib.hid (HXr2.out.ext hb); have HRr := Lib.hid hrr; clear hu hb hrr) | (go_at_call 25; refine (toStepS_any A2 c2 xs2 _ (HRZ2.out.ext (HXr1.out.base)) HL2.out HLS2.out).mono ?_; rintro e wxr2 ⟨u, rfl, hu, hb⟩; obtain ⟨Br2, dr2, rfl, hr, _⟩ := hu.view; have HXr2 := Lib.hid (HXr1.out.ext hb); have HYr2_2 := Lib.hid hr; have HYr2_1 := Lib.hid (HYr1_1.out.ext hb); clear hu hb hr) | (go_at_call 15; refine (toSystem_any s1.v s1.h A1 c1 s1.rows _ (HRZ1.out.ext (HN3.out.base)) HL1.out HLS1.out).mono ?_; rintro e wxr1 ⟨u, rfl, hu, hb⟩; obtain ⟨Br1, dr1, rfl, hr, _⟩ := hu.view; have HXr1 := Lib.hid (HN3.out.ext hb); have HYr1_1 := Lib.hid hr; clear hu hb hr))
  clear x10 x11 x12
  go_upto_region 35 with (go_at_call 27; refine (eqStepS_same Cr Cs fr fs t _ HRr.out (steps_at HN4.out.o0.own) HTL.out HTS.out).mono ?_; rintro e wq ⟨rfl, hb⟩; have HN6 := Lib.hid (HN4.out.ext hb); clear hb)
  go_wp2_with (go_at_call 34; refine (heldStepS_any 1 Cg fg t _ (steps_at HN6.out.o9.own) hlc9 HTS.out (by omega) (by omega)).mono ?_; rintro e wh ⟨rfl, rfl⟩; have HN7 := HN6)
  go_ret
  exact ⟨rfl, below_ext HB2.out HN7.out.base⟩
end Go.Proofs.YtjdbfokbgmbphaaGreatDoor
