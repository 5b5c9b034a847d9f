/- laws.FnExactReduceSteps returns true for all arguments. Conditions: lengths of at most maxLen; the table of primes is laid. -/
import Derived.Test.YtjdbfokbgmbphaaGreatDoorPk37
import Derived.Test.YtjdbfokbgmbphaaGreatDoorPk28
import Derived.Deep.Cut
namespace Go.Proofs.YtjdbfokbgmbphaaGreatDoor
set_option linter.unusedVariables false
set_option linter.unusedSimpArgs false
open Go.RowKit

/-- What the law keeps in hand while arguments and answers are marked: each in blocks of its own. -/
structure UFnRed (w2 : World) (v0 : Value) (R0 : List Stp) (E1 : Array Value) (v1 : Value) (R1 : List (List Int)) (v9 : Value) (R9 : List Stp) (l0 h0 : Nat) (l1 h1 b1 : Nat) (l9 h9 : Nat) (W : World) : Prop where
  base : Below w2.heap.size w2 W
  ord : w2.heap.size ≤ l0 ∧ l0 ≤ h0 ∧ h0 ≤ l1 ∧ l1 ≤ h1 ∧ h1 ≤ b1 ∧ b1 + 1 ≤ l9 ∧ l9 ≤ h9
  x1 : W.heap[b1]? = some (.cells E1 30 (0, 0))
  o0 : HasS W l0 h0 v0 R0
  o1 : Has W l1 h1 v1 R1
  o9 : HasS W l9 h9 v9 R9
section
variable {w2 : World} {v0 : Value} {R0 : List Stp} {E1 : Array Value} {v1 : Value} {R1 : List (List Int)} {v9 : Value} {R9 : List Stp} {l0 h0 : Nat} {l1 h1 b1 : Nat} {l9 h9 : Nat} {W W' : World}
theorem UFnRed.ext (h : UFnRed w2 v0 R0 E1 v1 R1 v9 R9 l0 h0 l1 h1 b1 l9 h9 W) (hb : Below W.heap.size W W') : UFnRed w2 v0 R0 E1 v1 R1 v9 R9 l0 h0 l1 h1 b1 l9 h9 W' :=
  ⟨below_ext h.base hb, h.ord, box_at h.x1 hb, h.o0.ext hb, h.o1.ext hb, h.o9.ext hb⟩
theorem UFnRed.mark1 (h : UFnRed w2 v0 R0 E1 v1 R1 v9 R9 l0 h0 l1 h1 b1 l9 h9 W) (hw : Within l1 h1 W W') {R : List (List Int)} (ho : Has W' l1 h1 v1 R) : UFnRed w2 v0 R0 E1 v1 R v9 R9 l0 h0 l1 h1 b1 l9 h9 W' := by
  obtain ⟨a0, a1, a2, a3, a4, a5, a6⟩ := h.ord
  exact ⟨h.base.trans (hw.below (by omega) h.base.size), h.ord, box_in h.x1 hw (by omega), h.o0.within hw (by omega), ho, h.o9.within hw (by omega)⟩
theorem UFnRed.mark9 (h : UFnRed w2 v0 R0 E1 v1 R1 v9 R9 l0 h0 l1 h1 b1 l9 h9 W) (hw : Within l9 h9 W W') {R : List Stp} (ho : HasS W' l9 h9 v9 R) : UFnRed w2 v0 R0 E1 v1 R1 v9 R l0 h0 l1 h1 b1 l9 h9 W' := by
  obtain ⟨a0, a1, a2, a3, a4, a5, a6⟩ := h.ord
  exact ⟨h.base.trans (hw.below (by omega) h.base.size), h.ord, box_in h.x1 hw (by omega), h.o0.within hw (by omega), h.o1.within hw (by omega), ho⟩
end

set_option maxRecDepth 100000 in
set_option maxHeartbeats 8000000 in
theorem fnRed_walk (p : Int) (s1 : Sy) (A1 : Option Addr) (c1 : Nat) (w : World) (hP : Primes w) (hR1 : RowsAt w A1 s1.rows) (hm1 : s1.rows.length ≤ maxLen) (hms1 : ∀ r ∈ s1.rows, r.length ≤ maxLen) :
  Calls Tryz.prog 6 #[.int .i64 p, .agg #[.int .i64 s1.v, .int .i64 s1.h, .slice A1 s1.rows.length c1]] w fun e w' => e = .returned (.bool true) ∧ Below w.heap.size w w' := by
  have HM1 := Lib.hid hm1; have HMS1 := Lib.hid hms1
  have hB : Below w.heap.size w (w.alloc (.cells #[.int .i64 s1.v, .int .i64 s1.h, .slice A1 s1.rows.length c1] 24)) := (Below.refl w.heap.size w).alloc (by simp) _
  have HB0 := Lib.hid hB
  have HQ0_1 := Lib.hid (show (w.alloc (.cells #[.int .i64 s1.v, .int .i64 s1.h, .slice A1 s1.rows.length c1] 24)).heap[w.heap.size]? = some (.cells #[.int .i64 s1.v, .int .i64 s1.h, .slice A1 s1.rows.length c1] 24 (0, 0)) from heap_at _ _ (by simp))
  have HR1 := Lib.hid hR1
  have HP := Lib.hid hP
  clear hB hP hR1 hm1 hms1
  go_enter Tryz.func6, Tryz.ntmps6
  go_wp2_with (first | (go_at_call 12; refine (szSystem_any s1.v s1.h A1 c1 s1.rows 1048576 _ (HR1.out.ext HB0.out) HM1.out HMS1.out (by omega) (by omega)).mono ?_; rintro e w1 ⟨q1, rfl, hq, hb⟩; have HB1 := Lib.hid (below_ext HB0.out hb); have HQ1_1 := Lib.hid (box_at HQ0_1.out hb); have hq2_1 := LeftRows.le2 hq (Int.le_refl _); have HQQ1 := Lib.hid hq; clear hb hq; obtain ⟨x10, x11, x12⟩ := cells_3 HQ1_1.out))
  · go_ret
    exact ⟨rfl, HB1.out⟩
  have hl1 : s1.rows.length ≤ 1048576 ∧ ∀ r ∈ s1.rows, r.length ≤ 1048576 := by
    rcases HQQ1.out with h | ⟨_, _, h1, h2⟩
    · omega
    · exact ⟨by omega, fun r hr => by have := h2 r hr; omega⟩
  have HL1 := Lib.hid hl1.1; have HLS1 := Lib.hid hl1.2; have HRZ1 := Lib.hid (HR1.out.ext HB1.out)
  have HPZ := Lib.hid (HP.out.ext HB1.out)
  obtain ⟨t, ht⟩ : ∃ t, t = reX p s1 := ⟨_, rfl⟩
  obtain ⟨ok, hok⟩ : ∃ ok, ok = reOk p s1 := ⟨_, rfl⟩
  have hlt := reX_le p s1
  rw [← ht] at hlt
  have HTL := Lib.hid hlt.1; have HTS := Lib.hid hlt.2
  have SPEC : ∀ (B1 : Option Addr) (d1 : Nat) (W : World) (g1 : RowsAt W B1 s1.rows), Calls Tryz.prog 31 #[.int .i64 p, .agg #[.int .i64 s1.v, .int .i64 s1.h, .slice B1 s1.rows.length d1]] W (SteppedTo t ok W) := fun B1 d1 W g1 => by
    rw [ht, hok]; exact specReduceC p s1 B1 d1 W g1 hl1.1 hl1.2
  have IMPL : ∀ (B1 : Option Addr) (d1 : Nat) (W : World) (g0 : Below w1.heap.size w1 W) (g1 : RowsAt W B1 s1.rows), Calls Tryz.prog 32 #[.int .i64 p, .agg #[.int .i64 s1.v, .int .i64 s1.h, .slice B1 s1.rows.length d1]] W (SteppedTo t ok W) := fun B1 d1 W g0 g1 => by
    rw [ht, hok]; exact implReduceC p s1 B1 d1 W (HPZ.out.ext g0) g1 hl1.1 hl1.2
  have HSPEC := Lib.hid SPEC; have HIMPL := Lib.hid IMPL
  clear SPEC IMPL hlt ht hok HP hl1 HR1 HM1 HMS1 HQQ1 HB0 HQ0_1
  go_upto_region 6 with (first | (go_at_call 31; refine (HSPEC.out Bs1 ds1 _ HYs1_1.out).mono ?_; rintro e wrs ⟨u, rfl, hu, hb⟩; obtain ⟨Cs, fs, rfl, _⟩ := hu.view; have HVs := Lib.hid (below_ext HXs1.out hb); have HOs := Lib.hid (HasS.of hu); have HSs := Lib.hid hb.size; clear hu hb) | (go_at_call 15; refine (toSystem_any s1.v s1.h A1 c1 s1.rows _ (HRZ1.out.ext (Below.refl _ _)) HL1.out HLS1.out).mono ?_; rintro e wxs1 ⟨u, rfl, hu, hb⟩; obtain ⟨Bs1, ds1, rfl, hr, _⟩ := hu.view; have HXs1 := Lib.hid (below_ext (Below.refl _ _) hb); have HYs1_1 := Lib.hid hr; clear hu hb hr))
  clear x10 x11 x12
  obtain ⟨x10, x11, x12⟩ := cells_3 (box_at HQ1_1.out (HVs.out))
  go_upto_region 7 with (go_at_call 15; refine (toSystem_any s1.v s1.h A1 c1 s1.rows _ (HRZ1.out.ext (HVs.out)) HL1.out HLS1.out).mono ?_; rintro e wx1 ⟨u, rfl, hu, hb⟩; obtain ⟨B1, d1, rfl, hr, _⟩ := hu.view; have HXX1 := Lib.hid hb; have HRR1 := Lib.hid hr; have HOO1 := Lib.hid (Has.of hu); clear hu hb hr)
  have HE1 := Lib.hid (below_ext (HVs.out) HXX1.out)
  obtain ⟨wbx1, hWb⟩ : ∃ wb, wb = wx1.alloc (.cells #[.int .i64 s1.v, .int .i64 s1.h, .slice B1 s1.rows.length d1] 30) := ⟨_, rfl⟩
  rw [← hWb]
  have hb : Below wx1.heap.size wx1 wbx1 := by rw [hWb]; exact (Below.refl _ _).alloc (Nat.le_refl _) _
  have HBXx1 := Lib.hid (show wbx1.heap[wx1.heap.size]? = some (.cells #[.int .i64 s1.v, .int .i64 s1.h, .slice B1 s1.rows.length d1] 30 (0, 0)) by rw [hWb]; exact heap_at _ _ rfl)
  have HBSx1 := Lib.hid (show wbx1.heap.size = wx1.heap.size + 1 by rw [hWb]; simp)
  have HBBx1 := Lib.hid hb
  clear hb hWb
  have HF1 := Lib.hid (below_ext HE1.out HBBx1.out)
  clear x10 x11 x12
  obtain ⟨x10, x11, x12⟩ := cells_3 (box_at HBXx1.out (Below.refl _ _))
  go_upto_region 8 with (go_at_call 32; refine (HIMPL.out B1 d1 _ (HF1.out) (HRR1.out.ext (HBBx1.out))).mono ?_; rintro e wrg ⟨u, rfl, hu, hb⟩; obtain ⟨Cg, fg, rfl, _⟩ := hu.view; have HXg := Lib.hid hb; have HOg := Lib.hid (HasS.of hu); have HVg := Lib.hid (below_ext (HF1.out) hb); clear hu hb)
  have hsz : True := trivial
  have UU : UFnRed w1 (.slice Cs t.length fs) t #[.int .i64 s1.v, .int .i64 s1.h, .slice B1 s1.rows.length d1] (.slice B1 s1.rows.length d1) s1.rows (.slice Cg t.length fg) t (wxs1.heap.size) (wrs.heap.size) (wrs.heap.size) (wx1.heap.size) (wx1.heap.size) (wbx1.heap.size) (wrg.heap.size) wrg := by
    exact ⟨HVg.out, ⟨HXs1.out.size, HSs.out, Nat.le_refl _, HXX1.out.size, Nat.le_refl _, (by have := HBSx1.out; omega), HXg.out.size⟩, box_at HBXx1.out (HXg.out), HOs.out.ext (below_ext (below_ext (HXX1.out) HBBx1.out) HXg.out), HOO1.out.ext (below_ext (HBBx1.out) HXg.out), HOg.out.ext (Below.refl _ _)⟩
  have HU0 := Lib.hid UU
  clear UU HVs HOs HSs HXg HOg HVg hsz HXX1 HRR1 HOO1 HE1 HXs1 HYs1_1 HF1 HBXx1 HBSx1 HBBx1
  clear x10 x11 x12
  go_upto_region 10 with (go_at_call 27; refine (eqStepS_same Cg Cs fg fs t _ (steps_at HU0.out.o9.own) (steps_at HU0.out.o0.own) HTL.out HTS.out).mono ?_; rintro e wq ⟨rfl, hb⟩; have HU1 := Lib.hid (HU0.out.ext hb); clear hb)
  have HUd1 := Lib.hid (HU1.out.ext (Below.refl _ _).drew)
  have HSS1 := Lib.hid (show ∀ W, Below wq.heap.size wq W → W.cell? ⟨w.heap.size, 0, none⟩ = some (.int .i64 s1.v) ∧ W.cell? ⟨w.heap.size, 1, none⟩ = some (.int .i64 s1.h) ∧ W.cell? ⟨w.heap.size, 2, none⟩ = some (.slice A1 s1.rows.length c1) ∧ W.cell? ⟨wx1.heap.size, 0, none⟩ = some (.int .i64 s1.v) ∧ W.cell? ⟨wx1.heap.size, 1, none⟩ = some (.int .i64 s1.h) ∧ W.cell? ⟨wx1.heap.size, 2, none⟩ = some (.slice B1 s1.rows.length d1) from fun W hW => by
    obtain ⟨a0, a1, a2⟩ := cells_3 (box_at HQ1_1.out (below_ext HU1.out.base hW))
    obtain ⟨b0, b1, b2⟩ := cells_3 (box_at HU1.out.x1 hW)
    exact ⟨a0, a1, a2, b0, b1, b2⟩)
  go_region_held3 (fun W => W.cell? ⟨w.heap.size, 0, none⟩ = some (.int .i64 s1.v) ∧ W.cell? ⟨w.heap.size, 1, none⟩ = some (.int .i64 s1.h) ∧ W.cell? ⟨w.heap.size, 2, none⟩ = some (.slice A1 s1.rows.length c1) ∧ W.cell? ⟨wx1.heap.size, 0, none⟩ = some (.int .i64 s1.v) ∧ W.cell? ⟨wx1.heap.size, 1, none⟩ = some (.int .i64 s1.h) ∧ W.cell? ⟨wx1.heap.size, 2, none⟩ = some (.slice B1 s1.rows.length d1)) (first | exact HSS1.out _ (Below.refl _ _).drew | exact HSS1.out _ HK1.out | exact HSS1.out _ HKK1.out)
    (first | (go_at_call 15; refine (toSystem_any s1.v s1.h A1 c1 s1.rows _ (HRZ1.out.ext (HUd1.out.base)) HL1.out HLS1.out).mono ?_; rintro e wqa ⟨u, rfl, hu, hb⟩; obtain ⟨Bq, dq, rfl, hrq, _⟩ := hu.view; have HK1 := Lib.hid ((Below.refl wq.heap.size wq).drew.trans hb); have HU1a := Lib.hid (HUd1.out.ext hb); have HRq := Lib.hid hrq; clear hu hb hrq) | (go_at_call 18; refine (eqSystem_same s1.v s1.h B1 Bq d1 dq s1.rows _ (rows_at HU1a.out.o1.own) HRq.out (len_max HL1.out) (fun r hr => len_max (HLS1.out r hr))).mono ?_; rintro e wqb ⟨rfl, hb⟩; have HKK1 := Lib.hid (below_ext HK1.out hb); have HU1b := Lib.hid (HU1a.out.ext hb); clear hb))
  go_upto_region 12 with (fail)
  obtain ⟨wq, hwq⟩ : ∃ wq, wq = wqb := ⟨_, rfl⟩
  rw [← hwq]; rw [← hwq] at HU1b
  clear hwq HU1a HK1 HKK1 HRq HSS1 HUd1 HU1
  have hta1 := tot_nonneg s1.rows; have htb1 := tot_le s1.rows HLS1.out; have hlc1 := HL1.out
  have hta9 := totS_nonneg t; have htb9 := totS_le t HTS.out; have hlc9 := HTL.out
  go_upto_region 13 with (fail)
  obtain ⟨x0, x1, x2⟩ := cells_3 HU1b.out.x1
  go_upto_region 14 with (go_at_call 20; refine (markSystem_any 1 s1.v s1.h _ _ B1 d1 s1.rows _ HU1b.out.o1 hlc1 HLS1.out (by omega) (by omega)).mono ?_; rintro e wm1 ⟨rfl, ho, hw⟩; have HM1 := Lib.hid (HU1b.out.mark1 hw ho); clear ho hw)
  clear x0 x1 x2
  clear HU1b
  go_upto_region 17 with (go_at_call 27; refine (eqStepS_same Cg Cs fg fs t _ (steps_at HM1.out.o9.own) (steps_at HM1.out.o0.own) HTL.out HTS.out).mono ?_; rintro e wq ⟨rfl, hb⟩; have HN1 := Lib.hid (HM1.out.ext hb); clear hb)
  clear HM1
  go_upto_region 19 with (go_at_call 33; refine (markStepS_any 1 _ _ Cg fg t _ HN1.out.o9 hlc9 HTS.out (by omega) (by omega)).mono ?_; rintro e wm9 ⟨rfl, ho, hw⟩; have HN2 := Lib.hid (HN1.out.mark9 hw ho); clear ho hw)
  clear HN1
  go_upto_region 24 with (go_at_call 34; refine (heldStepS_any 1 Cg fg t _ (steps_at HN2.out.o9.own) hlc9 HTS.out (by omega) (by omega)).mono ?_; rintro e wh ⟨rfl, rfl⟩; have HN3 := HN2)
  clear HN2
  obtain ⟨x10, x11, x12⟩ := cells_3 (box_at HQ1_1.out HN3.out.base)
  go_upto_region 25 with (first | (go_at_call 32; refine (HIMPL.out Br1 dr1 _ HXr1.out.base HYr1_1.out).mono ?_; rintro e wrr ⟨u, rfl, hu, hb⟩; obtain ⟨Cr, fr, rfl, hrr, _⟩ := hu.view; have HN4 := Lib.hid (HXr1.out.ext hb); have HRr := Lib.hid hrr; clear hu hb hrr) | (go_at_call 15; refine (toSystem_any s1.v s1.h A1 c1 s1.rows _ (HRZ1.out.ext (HN3.out.base)) HL1.out HLS1.out).mono ?_; rintro e wxr1 ⟨u, rfl, hu, hb⟩; obtain ⟨Br1, dr1, rfl, hr, _⟩ := hu.view; have HXr1 := Lib.hid (HN3.out.ext hb); have HYr1_1 := Lib.hid hr; clear hu hb hr))
  clear x10 x11 x12
  go_upto_region 28 with (go_at_call 27; refine (eqStepS_same Cr Cs fr fs t _ HRr.out (steps_at HN4.out.o0.own) HTL.out HTS.out).mono ?_; rintro e wq ⟨rfl, hb⟩; have HN6 := Lib.hid (HN4.out.ext hb); clear hb)
  go_wp2_with (go_at_call 34; refine (heldStepS_any 1 Cg fg t _ (steps_at HN6.out.o9.own) hlc9 HTS.out (by omega) (by omega)).mono ?_; rintro e wh ⟨rfl, rfl⟩; have HN7 := HN6)
  go_ret
  exact ⟨rfl, below_ext HB1.out HN7.out.base⟩
end Go.Proofs.YtjdbfokbgmbphaaGreatDoor
