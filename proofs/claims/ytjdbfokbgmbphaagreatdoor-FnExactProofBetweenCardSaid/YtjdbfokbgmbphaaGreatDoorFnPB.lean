/- laws.FnExactProofBetween returns true for all arguments. Conditions: lengths of at most maxLen; the table of primes is laid. -/
import Derived.Test.YtjdbfokbgmbphaaGreatDoorPk49
import Derived.Test.YtjdbfokbgmbphaaGreatDoorPk28
import Derived.Deep.Cut
namespace Go.Proofs.YtjdbfokbgmbphaaGreatDoor
set_option linter.unusedVariables false
set_option linter.unusedSimpArgs false
open Go.RowKit
/-- What the law keeps in hand while arguments and answers are marked: each in blocks of its own. -/
structure UFnPB (w2 : World) (v0 : Value) (R0 : List Stp) (E1 : Array Value) (v1 : Value) (R1 : List (List Int)) (E2 : Array Value) (v2 : Value) (R2 : List (List Int)) (v9 : Value) (R9 : List Stp) (l0 h0 : Nat) (l1 h1 b1 : Nat) (l2 h2 b2 : Nat) (l9 h9 : Nat) (W : World) : Prop where
 base : Below w2.heap.size w2 W
 ord : w2.heap.size ≤ l0 ∧ l0 ≤ h0 ∧ h0 ≤ l1 ∧ l1 ≤ h1 ∧ h1 ≤ b1 ∧ b1 + 1 ≤ l2 ∧ l2 ≤ h2 ∧ h2 ≤ b2 ∧ b2 + 1 ≤ l9 ∧ l9 ≤ h9
 x1 : W.heap[b1]? = some (.cells E1 30 (0, 0))
 x2 : W.heap[b2]? = some (.cells E2 30 (0, 0))
 o0 : HasS W l0 h0 v0 R0
 o1 : Has W l1 h1 v1 R1
 o2 : Has W l2 h2 v2 R2
 o9 : HasS W l9 h9 v9 R9
section
variable {w2 : World} {v0 : Value} {R0 : List Stp} {E1 : Array Value} {v1 : Value} {R1 : List (List Int)} {E2 : Array Value} {v2 : Value} {R2 : List (List Int)} {v9 : Value} {R9 : List Stp} {l0 h0 : Nat} {l1 h1 b1 : Nat} {l2 h2 b2 : Nat} {l9 h9 : Nat} {W W' : World}
theorem UFnPB.ext (h : UFnPB w2 v0 R0 E1 v1 R1 E2 v2 R2 v9 R9 l0 h0 l1 h1 b1 l2 h2 b2 l9 h9 W) (hb : Below W.heap.size W W') : UFnPB w2 v0 R0 E1 v1 R1 E2 v2 R2 v9 R9 l0 h0 l1 h1 b1 l2 h2 b2 l9 h9 W' :=
 ⟨below_ext h.base hb, h.ord, box_at h.x1 hb, box_at h.x2 hb, h.o0.ext hb, h.o1.ext hb, h.o2.ext hb, h.o9.ext hb⟩
theorem UFnPB.mark1 (h : UFnPB w2 v0 R0 E1 v1 R1 E2 v2 R2 v9 R9 l0 h0 l1 h1 b1 l2 h2 b2 l9 h9 W) (hw : Within l1 h1 W W') {R : List (List Int)} (ho : Has W' l1 h1 v1 R) : UFnPB w2 v0 R0 E1 v1 R E2 v2 R2 v9 R9 l0 h0 l1 h1 b1 l2 h2 b2 l9 h9 W' := by
 obtain ⟨a0, a1, a2, a3, a4, a5, a6, a7, a8, a9⟩ := h.ord
 exact ⟨h.base.trans (hw.below (by omega) h.base.size), h.ord, box_in h.x1 hw (by omega), box_in h.x2 hw (by omega), h.o0.within hw (by omega), ho, h.o2.within hw (by omega), h.o9.within hw (by omega)⟩
theorem UFnPB.mark2 (h : UFnPB w2 v0 R0 E1 v1 R1 E2 v2 R2 v9 R9 l0 h0 l1 h1 b1 l2 h2 b2 l9 h9 W) (hw : Within l2 h2 W W') {R : List (List Int)} (ho : Has W' l2 h2 v2 R) : UFnPB w2 v0 R0 E1 v1 R1 E2 v2 R v9 R9 l0 h0 l1 h1 b1 l2 h2 b2 l9 h9 W' := by
 obtain ⟨a0, a1, a2, a3, a4, a5, a6, a7, a8, a9⟩ := h.ord
 exact ⟨h.base.trans (hw.below (by omega) h.base.size), h.ord, box_in h.x1 hw (by omega), box_in h.x2 hw (by omega), h.o0.within hw (by omega), h.o1.within hw (by omega), ho, h.o9.within hw (by omega)⟩
theorem UFnPB.mark9 (h : UFnPB w2 v0 R0 E1 v1 R1 E2 v2 R2 v9 R9 l0 h0 l1 h1 b1 l2 h2 b2 l9 h9 W) (hw : Within l9 h9 W W') {R : List Stp} (ho : HasS W' l9 h9 v9 R) : UFnPB w2 v0 R0 E1 v1 R1 E2 v2 R2 v9 R l0 h0 l1 h1 b1 l2 h2 b2 l9 h9 W' := by
 obtain ⟨a0, a1, a2, a3, a4, a5, a6, a7, a8, a9⟩ := h.ord
 exact ⟨h.base.trans (hw.below (by omega) h.base.size), h.ord, box_in h.x1 hw (by omega), box_in h.x2 hw (by omega), h.o0.within hw (by omega), h.o1.within hw (by omega), h.o2.within hw (by omega), ho⟩
end
set_option maxRecDepth 100000 in
set_option maxHeartbeats 8000000 in
theorem fnPB_walk (p : Int) (s1 : Sy) (A1 : Option Addr) (c1 : Nat) (s2 : Sy) (A2 : Option Addr) (c2 : Nat) (w : World) (hP : Primes w) (hR1 : RowsAt w A1 s1.rows) (hm1 : s1.rows.length ≤ maxLen) (hms1 : ∀ r ∈ s1.rows, r.length ≤ maxLen) (hR2 : RowsAt w A2 s2.rows) (hm2 : s2.rows.length ≤ maxLen) (hms2 : ∀ r ∈ s2.rows, r.length ≤ maxLen) :
 Calls Tryz.prog 11 #[.int .i64 p, .agg #[.int .i64 s1.v, .int .i64 s1.h, .slice A1 s1.rows.length c1], .agg #[.int .i64 s2.v, .int .i64 s2.h, .slice A2 s2.rows.length c2]] w fun e w' => e = .returned (.bool true) ∧ Below w.heap.size w w' := by
 have HM1 := Lib.hid hm1; have HMS1 := Lib.hid hms1
 have HM2 := Lib.hid hm2; have HMS2 := Lib.hid hms2
 have hB : Below w.heap.size w ((w.alloc (.cells #[.int .i64 s1.v, .int .i64 s1.h, .slice A1 s1.rows.length c1] 24)).alloc (.cells #[.int .i64 s2.v, .int .i64 s2.h, .slice A2 s2.rows.length c2] 24)) := ((Below.refl w.heap.size w).alloc (by simp) _).alloc (by simp) _
 have HB0 := Lib.hid hB
 have HQ0_1 := Lib.hid (show ((w.alloc (.cells #[.int .i64 s1.v, .int .i64 s1.h, .slice A1 s1.rows.length c1] 24)).alloc (.cells #[.int .i64 s2.v, .int .i64 s2.h, .slice A2 s2.rows.length c2] 24)).heap[w.heap.size]? = some (.cells #[.int .i64 s1.v, .int .i64 s1.h, .slice A1 s1.rows.length c1] 24 (0, 0)) from (heap_past _ _ (by simp)).trans (heap_at _ _ rfl))
 have HQ0_2 := Lib.hid (show ((w.alloc (.cells #[.int .i64 s1.v, .int .i64 s1.h, .slice A1 s1.rows.length c1] 24)).alloc (.cells #[.int .i64 s2.v, .int .i64 s2.h, .slice A2 s2.rows.length c2] 24)).heap[w.heap.size + 1]? = some (.cells #[.int .i64 s2.v, .int .i64 s2.h, .slice A2 s2.rows.length c2] 24 (0, 0)) from heap_at _ _ (by simp))
 have HR1 := Lib.hid hR1
 have HR2 := Lib.hid hR2
 have HP := Lib.hid hP
 clear hB hP hR1 hm1 hms1 hR2 hm2 hms2
 go_enter Tryz.func11, Tryz.ntmps11
 go_wp2_with (first | (go_at_call 12; refine (szSystem_any s2.v s2.h A2 c2 s2.rows _ _ (HR2.out.ext HB1.out) HM2.out HMS2.out (by omega) (by omega)).mono ?_; rintro e w2 ⟨q2, rfl, hq, hb⟩; have HB2 := Lib.hid (below_ext HB1.out hb); have HQ2_1 := Lib.hid (box_at HQ1_1.out hb); have HQ2_2 := Lib.hid (box_at HQ1_2.out hb); have hq2_2 := LeftRows.le2 hq hq2_1; have HQQ2 := Lib.hid hq; clear hb hq x10 x11 x12 x20 x21 x22; obtain ⟨x10, x11, x12⟩ := cells_3 HQ2_1.out; obtain ⟨x20, x21, x22⟩ := cells_3 HQ2_2.out) | (go_at_call 12; refine (szSystem_any s1.v s1.h A1 c1 s1.rows 1048576 _ (HR1.out.ext HB0.out) HM1.out HMS1.out (by omega) (by omega)).mono ?_; rintro e w1 ⟨q1, rfl, hq, hb⟩; have HB1 := Lib.hid (below_ext HB0.out hb); have HQ1_1 := Lib.hid (box_at HQ0_1.out hb); have HQ1_2 := Lib.hid (box_at HQ0_2.out hb); have hq2_1 := LeftRows.le2 hq (Int.le_refl _); have HQQ1 := Lib.hid hq; clear hb hq; obtain ⟨x10, x11, x12⟩ := cells_3 HQ1_1.out; obtain ⟨x20, x21, x22⟩ := cells_3 HQ1_2.out))
 ·go_ret
  exact ⟨rfl, HB1.out⟩
 ·go_ret
  exact ⟨rfl, HB2.out⟩
 have hl1 : s1.rows.length ≤ 1048576 ∧ ∀ r ∈ s1.rows, r.length ≤ 1048576 := by
  rcases HQQ1.out with h | ⟨_, _, h1, h2⟩
  ·omega
  ·exact ⟨by omega, fun r hr => by have := h2 r hr; omega⟩
 have HL1 := Lib.hid hl1.1; have HLS1 := Lib.hid hl1.2; have HRZ1 := Lib.hid (HR1.out.ext HB2.out)
 have hl2 : s2.rows.length ≤ 1048576 ∧ ∀ r ∈ s2.rows, r.length ≤ 1048576 := by
  rcases HQQ2.out with h | ⟨_, _, h1, h2⟩
  ·omega
  ·exact ⟨by omega, fun r hr => by have := h2 r hr; omega⟩
 have HL2 := Lib.hid hl2.1; have HLS2 := Lib.hid hl2.2; have HRZ2 := Lib.hid (HR2.out.ext HB2.out)
 have HPZ := Lib.hid (HP.out.ext HB2.out)
 obtain ⟨t, ht⟩ : ∃ t, t = prX p s1 s2 := ⟨_, rfl⟩
 obtain ⟨ok, hok⟩ : ∃ ok, ok = prOk p s1 s2 := ⟨_, rfl⟩
 have hlt := prX_le p s1 s2
 rw [← ht] at hlt
 have HTL := Lib.hid hlt.1; have HTS := Lib.hid hlt.2
 have SPEC : ∀ (B1 : Option Addr) (d1 : Nat) (B2 : Option Addr) (d2 : Nat) (W : World) (g1 : RowsAt W B1 s1.rows) (g2 : RowsAt W B2 s2.rows), Calls Tryz.prog 43 #[.int .i64 p, .agg #[.int .i64 s1.v, .int .i64 s1.h, .slice B1 s1.rows.length d1], .agg #[.int .i64 s2.v, .int .i64 s2.h, .slice B2 s2.rows.length d2]] W (SteppedTo t ok W) := fun B1 d1 B2 d2 W g1 g2 => by
  rw [ht, hok]; exact specProofC p s1 B1 d1 s2 B2 d2 W g1 hl1.1 hl1.2 g2 hl2.1 hl2.2
 have IMPL : ∀ (B1 : Option Addr) (d1 : Nat) (B2 : Option Addr) (d2 : Nat) (W : World) (g0 : Below w2.heap.size w2 W) (g1 : RowsAt W B1 s1.rows) (g2 : RowsAt W B2 s2.rows), Calls Tryz.prog 44 #[.int .i64 p, .agg #[.int .i64 s1.v, .int .i64 s1.h, .slice B1 s1.rows.length d1], .agg #[.int .i64 s2.v, .int .i64 s2.h, .slice B2 s2.rows.length d2]] W (SteppedTo t ok W) := fun B1 d1 B2 d2 W g0 g1 g2 => by
  rw [ht, hok]; exact implProofC p s1 B1 d1 s2 B2 d2 W (HPZ.out.ext g0) g1 hl1.1 hl1.2 g2 hl2.1 hl2.2
 have HSPEC := Lib.hid SPEC; have HIMPL := Lib.hid IMPL
 clear SPEC IMPL hlt ht hok HP hl1 HR1 HM1 HMS1 HQQ1 HB0 hl2 HR2 HM2 HMS2 HQQ2 HB1 HQ0_1 HQ0_2 HQ1_1 HQ1_2
 clear x10 x11 x12 x20 x21 x22
 have HSBs := Lib.hid (show ∀ W, Below w2.heap.size w2 W → W.cell? ⟨w.heap.size, 0, none⟩ = some (.int .i64 s1.v) ∧ W.cell? ⟨w.heap.size, 1, none⟩ = some (.int .i64 s1.h) ∧ W.cell? ⟨w.heap.size, 2, none⟩ = some (.slice A1 s1.rows.length c1) ∧ W.cell? ⟨w.heap.size + 1, 0, none⟩ = some (.int .i64 s2.v) ∧ W.cell? ⟨w.heap.size + 1, 1, none⟩ = some (.int .i64 s2.h) ∧ W.cell? ⟨w.heap.size + 1, 2, none⟩ = some (.slice A2 s2.rows.length c2) from fun W hW => by
  obtain ⟨a10, a11, a12⟩ := cells_3 (box_at HQ2_1.out hW)
  obtain ⟨a20, a21, a22⟩ := cells_3 (box_at HQ2_2.out hW)
  exact ⟨a10, a11, a12, a20, a21, a22⟩)
 go_region_held3 (fun W => W.cell? ⟨w.heap.size, 0, none⟩ = some (.int .i64 s1.v) ∧ W.cell? ⟨w.heap.size, 1, none⟩ = some (.int .i64 s1.h) ∧ W.cell? ⟨w.heap.size, 2, none⟩ = some (.slice A1 s1.rows.length c1) ∧ W.cell? ⟨w.heap.size + 1, 0, none⟩ = some (.int .i64 s2.v) ∧ W.cell? ⟨w.heap.size + 1, 1, none⟩ = some (.int .i64 s2.h) ∧ W.cell? ⟨w.heap.size + 1, 2, none⟩ = some (.slice A2 s2.rows.length c2)) (first | exact HSBs.out _ (Below.refl _ _).drew | exact HSBs.out _ HXs1.out | exact HSBs.out _ HXs2.out | exact HSBs.out _ HVs.out)
  (first | (go_at_call 43; refine (HSPEC.out Bs1 ds1 Bs2 ds2 _ HYs2_1.out HYs2_2.out).mono ?_; rintro e wrs ⟨u, rfl, hu, hb⟩; obtain ⟨Cs, fs, rfl, _⟩ := hu.view; have HVs := Lib.hid (below_ext HXs2.out hb); have HOs := Lib.hid (HasS.of hu); have HSs := Lib.hid hb.size; clear hu hb) | (go_at_call 15; refine (toSystem_any s2.v s2.h A2 c2 s2.rows _ (HRZ2.out.ext (HXs1.out)) HL2.out HLS2.out).mono ?_; rintro e wxs2 ⟨u, rfl, hu, hb⟩; obtain ⟨Bs2, ds2, rfl, hr, _⟩ := hu.view; have HXs2 := Lib.hid (below_ext (HXs1.out) hb); have HYs2_2 := Lib.hid hr; have HYs2_1 := Lib.hid (HYs1_1.out.ext hb); clear hu hb hr) | (go_at_call 15; refine (toSystem_any s1.v s1.h A1 c1 s1.rows _ (HRZ1.out.ext ((Below.refl _ _).drew)) HL1.out HLS1.out).mono ?_; rintro e wxs1 ⟨u, rfl, hu, hb⟩; obtain ⟨Bs1, ds1, rfl, hr, _⟩ := hu.view; have HXs1 := Lib.hid (below_ext ((Below.refl _ _).drew) hb); have HYs1_1 := Lib.hid hr; clear hu hb hr))
 clear HSBs
 obtain ⟨x10, x11, x12⟩ := cells_3 (box_at HQ2_1.out (HVs.out))
 obtain ⟨x20, x21, x22⟩ := cells_3 (box_at HQ2_2.out (HVs.out))
 go_upto_region 10 with (go_at_call 15; refine (toSystem_any s1.v s1.h A1 c1 s1.rows _ (HRZ1.out.ext (HVs.out)) HL1.out HLS1.out).mono ?_; rintro e wx1 ⟨u, rfl, hu, hb⟩; obtain ⟨B1, d1, rfl, hr, _⟩ := hu.view; have HXX1 := Lib.hid hb; have HRR1 := Lib.hid hr; have HOO1 := Lib.hid (Has.of hu); clear hu hb hr)
 have HE1 := Lib.hid (below_ext (HVs.out) HXX1.out)
 obtain ⟨wbx1, hWb⟩ : ∃ wb, wb = wx1.alloc (.cells #[.int .i64 s1.v, .int .i64 s1.h, .slice B1 s1.rows.length d1] 30) := ⟨_, rfl⟩
 rw [← hWb]
 have hb : Below wx1.heap.size wx1 wbx1 := by rw [hWb]; exact (Below.refl _ _).alloc (Nat.le_refl _) _
 have HBXx1 := Lib.hid (show wbx1.heap[wx1.heap.size]? = some (.cells #[.int .i64 s1.v, .int .i64 s1.h, .slice B1 s1.rows.length d1] 30 (0, 0)) by rw [hWb]; exact heap_at _ _ rfl)
 have HBSx1 := Lib.hid (show wbx1.heap.size = wx1.heap.size + 1 by rw [hWb]; simp)
 have HBBx1 := Lib.hid hb
 clear hb hWb
 have HF1 := Lib.hid (below_ext HE1.out HBBx1.out)
 clear x10 x11 x12 x20 x21 x22
 obtain ⟨x10, x11, x12⟩ := cells_3 (box_at HQ2_1.out (HF1.out))
 obtain ⟨x20, x21, x22⟩ := cells_3 (box_at HQ2_2.out (HF1.out))
 go_upto_region 11 with (go_at_call 15; refine (toSystem_any s2.v s2.h A2 c2 s2.rows _ (HRZ2.out.ext (HF1.out)) HL2.out HLS2.out).mono ?_; rintro e wx2 ⟨u, rfl, hu, hb⟩; obtain ⟨B2, d2, rfl, hr, _⟩ := hu.view; have HXX2 := Lib.hid hb; have HRR2 := Lib.hid hr; have HOO2 := Lib.hid (Has.of hu); clear hu hb hr)
 have HE2 := Lib.hid (below_ext (HF1.out) HXX2.out)
 obtain ⟨wbx2, hWb⟩ : ∃ wb, wb = wx2.alloc (.cells #[.int .i64 s2.v, .int .i64 s2.h, .slice B2 s2.rows.length d2] 30) := ⟨_, rfl⟩
 rw [← hWb]
 have hb : Below wx2.heap.size wx2 wbx2 := by rw [hWb]; exact (Below.refl _ _).alloc (Nat.le_refl _) _
 have HBXx2 := Lib.hid (show wbx2.heap[wx2.heap.size]? = some (.cells #[.int .i64 s2.v, .int .i64 s2.h, .slice B2 s2.rows.length d2] 30 (0, 0)) by rw [hWb]; exact heap_at _ _ rfl)
 have HBSx2 := Lib.hid (show wbx2.heap.size = wx2.heap.size + 1 by rw [hWb]; simp)
 have HBBx2 := Lib.hid hb
 clear hb hWb
 have HF2 := Lib.hid (below_ext HE2.out HBBx2.out)
 clear x10 x11 x12 x20 x21 x22
 obtain ⟨x10, x11, x12⟩ := cells_3 (box_at HBXx1.out (below_ext (HXX2.out) HBBx2.out))
 obtain ⟨x20, x21, x22⟩ := cells_3 (box_at HBXx2.out (Below.refl _ _))
 go_upto_region 12 with (go_at_call 44; refine (HIMPL.out B1 d1 B2 d2 _ (HF2.out) (HRR1.out.ext (below_ext (below_ext (HBBx1.out) HXX2.out) HBBx2.out)) (HRR2.out.ext (HBBx2.out))).mono ?_; rintro e wrg ⟨u, rfl, hu, hb⟩; obtain ⟨Cg, fg, rfl, _⟩ := hu.view; have HXg := Lib.hid hb; have HOg := Lib.hid (HasS.of hu); have HVg := Lib.hid (below_ext (HF2.out) hb); clear hu hb)
 have hsz : True := trivial
 have UU : UFnPB w2 (.slice Cs t.length fs) t #[.int .i64 s1.v, .int .i64 s1.h, .slice B1 s1.rows.length d1] (.slice B1 s1.rows.length d1) s1.rows #[.int .i64 s2.v, .int .i64 s2.h, .slice B2 s2.rows.length d2] (.slice B2 s2.rows.length d2) s2.rows (.slice Cg t.length fg) t (wxs2.heap.size) (wrs.heap.size) (wrs.heap.size) (wx1.heap.size) (wx1.heap.size) (wbx1.heap.size) (wx2.heap.size) (wx2.heap.size) (wbx2.heap.size) (wrg.heap.size) wrg := by
  exact ⟨HVg.out, ⟨HXs2.out.size, HSs.out, Nat.le_refl _, HXX1.out.size, Nat.le_refl _, (by have := HBSx1.out; omega), HXX2.out.size, Nat.le_refl _, (by have := HBSx2.out; omega), HXg.out.size⟩, box_at HBXx1.out (below_ext (below_ext (HXX2.out) HBBx2.out) HXg.out), box_at HBXx2.out (HXg.out), HOs.out.ext (below_ext (below_ext (below_ext (below_ext (HXX1.out) HBBx1.out) HXX2.out) HBBx2.out) HXg.out), HOO1.out.ext (below_ext (below_ext (below_ext (HBBx1.out) HXX2.out) HBBx2.out) HXg.out), HOO2.out.ext (below_ext (HBBx2.out) HXg.out), HOg.out.ext (Below.refl _ _)⟩
 have HU0 := Lib.hid UU
 clear UU HVs HOs HSs HXg HOg HVg hsz HXX1 HXX2 HRR1 HRR2 HOO1 HOO2 HE1 HE2 HXs1 HXs2 HYs1_1 HYs2_1 HYs2_2 HF1 HBXx1 HBSx1 HBBx1 HF2 HBXx2 HBSx2 HBBx2
 clear x10 x11 x12 x20 x21 x22
 go_upto_region 14 with (go_at_call 27; refine (eqStepS_same Cg Cs fg fs t _ (steps_at HU0.out.o9.own) (steps_at HU0.out.o0.own) HTL.out HTS.out).mono ?_; rintro e wq ⟨rfl, hb⟩; have HU1 := Lib.hid (HU0.out.ext hb); clear hb)
 have HUd1 := Lib.hid (HU1.out.ext (Below.refl _ _).drew)
 have HSS1 := Lib.hid (show ∀ W, Below wq.heap.size wq W → W.cell? ⟨w.heap.size, 0, none⟩ = some (.int .i64 s1.v) ∧ W.cell? ⟨w.heap.size, 1, none⟩ = some (.int .i64 s1.h) ∧ W.cell? ⟨w.heap.size, 2, none⟩ = some (.slice A1 s1.rows.length c1) ∧ W.cell? ⟨wx1.heap.size, 0, none⟩ = some (.int .i64 s1.v) ∧ W.cell? ⟨wx1.heap.size, 1, none⟩ = some (.int .i64 s1.h) ∧ W.cell? ⟨wx1.heap.size, 2, none⟩ = some (.slice B1 s1.rows.length d1) from fun W hW => by
  obtain ⟨a0, a1, a2⟩ := cells_3 (box_at HQ2_1.out (below_ext HU1.out.base hW))
  obtain ⟨b0, b1, b2⟩ := cells_3 (box_at HU1.out.x1 hW)
  exact ⟨a0, a1, a2, b0, b1, b2⟩)
 go_region_held3 (fun W => W.cell? ⟨w.heap.size, 0, none⟩ = some (.int .i64 s1.v) ∧ W.cell? ⟨w.heap.size, 1, none⟩ = some (.int .i64 s1.h) ∧ W.cell? ⟨w.heap.size, 2, none⟩ = some (.slice A1 s1.rows.length c1) ∧ W.cell? ⟨wx1.heap.size, 0, none⟩ = some (.int .i64 s1.v) ∧ W.cell? ⟨wx1.heap.size, 1, none⟩ = some (.int .i64 s1.h) ∧ W.cell? ⟨wx1.heap.size, 2, none⟩ = some (.slice B1 s1.rows.length d1)) (first | exact HSS1.out _ (Below.refl _ _).drew | exact HSS1.out _ HK1.out | exact HSS1.out _ HKK1.out)
  (first | (go_at_call 15; refine (toSystem_any s1.v s1.h A1 c1 s1.rows _ (HRZ1.out.ext (HUd1.out.base)) HL1.out HLS1.out).mono ?_; rintro e wqa ⟨u, rfl, hu, hb⟩; obtain ⟨Bq, dq, rfl, hrq, _⟩ := hu.view; have HK1 := Lib.hid ((Below.refl wq.heap.size wq).drew.trans hb); have HU1a := Lib.hid (HUd1.out.ext hb); have HRq := Lib.hid hrq; clear hu hb hrq) | (go_at_call 18; refine (eqSystem_same s1.v s1.h B1 Bq d1 dq s1.rows _ (rows_at HU1a.out.o1.own) HRq.out (len_max HL1.out) (fun r hr => len_max (HLS1.out r hr))).mono ?_; rintro e wqb ⟨rfl, hb⟩; have HKK1 := Lib.hid (below_ext HK1.out hb); have HU1b := Lib.hid (HU1a.out.ext hb); clear hb))
 go_upto_region 16 with (fail)
 obtain ⟨wq, hwq⟩ : ∃ wq, wq = wqb := ⟨_, rfl⟩
 rw [← hwq]; rw [← hwq] at HU1b
 clear hwq HU1a HK1 HKK1 HRq HSS1 HUd1 HU1
 have HUd2 := Lib.hid (HU1b.out.ext (Below.refl _ _).drew)
 have HSS2 := Lib.hid (show ∀ W, Below wq.heap.size wq W → W.cell? ⟨w.heap.size + 1, 0, none⟩ = some (.int .i64 s2.v) ∧ W.cell? ⟨w.heap.size + 1, 1, none⟩ = some (.int .i64 s2.h) ∧ W.cell? ⟨w.heap.size + 1, 2, none⟩ = some (.slice A2 s2.rows.length c2) ∧ W.cell? ⟨wx2.heap.size, 0, none⟩ = some (.int .i64 s2.v) ∧ W.cell? ⟨wx2.heap.size, 1, none⟩ = some (.int .i64 s2.h) ∧ W.cell? ⟨wx2.heap.size, 2, none⟩ = some (.slice B2 s2.rows.length d2) from fun W hW => by
  obtain ⟨a0, a1, a2⟩ := cells_3 (box_at HQ2_2.out (below_ext HU1b.out.base hW))
  obtain ⟨b0, b1, b2⟩ := cells_3 (box_at HU1b.out.x2 hW)
  exact ⟨a0, a1, a2, b0, b1, b2⟩)
 go_region_held3 (fun W => W.cell? ⟨w.heap.size + 1, 0, none⟩ = some (.int .i64 s2.v) ∧ W.cell? ⟨w.heap.size + 1, 1, none⟩ = some (.int .i64 s2.h) ∧ W.cell? ⟨w.heap.size + 1, 2, none⟩ = some (.slice A2 s2.rows.length c2) ∧ W.cell? ⟨wx2.heap.size, 0, none⟩ = some (.int .i64 s2.v) ∧ W.cell? ⟨wx2.heap.size, 1, none⟩ = some (.int .i64 s2.h) ∧ W.cell? ⟨wx2.heap.size, 2, none⟩ = some (.slice B2 s2.rows.length d2)) (first | exact HSS2.out _ (Below.refl _ _).drew | exact HSS2.out _ HK2.out | exact HSS2.out _ HKK2.out)
  (first | (go_at_call 15; refine (toSystem_any s2.v s2.h A2 c2 s2.rows _ (HRZ2.out.ext (HUd2.out.base)) HL2.out HLS2.out).mono ?_; rintro e wqa ⟨u, rfl, hu, hb⟩; obtain ⟨Bq, dq, rfl, hrq, _⟩ := hu.view; have HK2 := Lib.hid ((Below.refl wq.heap.size wq).drew.trans hb); have HU2a := Lib.hid (HUd2.out.ext hb); have HRq := Lib.hid hrq; clear hu hb hrq) | (go_at_call 18; refine (eqSystem_same s2.v s2.h B2 Bq d2 dq s2.rows _ (rows_at HU2a.out.o2.own) HRq.out (len_max HL2.out) (fun r hr => len_max (HLS2.out r hr))).mono ?_; rintro e wqb ⟨rfl, hb⟩; have HKK2 := Lib.hid (below_ext HK2.out hb); have HU2b := Lib.hid (HU2a.out.ext hb); clear hb))
 go_upto_region 18 with (fail)
 obtain ⟨wq, hwq⟩ : ∃ wq, wq = wqb := ⟨_, rfl⟩
 rw [← hwq]; rw [← hwq] at HU2b
 clear hwq HU2a HK2 HKK2 HRq HSS2 HUd2 HU1b
 have hta1 := tot_nonneg s1.rows; have htb1 := tot_le s1.rows HLS1.out; have hlc1 := HL1.out
 have hta2 := tot_nonneg s2.rows; have htb2 := tot_le s2.rows HLS2.out; have hlc2 := HL2.out
 have hta9 := totS_nonneg t; have htb9 := totS_le t HTS.out; have hlc9 := HTL.out
 go_upto_region 19 with (fail)
 obtain ⟨x0, x1, x2⟩ := cells_3 HU2b.out.x1
 go_upto_region 20 with (go_at_call 20; refine (markSystem_any 1 s1.v s1.h _ _ B1 d1 s1.rows _ HU2b.out.o1 hlc1 HLS1.out (by omega) (by omega)).mono ?_; rintro e wm1 ⟨rfl, ho, hw⟩; have HM1 := Lib.hid (HU2b.out.mark1 hw ho); clear ho hw)
 clear x0 x1 x2
 clear HU2b
 obtain ⟨x0, x1, x2⟩ := cells_3 HM1.out.x2
 go_upto_region 21 with (go_at_call 20; refine (markSystem_any (1 + tot s1.rows) s2.v s2.h _ _ B2 d2 s2.rows _ HM1.out.o2 hlc2 HLS2.out (by omega) (by omega)).mono ?_; rintro e wm2 ⟨rfl, ho, hw⟩; have HM2 := Lib.hid (HM1.out.mark2 hw ho); clear ho hw)
 clear x0 x1 x2
 clear HM1
 go_upto_region 24 with (go_at_call 27; refine (eqStepS_same Cg Cs fg fs t _ (steps_at HM2.out.o9.own) (steps_at HM2.out.o0.own) HTL.out HTS.out).mono ?_; rintro e wq ⟨rfl, hb⟩; have HN1 := Lib.hid (HM2.out.ext hb); clear hb)
 clear HM2
 go_upto_region 26 with (go_at_call 33; refine (markStepS_any 1 _ _ Cg fg t _ HN1.out.o9 hlc9 HTS.out (by omega) (by omega)).mono ?_; rintro e wm9 ⟨rfl, ho, hw⟩; have HN2 := Lib.hid (HN1.out.mark9 hw ho); clear ho hw)
 clear HN1
 go_upto_region 31 with (go_at_call 34; refine (heldStepS_any 1 Cg fg t _ (steps_at HN2.out.o9.own) hlc9 HTS.out (by omega) (by omega)).mono ?_; rintro e wh ⟨rfl, rfl⟩; have HN3 := HN2)
 clear HN2
 obtain ⟨x10, x11, x12⟩ := cells_3 (box_at HQ2_1.out HN3.out.base)
 obtain ⟨x20, x21, x22⟩ := cells_3 (box_at HQ2_2.out HN3.out.base)
 clear x10 x11 x12 x20 x21 x22
 have HSBr := Lib.hid (show ∀ W, Below w2.heap.size w2 W → W.cell? ⟨w.heap.size, 0, none⟩ = some (.int .i64 s1.v) ∧ W.cell? ⟨w.heap.size, 1, none⟩ = some (.int .i64 s1.h) ∧ W.cell? ⟨w.heap.size, 2, none⟩ = some (.slice A1 s1.rows.length c1) ∧ W.cell? ⟨w.heap.size + 1, 0, none⟩ = some (.int .i64 s2.v) ∧ W.cell? ⟨w.heap.size + 1, 1, none⟩ = some (.int .i64 s2.h) ∧ W.cell? ⟨w.heap.size + 1, 2, none⟩ = some (.slice A2 s2.rows.length c2) from fun W hW => by
  obtain ⟨a10, a11, a12⟩ := cells_3 (box_at HQ2_1.out hW)
  obtain ⟨a20, a21, a22⟩ := cells_3 (box_at HQ2_2.out hW)
  exact ⟨a10, a11, a12, a20, a21, a22⟩)
 go_region_held3 (fun W => W.cell? ⟨w.heap.size, 0, none⟩ = some (.int .i64 s1.v) ∧ W.cell? ⟨w.heap.size, 1, none⟩ = some (.int .i64 s1.h) ∧ W.cell? ⟨w.heap.size, 2, none⟩ = some (.slice A1 s1.rows.length c1) ∧ W.cell? ⟨w.heap.size + 1, 0, none⟩ = some (.int .i64 s2.v) ∧ W.cell? ⟨w.heap.size + 1, 1, none⟩ = some (.int .i64 s2.h) ∧ W.cell? ⟨w.heap.size + 1, 2, none⟩ = some (.slice A2 s2.rows.length c2)) (first | exact HSBr.out _ HN3.out.base.drew | exact HSBr.out _ HXr1.out.base | exact HSBr.out _ HXr2.out.base | exact HSBr.out _ HN4.out.base)
  (first | (go_at_call 44; refine (HIMPL.out Br1 dr1 Br2 dr2 _ HXr2.out.base HYr2_1.out HYr2_2.out).mono ?_; rintro e wrr ⟨u, rfl, hu, hb⟩; obtain ⟨Cr, fr, rfl, hrr, _⟩ := hu.view; have HN4 := Lib.hid (HXr2.out.ext hb); have HRr := Lib.hid hrr; clear hu hb hrr) | (go_at_call 15; refine (toSystem_any s2.v s2.h A2 c2 s2.rows _ (HRZ2.out.ext (HXr1.out.base)) HL2.out HLS2.out).mono ?_; rintro e wxr2 ⟨u, rfl, hu, hb⟩; obtain ⟨Br2, dr2, rfl, hr, _⟩ := hu.view; have HXr2 := Lib.hid (HXr1.out.ext hb); have HYr2_2 := Lib.hid hr; have HYr2_1 := Lib.hid (HYr1_1.out.ext hb); clear hu hb hr) | (go_at_call 15; refine (toSystem_any s1.v s1.h A1 c1 s1.rows _ (HRZ1.out.ext (HN3.out.base.drew)) HL1.out HLS1.out).mono ?_; rintro e wxr1 ⟨u, rfl, hu, hb⟩; obtain ⟨Br1, dr1, rfl, hr, _⟩ := hu.view; have HXr1 := Lib.hid (HN3.out.ext ((Below.refl _ _).drew.trans hb)); have HYr1_1 := Lib.hid hr; clear hu hb hr))
 clear HSBr
 go_upto_region 35 with (go_at_call 27; refine (eqStepS_same Cr Cs fr fs t _ HRr.out (steps_at HN4.out.o0.own) HTL.out HTS.out).mono ?_; rintro e wq ⟨rfl, hb⟩; have HN6 := Lib.hid (HN4.out.ext hb); clear hb)
 go_wp2_with (go_at_call 34; refine (heldStepS_any 1 Cg fg t _ (steps_at HN6.out.o9.own) hlc9 HTS.out (by omega) (by omega)).mono ?_; rintro e wh ⟨rfl, rfl⟩; have HN7 := HN6)
 go_ret
 exact ⟨rfl, below_ext HB2.out HN7.out.base⟩
end Go.Proofs.YtjdbfokbgmbphaaGreatDoor
