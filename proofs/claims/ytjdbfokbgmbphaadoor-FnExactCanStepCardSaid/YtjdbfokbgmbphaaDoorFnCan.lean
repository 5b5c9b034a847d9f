/- laws.FnExactCanStep returns true, whatever the system and the step. Conditions: lengths of at most maxLen; the table of primes is laid. -/
import Derived.Test.YtjdbfokbgmbphaaDoorCanS
namespace Go.Proofs.YtjdbfokbgmbphaaDoor
set_option linter.unusedVariables false
set_option linter.unusedSimpArgs false
open Go.RowKit

theorem len_max {n : Nat} (h : n ≤ 1048576) : n ≤ maxLen := by unfold maxLen; omega
theorem LeftRows.le {r : Int} {rows : List (List Int)} (h : LeftRows 1048576 r rows) : r ≤ 1048576 := by
  rcases h with h | h <;> omega

set_option maxRecDepth 100000 in
set_option maxHeartbeats 4000000 in
theorem fnCan_walk (p v h k a b c : Int) (A : Option Addr) (cap : Nat) (rows : List (List Int)) (w : World) (XA : Option Addr) (row : List Int) (xcap : Nat) (hP : Primes w) (hR : RowsAt w A rows) (hX : IntsAt w XA row)
    (hm : rows.length ≤ maxLen) (hms : ∀ r ∈ rows, r.length ≤ maxLen) (hrow : row.length ≤ maxLen) :
    Calls Tryd.prog 3 #[.int .i64 p, .agg #[.int .i64 v, .int .i64 h, .slice A rows.length cap], .agg #[.int .i64 k, .int .i64 a, .int .i64 b, .int .i64 c, .slice XA row.length xcap]] w fun e w' => e = .returned (.bool true) ∧ Below w.heap.size w w' := by
  have HM := Lib.hid hm; have HMS := Lib.hid hms; have HROW := Lib.hid hrow; have HP := Lib.hid hP; have HX := Lib.hid hX
  clear hm hms hrow hP hX
  have hB : Below w.heap.size w ((w.alloc (.cells #[.int .i64 v, .int .i64 h, .slice A rows.length cap] 24)).alloc (.cells #[.int .i64 k, .int .i64 a, .int .i64 b, .int .i64 c, .slice XA row.length xcap] 27)) := ((Below.refl w.heap.size w).alloc (by simp) _).alloc (by simp) _
  have HB := Lib.hid hB
  have HSZ := Lib.hid (szSystem_any v h A cap rows 1048576 _ (hR.ext hB) HM.out HMS.out (by omega) (by omega))
  have HR := Lib.hid hR
  clear hB hR
  go_enter Tryd.func3, Tryd.ntmps3
  go_wp2_with (first | (go_at_call 4; refine HSZ.out.mono ?_; rintro e w1 ⟨q, rfl, hq, hb1⟩; have hbw := HB.out.trans (hb1.mono (B' := w.heap.size) (by simp <;> omega)); have HB1 := Lib.hid hbw; obtain ⟨c0, c1, c2, _⟩ := box3 hb1 (b := w.heap.size) ((heap_past _ _ (by simp)).trans (heap_at _ _ rfl)); obtain ⟨⟨d0, d1, d2, d3, d4⟩, _⟩ := box5 hb1 (b := w.heap.size + 1) (heap_at _ _ (by simp)); have hq2 := LeftRows.le hq; have HQ := Lib.hid hq; clear hb1 hbw hq) | (go_at_call 5; refine (szStep_any k a b c XA row.length xcap _ _ HROW.out (by omega) (by omega)).mono ?_; rintro e w2 ⟨q', rfl, hq', hb2⟩; have HB2 := Lib.hid (below_ext HB1.out hb2); have x0 := ext_cell hb2 c0; have x1 := ext_cell hb2 c1; have x2 := ext_cell hb2 c2; have y0 := ext_cell hb2 d0; have y1 := ext_cell hb2 d1; have y2 := ext_cell hb2 d2; have y3 := ext_cell hb2 d3; have y4 := ext_cell hb2 d4; have HQ' := Lib.hid hq'; clear hb2 hq' c0 c1 c2 d0 d1 d2 d3 d4))
  · go_ret
    exact ⟨rfl, HB1.out⟩
  · go_ret
    exact ⟨rfl, HB2.out⟩
  have hrl : rows.length ≤ 1048576 ∧ ∀ r ∈ rows, r.length ≤ 1048576 := by
    rcases HQ.out with h | ⟨_, _, h1, h2⟩
    · omega
    · exact ⟨by omega, fun r hr => by have := h2 r hr; omega⟩
  have hxl : row.length ≤ 1048576 := by
    rcases HQ'.out with h | ⟨_, _, h1⟩ <;> omega
  have HRL := Lib.hid hrl.1; have HRS := Lib.hid hrl.2; have HXL := Lib.hid hxl
  have HR2 := Lib.hid (HR.out.ext HB2.out); have HX2 := Lib.hid (HX.out.ext HB2.out); have HP2 := Lib.hid (HP.out.ext HB2.out)
  clear hrl hxl HQ HQ' HR HX HP HSZ HM HMS HROW HB HB1
  have hS : ∀ W, Below w2.heap.size w2 W → W.cell? ⟨w.heap.size, 0, none⟩ = some (.int .i64 v) ∧ W.cell? ⟨w.heap.size, 1, none⟩ = some (.int .i64 h) ∧ W.cell? ⟨w.heap.size, 2, none⟩ = some (.slice A rows.length cap) ∧ W.cell? ⟨w.heap.size + 1, 0, none⟩ = some (.int .i64 k) ∧ W.cell? ⟨w.heap.size + 1, 1, none⟩ = some (.int .i64 a) ∧ W.cell? ⟨w.heap.size + 1, 2, none⟩ = some (.int .i64 b) ∧ W.cell? ⟨w.heap.size + 1, 3, none⟩ = some (.int .i64 c) ∧ W.cell? ⟨w.heap.size + 1, 4, none⟩ = some (.slice XA row.length xcap) :=
    fun W hW => ⟨ext_cell hW x0, ext_cell hW x1, ext_cell hW x2, ext_cell hW y0, ext_cell hW y1, ext_cell hW y2, ext_cell hW y3, ext_cell hW y4⟩
  have HS := Lib.hid hS
  clear hS x0 x1 x2 y0 y1 y2 y3 y4
  go_region_held3 (fun W => W.cell? ⟨w.heap.size, 0, none⟩ = some (.int .i64 v) ∧ W.cell? ⟨w.heap.size, 1, none⟩ = some (.int .i64 h) ∧ W.cell? ⟨w.heap.size, 2, none⟩ = some (.slice A rows.length cap) ∧ W.cell? ⟨w.heap.size + 1, 0, none⟩ = some (.int .i64 k) ∧ W.cell? ⟨w.heap.size + 1, 1, none⟩ = some (.int .i64 a) ∧ W.cell? ⟨w.heap.size + 1, 2, none⟩ = some (.int .i64 b) ∧ W.cell? ⟨w.heap.size + 1, 3, none⟩ = some (.int .i64 c) ∧ W.cell? ⟨w.heap.size + 1, 4, none⟩ = some (.slice XA row.length xcap)) (first | exact HS.out _ (Below.refl _ _) | exact HS.out _ (Below.refl _ _).drew | exact HS.out _ HA.out | exact HS.out _ HC.out | exact HS.out _ HD.out)
    (first | (go_at_call 7; refine (toSystem_any v h A cap rows _ (HR2.out.ext ?_) HRL.out HRS.out).mono ?_; exact (Below.refl _ _).drew; rintro e w3 ⟨u, rfl, hu, hb3⟩; obtain ⟨A3, c3, rfl, hr3, _⟩ := hu.view; have HA := Lib.hid ((Below.refl w2.heap.size w2).drew.trans hb3); have HR3 := Lib.hid hr3; clear hu hb3 hr3) | (go_at_call 8; refine (toStep_any k a b c XA xcap row _ (HX2.out.ext HA.out) HXL.out).mono ?_; rintro e w4 ⟨u, rfl, hu, hb4⟩; obtain ⟨A4, c4, rfl, hr4, _⟩ := hu.view; have HC := Lib.hid (below_ext HA.out hb4); have HX4 := Lib.hid hr4; have HR4 := Lib.hid (HR3.out.ext hb4); clear hu hb4 hr4) | (go_at_call 6; refine (specCan_any p v h k a b c A3 c3 rows _ A4 row c4 HR4.out HX4.out (len_max HRL.out) (fun r hr => len_max (HRS.out r hr)) HXL.out).mono ?_; rintro e w5 ⟨rfl, hb5⟩; have HD := Lib.hid (below_ext HC.out hb5); clear hb5))
  obtain ⟨x0, x1, x2, y0, y1, y2, y3, y4⟩ := HS.out w5 HD.out
  go_upto_region 10 with (go_at_call 7; refine (toSystem_any v h A cap rows _ (HR2.out.ext HD.out) HRL.out HRS.out).mono ?_; rintro e w6 ⟨u, rfl, hu, hb6⟩; obtain ⟨A6, c6, rfl, hr6, _⟩ := hu.view; have HE := Lib.hid (below_ext HD.out hb6); have HR6 := Lib.hid hr6; clear hu hb6 hr6)
  obtain ⟨W7, hW7⟩ : ∃ W7, W7 = w6.alloc (.cells #[.int .i64 v, .int .i64 h, .slice A6 rows.length c6] 32) := ⟨_, rfl⟩
  rw [← hW7]
  have hb7 : Below w6.heap.size w6 W7 := by rw [hW7]; exact (Below.refl _ _).alloc (Nat.le_refl _) _
  have hq7 : W7.heap[w6.heap.size]? = some (.cells #[.int .i64 v, .int .i64 h, .slice A6 rows.length c6] 32 (0, 0)) := by rw [hW7]; exact heap_at _ _ rfl
  have HF := Lib.hid (below_ext HE.out hb7)
  have HR7 := Lib.hid (HR6.out.ext hb7)
  have HT := Lib.hid (show ∀ W, Below W7.heap.size W7 W → W.cell? ⟨w6.heap.size, 0, none⟩ = some (.int .i64 v) ∧ W.cell? ⟨w6.heap.size, 1, none⟩ = some (.int .i64 h) ∧ W.cell? ⟨w6.heap.size, 2, none⟩ = some (.slice A6 rows.length c6) from fun W hW => by obtain ⟨e0, e1, e2, _⟩ := box3 hW hq7; exact ⟨e0, e1, e2⟩)
  clear hb7 hq7 hW7 x0 x1 x2 y0 y1 y2 y3 y4
  obtain ⟨x0, x1, x2, y0, y1, y2, y3, y4⟩ := HS.out W7 HF.out
  go_upto_region 11 with (go_at_call 8; refine (toStep_any k a b c XA xcap row _ (HX2.out.ext HF.out) HXL.out).mono ?_; rintro e w8 ⟨u, rfl, hu, hb8⟩; obtain ⟨A8, c8, rfl, hr8, _⟩ := hu.view; have HG := Lib.hid hb8; have HX8 := Lib.hid hr8; clear hu hb8 hr8)
  obtain ⟨W9, hW9⟩ : ∃ W9, W9 = w8.alloc (.cells #[.int .i64 k, .int .i64 a, .int .i64 b, .int .i64 c, .slice A8 row.length c8] 34) := ⟨_, rfl⟩
  rw [← hW9]
  have hb9 : Below w8.heap.size w8 W9 := by rw [hW9]; exact (Below.refl _ _).alloc (Nat.le_refl _) _
  have hq9 : W9.heap[w8.heap.size]? = some (.cells #[.int .i64 k, .int .i64 a, .int .i64 b, .int .i64 c, .slice A8 row.length c8] 34 (0, 0)) := by rw [hW9]; exact heap_at _ _ rfl
  have HH := Lib.hid (below_ext HG.out hb9)
  have HX9 := Lib.hid (HX8.out.ext hb9)
  have HR9 := Lib.hid (HR7.out.ext HH.out)
  have HU := Lib.hid (show ∀ W, Below W9.heap.size W9 W → W.cell? ⟨w8.heap.size, 0, none⟩ = some (.int .i64 k) ∧ W.cell? ⟨w8.heap.size, 1, none⟩ = some (.int .i64 a) ∧ W.cell? ⟨w8.heap.size, 2, none⟩ = some (.int .i64 b) ∧ W.cell? ⟨w8.heap.size, 3, none⟩ = some (.int .i64 c) ∧ W.cell? ⟨w8.heap.size, 4, none⟩ = some (.slice A8 row.length c8) from fun W hW => by obtain ⟨⟨e0, e1, e2, e3, e4⟩, _⟩ := box5 hW hq9; exact ⟨e0, e1, e2, e3, e4⟩)
  clear hb9 hq9 hW9 x0 x1 x2 y0 y1 y2 y3 y4
  obtain ⟨x0, x1, x2⟩ := HT.out W9 HH.out
  obtain ⟨y0, y1, y2, y3, y4⟩ := HU.out W9 (Below.refl _ _)
  have HI := Lib.hid (below_ext HF.out HH.out)
  go_wp2_with (go_at_call 9; refine (implCan_any p v h k a b c A6 c6 rows _ A8 row c8 (HP2.out.ext HI.out) HR9.out HX9.out (len_max HRL.out) (fun r hr => len_max (HRS.out r hr)) HXL.out).mono ?_; rintro e w10 ⟨rfl, hb10⟩; have HJ := Lib.hid hb10; clear hb10)
  clear x0 x1 x2 y0 y1 y2 y3 y4
  have HK := Lib.hid (below_ext HI.out HJ.out)
  go_region_held3 (fun W => W.cell? ⟨w.heap.size, 0, none⟩ = some (.int .i64 v) ∧ W.cell? ⟨w.heap.size, 1, none⟩ = some (.int .i64 h) ∧ W.cell? ⟨w.heap.size, 2, none⟩ = some (.slice A rows.length cap) ∧ W.cell? ⟨w6.heap.size, 0, none⟩ = some (.int .i64 v) ∧ W.cell? ⟨w6.heap.size, 1, none⟩ = some (.int .i64 h) ∧ W.cell? ⟨w6.heap.size, 2, none⟩ = some (.slice A6 rows.length c6)) (first | exact ⟨(HS.out _ HK.out.drew).1, (HS.out _ HK.out.drew).2.1, (HS.out _ HK.out.drew).2.2.1, HT.out _ (below_ext HH.out HJ.out).drew⟩ | exact ⟨(HS.out _ HL.out).1, (HS.out _ HL.out).2.1, (HS.out _ HL.out).2.2.1, HT.out _ (below_ext (below_ext HH.out HJ.out) HM.out)⟩ | exact ⟨(HS.out _ HO.out).1, (HS.out _ HO.out).2.1, (HS.out _ HO.out).2.2.1, HT.out _ (below_ext (below_ext (below_ext HH.out HJ.out) HM.out) HN.out)⟩)
    (first | (go_at_call 7; refine (toSystem_any v h A cap rows _ (HR2.out.ext ?_) HRL.out HRS.out).mono ?_; exact HK.out.drew; rintro e w11 ⟨u, rfl, hu, hb11⟩; obtain ⟨A11, c11, rfl, hr11, _⟩ := hu.view; have HM := Lib.hid ((Below.refl w10.heap.size w10).drew.trans hb11); have HL := Lib.hid (below_ext HK.out HM.out); have HR11 := Lib.hid hr11; have HR6b := Lib.hid (HR9.out.ext (below_ext HJ.out HM.out)); clear hu hb11 hr11) | (go_at_call 10; refine (eqSystem_same v h A6 A11 c6 c11 rows _ HR6b.out HR11.out (len_max HRL.out) (fun r hr => len_max (HRS.out r hr))).mono ?_; rintro e w12 ⟨rfl, hb12⟩; have HN := Lib.hid hb12; have HO := Lib.hid (below_ext HL.out hb12); clear hb12))
  go_wp2
  have HV := Lib.hid (below_ext (below_ext HJ.out HM.out) HN.out)
  go_region_held3 (fun W => W.cell? ⟨w.heap.size + 1, 0, none⟩ = some (.int .i64 k) ∧ W.cell? ⟨w.heap.size + 1, 1, none⟩ = some (.int .i64 a) ∧ W.cell? ⟨w.heap.size + 1, 2, none⟩ = some (.int .i64 b) ∧ W.cell? ⟨w.heap.size + 1, 3, none⟩ = some (.int .i64 c) ∧ W.cell? ⟨w.heap.size + 1, 4, none⟩ = some (.slice XA row.length xcap) ∧ W.cell? ⟨w8.heap.size, 0, none⟩ = some (.int .i64 k) ∧ W.cell? ⟨w8.heap.size, 1, none⟩ = some (.int .i64 a) ∧ W.cell? ⟨w8.heap.size, 2, none⟩ = some (.int .i64 b) ∧ W.cell? ⟨w8.heap.size, 3, none⟩ = some (.int .i64 c) ∧ W.cell? ⟨w8.heap.size, 4, none⟩ = some (.slice A8 row.length c8)) (first | exact ⟨(HS.out _ HO.out.drew).2.2.2.1, (HS.out _ HO.out.drew).2.2.2.2.1, (HS.out _ HO.out.drew).2.2.2.2.2.1, (HS.out _ HO.out.drew).2.2.2.2.2.2.1, (HS.out _ HO.out.drew).2.2.2.2.2.2.2, HU.out _ HV.out.drew⟩ | exact ⟨(HS.out _ HY.out).2.2.2.1, (HS.out _ HY.out).2.2.2.2.1, (HS.out _ HY.out).2.2.2.2.2.1, (HS.out _ HY.out).2.2.2.2.2.2.1, (HS.out _ HY.out).2.2.2.2.2.2.2, HU.out _ (below_ext HV.out HW.out)⟩ | exact ⟨(HS.out _ (below_ext HY.out HZ.out)).2.2.2.1, (HS.out _ (below_ext HY.out HZ.out)).2.2.2.2.1, (HS.out _ (below_ext HY.out HZ.out)).2.2.2.2.2.1, (HS.out _ (below_ext HY.out HZ.out)).2.2.2.2.2.2.1, (HS.out _ (below_ext HY.out HZ.out)).2.2.2.2.2.2.2, HU.out _ (below_ext (below_ext HV.out HW.out) HZ.out)⟩)
    (first | (go_at_call 8; refine (toStep_any k a b c XA xcap row _ (HX2.out.ext ?_) HXL.out).mono ?_; exact HO.out.drew; rintro e w13 ⟨u, rfl, hu, hb13⟩; obtain ⟨A13, c13, rfl, hr13, _⟩ := hu.view; have HW := Lib.hid ((Below.refl w12.heap.size w12).drew.trans hb13); have HY := Lib.hid (below_ext HO.out HW.out); have HX13 := Lib.hid hr13; have HX9b := Lib.hid (HX9.out.ext (below_ext HV.out HW.out)); clear hu hb13 hr13) | (go_at_call 11; refine (eqStep_same k a b c A8 A13 c8 c13 row _ HX9b.out HX13.out (len_max HXL.out)).mono ?_; rintro e w14 ⟨rfl, hb14⟩; have HZ := Lib.hid hb14; clear hb14))
  go_wp2
  go_ret
  exact ⟨rfl, below_ext (below_ext HB2.out HY.out) HZ.out⟩
end Go.Proofs.YtjdbfokbgmbphaaDoor
