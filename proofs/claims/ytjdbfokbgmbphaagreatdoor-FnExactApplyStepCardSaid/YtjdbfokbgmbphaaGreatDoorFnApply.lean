/- laws.FnExactApplyStep returns true, whatever the system and the step. Conditions: lengths of at most maxLen; the table of primes is laid. -/
import Derived.Test.YtjdbfokbgmbphaaGreatDoorUA
import Derived.Test.YtjdbfokbgmbphaaGreatDoorStM
import Derived.Deep.Cut
namespace Go.Proofs.YtjdbfokbgmbphaaGreatDoor
set_option linter.unusedVariables false
set_option linter.unusedSimpArgs false
open Go.RowKit

theorem heap_at_drew (w : World) (o : Obj) : (w.alloc o).drew.heap[w.heap.size]? = some o := heap_at w o rfl
theorem sz1 {w w3 : World} {o : Obj} (h : Below (w.alloc o).drew.heap.size (w.alloc o).drew w3) : w.heap.size ≤ w.heap.size ∧ w.heap.size + 1 ≤ w3.heap.size := ⟨Nat.le_refl _, by have := h.size; simpa using this⟩
theorem sz2 {n : Nat} {w3 w4 : World} {o : Obj} (h0 : n ≤ w3.heap.size) (h : Below (w3.alloc o).heap.size (w3.alloc o) w4) : n ≤ w3.heap.size ∧ w3.heap.size + 1 ≤ w4.heap.size := ⟨h0, by have := h.size; simpa using this⟩
theorem sz3 {n b : Nat} {w3 w4 : World} (h0 : n ≤ b ∧ b + 1 ≤ w3.heap.size) (h : Below w3.heap.size w3 w4) : n ≤ b ∧ b + 1 ≤ w4.heap.size := ⟨h0.1, Nat.le_trans h0.2 h.size⟩
theorem sz4 {w4 w5 : World} {o : Obj} (h : Below (w4.alloc o).heap.size (w4.alloc o) w5) : w4.heap.size + 1 ≤ w5.heap.size := by have := h.size; simpa using this
theorem aR_le {ok : Bool} {p v h k a b c : Int} {rows : List (List Int)} {row : List Int} (hok : (sysB p v h rows && stB p v h rows k a b c row) = ok) : (aR ok p v h rows k a b c row).length ≤ 1048576 ∧ ∀ r ∈ aR ok p v h rows k a b c row, r.length ≤ 1048576 := by
  unfold aR
  cases ok with
  | false => simp
  | true =>
    rw [Bool.and_eq_true] at hok
    have s := sysB_iff.1 hok.1
    have h2 := s.h0; have h3 := s.h100; have h4 := s.v0; have h5 := s.v24; have h6 := s.n
    have hms : ∀ r ∈ rows, r.length ≤ 1000 := fun r hr => by have := s.len r hr; omega
    rw [if_pos rfl]
    by_cases hrow : row.length ≤ 1000
    · have := rowsNew_le (p := p) (v := v) (k := k) (a := a) (b := b) (c := c) (rows := rows) (row := row) (n := (v + h).toNat) (by omega) hms hrow (by omega)
      exact ⟨by omega, fun r hr => by have := this.2 r hr; omega⟩
    · have hst := hok.2
      unfold stB at hst
      rw [Bool.and_eq_true] at hst
      have he := hst.1
      replace hst := hst.2
      by_cases h7 : k = 7
      · subst h7
        simp [inB_iff] at hst
        omega
      · unfold emB at he
        simp [h7] at he
        have := he.2.2.2
        simp [this] at hrow
theorem own_alloc {w4 w5 : World} {o : Obj} {v : Value} {xs : List (List Int)} (h : OwnRows w5 (w4.alloc o).heap.size v xs) : OwnRows w5 (w4.heap.size + 1) v xs := by simpa only [World.size_alloc] using h

set_option maxRecDepth 100000 in
set_option maxHeartbeats 8000000 in
theorem fnApply_walk (p v h k a b c : Int) (A : Option Addr) (cap : Nat) (rows : List (List Int)) (w : World) (XA : Option Addr) (row : List Int) (xcap : Nat) (hP : Primes w) (hR : RowsAt w A rows) (hX : IntsAt w XA row)
    (hm : rows.length ≤ maxLen) (hms : ∀ r ∈ rows, r.length ≤ maxLen) (hrow : row.length ≤ maxLen) :
    Calls Tryz.prog 3 #[.int .i64 p, .agg #[.int .i64 v, .int .i64 h, .slice A rows.length cap], .agg #[.int .i64 k, .int .i64 a, .int .i64 b, .int .i64 c, .slice XA row.length xcap]] w fun e w' => e = .returned (.bool true) ∧ Below w.heap.size w w' := by
  have HM := Lib.hid hm; have HMS := Lib.hid hms; have HROW := Lib.hid hrow; have HP := Lib.hid hP; have HX := Lib.hid hX
  clear hm hms hrow hP hX
  have hB : Below w.heap.size w ((w.alloc (.cells #[.int .i64 v, .int .i64 h, .slice A rows.length cap] 24)).alloc (.cells #[.int .i64 k, .int .i64 a, .int .i64 b, .int .i64 c, .slice XA row.length xcap] 27)) := ((Below.refl w.heap.size w).alloc (by simp) _).alloc (by simp) _
  have HB := Lib.hid hB
  have HSZ := Lib.hid (szSystem_any v h A cap rows 1048576 _ (hR.ext hB) HM.out HMS.out (by omega) (by omega))
  have HR := Lib.hid hR
  clear hB hR
  obtain ⟨ok, hok⟩ : ∃ ok, (sysB p v h rows && stB p v h rows k a b c row) = ok := ⟨_, rfl⟩
  obtain ⟨v', hv'⟩ : ∃ x, x = aV ok v := ⟨_, rfl⟩
  obtain ⟨h', hh'⟩ : ∃ x, x = aH ok k h := ⟨_, rfl⟩
  obtain ⟨R', hr'⟩ : ∃ x, x = aR ok p v h rows k a b c row := ⟨_, rfl⟩
  have HOK := Lib.hid hok; have HV' := Lib.hid hv'; have HH' := Lib.hid hh'; have HR' := Lib.hid hr'
  clear hok hv' hh' hr'
  go_enter Tryz.func3, Tryz.ntmps3
  go_wp2_with (first | (go_at_call 12; refine HSZ.out.mono ?_; rintro e w1 ⟨q, rfl, hq, hb1⟩; have hbw := HB.out.trans (hb1.mono (B' := w.heap.size) (by simp <;> omega)); have HB1 := Lib.hid hbw; obtain ⟨c0, c1, c2, _⟩ := box3 hb1 (b := w.heap.size) ((heap_past _ _ (by simp)).trans (heap_at _ _ rfl)); obtain ⟨⟨d0, d1, d2, d3, d4⟩, _⟩ := box5 hb1 (b := w.heap.size + 1) (heap_at _ _ (by simp)); have hq2 := LeftRows.le hq; have HQ := Lib.hid hq; clear hb1 hbw hq) | (go_at_call 13; refine (szStep_any k a b c XA row.length xcap _ _ HROW.out (by omega) (by omega)).mono ?_; rintro e w2 ⟨q', rfl, hq', hb2⟩; have HB2 := Lib.hid (below_ext HB1.out hb2); have x0 := ext_cell hb2 c0; have x1 := ext_cell hb2 c1; have x2 := ext_cell hb2 c2; have y0 := ext_cell hb2 d0; have y1 := ext_cell hb2 d1; have y2 := ext_cell hb2 d2; have y3 := ext_cell hb2 d3; have y4 := ext_cell hb2 d4; have HQ' := Lib.hid hq'; clear hb2 hq' c0 c1 c2 d0 d1 d2 d3 d4))
  · go_ret
    exact ⟨rfl, HB1.out⟩
  · go_ret
    exact ⟨rfl, HB2.out⟩
  have hrl : rows.length ≤ 1048576 ∧ ∀ r ∈ rows, r.length ≤ 1048576 := by
    rcases HQ.out with h | ⟨_, _, h1, h2⟩
    · omega
    · exact ⟨by omega, fun r hr => by have := h2 r hr; omega⟩
  have hxl : row.length ≤ 1048576 := by
    rcases HQ'.out with h | ⟨_, _, h1⟩ <;> omega
  have hrl' : R'.length ≤ 1048576 ∧ ∀ r ∈ R', r.length ≤ 1048576 := by
    rw [HR'.out]
    exact aR_le HOK.out
  have HRL := Lib.hid hrl.1; have HRS := Lib.hid hrl.2; have HXL := Lib.hid hxl; have HRL' := Lib.hid hrl'.1; have HRS' := Lib.hid hrl'.2
  have HR2 := Lib.hid (HR.out.ext HB2.out); have HX2 := Lib.hid (HX.out.ext HB2.out); have HP2 := Lib.hid (HP.out.ext HB2.out)
  have SPEC := fun (A3 A4 : Option Addr) (c3 c4 : Nat) (W : World) (_ : Below w2.heap.size w2 W) (h1 : RowsAt W A3 rows) (h2 : IntsAt W A4 row) => specApply_any p v h k a b c A3 c3 rows W A4 row c4 h1 h2 (len_max hrl.1) (fun r hr => len_max (hrl.2 r hr)) hxl ok HOK.out
  have IMPL := fun (A3 A4 : Option Addr) (c3 c4 : Nat) (W : World) (h0 : Below w2.heap.size w2 W) (h1 : RowsAt W A3 rows) (h2 : IntsAt W A4 row) => implApply_any p v h k a b c A3 c3 rows W A4 row c4 (HP2.out.ext h0) h1 h2 (len_max hrl.1) (fun r hr => len_max (hrl.2 r hr)) hxl ok HOK.out
  simp only [← HV'.out, ← HH'.out, ← HR'.out] at SPEC IMPL
  have SPEC := Lib.hid SPEC; have IMPL := Lib.hid IMPL
  have hS : ∀ W, Below w2.heap.size w2 W → W.cell? ⟨w.heap.size, 0, none⟩ = some (.int .i64 v) ∧ W.cell? ⟨w.heap.size, 1, none⟩ = some (.int .i64 h) ∧ W.cell? ⟨w.heap.size, 2, none⟩ = some (.slice A rows.length cap) ∧ W.cell? ⟨w.heap.size + 1, 0, none⟩ = some (.int .i64 k) ∧ W.cell? ⟨w.heap.size + 1, 1, none⟩ = some (.int .i64 a) ∧ W.cell? ⟨w.heap.size + 1, 2, none⟩ = some (.int .i64 b) ∧ W.cell? ⟨w.heap.size + 1, 3, none⟩ = some (.int .i64 c) ∧ W.cell? ⟨w.heap.size + 1, 4, none⟩ = some (.slice XA row.length xcap) :=
    fun W hW => ⟨ext_cell hW x0, ext_cell hW x1, ext_cell hW x2, ext_cell hW y0, ext_cell hW y1, ext_cell hW y2, ext_cell hW y3, ext_cell hW y4⟩
  have HS := Lib.hid hS
  clear hrl hxl hrl' HQ HQ' HR HX HP HSZ HM HMS HROW HB HB1 HOK HV' HH' HR' hS x0 x1 x2 y0 y1 y2 y3 y4
  have TS := Lib.hid (fun W (hW : Below w2.heap.size w2 W) => toSystem_any v h A cap rows W (HR2.out.ext hW) HRL.out HRS.out)
  have TP := Lib.hid (fun W (hW : Below w2.heap.size w2 W) => toStep_any k a b c XA xcap row W (HX2.out.ext hW) HXL.out)
  have LD := Lib.hid ((Below.refl w2.heap.size w2).drew)
  have LA := Lib.hid (fun o => ((Below.refl w2.heap.size w2).alloc (Nat.le_refl _) o).drew)
  go_cut [8, 9] from 19 (fun z8 z9 W => ResA w2 v' h' R' ok z8 z9 W)
  case first =>
    go_region_held3 (fun W => W.cell? ⟨w.heap.size, 0, none⟩ = some (.int .i64 v) ∧ W.cell? ⟨w.heap.size, 1, none⟩ = some (.int .i64 h) ∧ W.cell? ⟨w.heap.size, 2, none⟩ = some (.slice A rows.length cap) ∧ W.cell? ⟨w.heap.size + 1, 0, none⟩ = some (.int .i64 k) ∧ W.cell? ⟨w.heap.size + 1, 1, none⟩ = some (.int .i64 a) ∧ W.cell? ⟨w.heap.size + 1, 2, none⟩ = some (.int .i64 b) ∧ W.cell? ⟨w.heap.size + 1, 3, none⟩ = some (.int .i64 c) ∧ W.cell? ⟨w.heap.size + 1, 4, none⟩ = some (.slice XA row.length xcap)) (first | with_reducible exact HS.out _ LD.out | with_reducible exact HS.out _ (LA.out _) | with_reducible exact HS.out _ HA.out | with_reducible exact HS.out _ (HA.out.alloc HA.out.size _) | with_reducible exact HS.out _ HC.out | with_reducible exact HS.out _ (HC.out.alloc HC.out.size _) | with_reducible exact HS.out _ HD.out | with_reducible exact HS.out _ (HD.out.alloc HD.out.size _) | with_reducible exact HS.out _ (below_set3' HD.out B8.out.1 _ _ _))
      (first | (go_at_call 15; first | ((with_reducible refine (TS.out (World.drew (World.alloc w2 _)) (LA.out _)).mono ?_); rintro e w3 ⟨u, rfl, hu, hb3⟩; obtain ⟨A3, c3, rfl, hr3, _⟩ := hu.view; have Q8 := Lib.hid (box_at (heap_at_drew w2 _) hb3); have HA := Lib.hid (below_ext (LA.out _) hb3); have B8 := Lib.hid (sz1 hb3); have HR3 := Lib.hid hr3; clear hu hb3 hr3) | ((with_reducible refine (TS.out (World.drew w2) LD.out).mono ?_); rintro e w3 ⟨u, rfl, hu, hb3⟩; obtain ⟨A3, c3, rfl, hr3, _⟩ := hu.view; have HA := Lib.hid (below_ext LD.out hb3); have HR3 := Lib.hid hr3; clear hu hb3 hr3)) | (go_at_call 16; first | ((with_reducible refine (TP.out (World.alloc w3 _) (HA.out.alloc HA.out.size _)).mono ?_); rintro e w4 ⟨u, rfl, hu, hb4⟩; obtain ⟨A4, c4, rfl, hr4, _⟩ := hu.view; have Q8 := Lib.hid (box_at (heap_at w3 _ rfl) hb4); have HC := Lib.hid (below_ext (HA.out.alloc HA.out.size _) hb4); have B8 := Lib.hid (sz2 HA.out.size hb4); have HX4 := Lib.hid hr4; have HR4 := Lib.hid (HR3.out.ext (below_ext ((Below.refl _ _).alloc (Nat.le_refl _) _) hb4)); have HR4A := Lib.hid (fun o => HR4.out.ext ((Below.refl _ _).alloc (Nat.le_refl _) o)); have HX4A := Lib.hid (fun o => HX4.out.ext ((Below.refl _ _).alloc (Nat.le_refl _) o)); clear hu hb4 hr4) | ((with_reducible refine (TP.out w3 HA.out).mono ?_); rintro e w4 ⟨u, rfl, hu, hb4⟩; obtain ⟨A4, c4, rfl, hr4, _⟩ := hu.view; (try have Q8 := Lib.hid (box_at Q8.out hb4)); (try have B8 := Lib.hid (sz3 B8.out hb4)); have HC := Lib.hid (below_ext HA.out hb4); have HX4 := Lib.hid hr4; have HR4 := Lib.hid (HR3.out.ext hb4); have HR4A := Lib.hid (fun o => HR4.out.ext ((Below.refl _ _).alloc (Nat.le_refl _) o)); have HX4A := Lib.hid (fun o => HX4.out.ext ((Below.refl _ _).alloc (Nat.le_refl _) o)); clear hu hb4 hr4)) | (go_at_call 14; first | ((with_reducible refine (SPEC.out A3 A4 c3 c4 (World.alloc w4 _) (HC.out.alloc HC.out.size _) (HR4A.out _) (HX4A.out _)).mono ?_); rintro e w5 ⟨u, rfl, hu, hb5⟩; obtain ⟨A8, c8, rfl, _⟩ := hu.view; have Q8 := Lib.hid (box_at (heap_at w4 _ rfl) hb5); have B8 := Lib.hid (And.intro HC.out.size (Nat.le_refl (w4.heap.size + 1))); have HU8 := Lib.hid (own_alloc hu); have HD := Lib.hid (below_ext (HC.out.alloc HC.out.size _) hb5); have S5 := Lib.hid (sz4 hb5); clear hb5 hu; obtain ⟨g0, g1, g2, f0, f1, f2⟩ := box3 (Below.refl _ _) Q8.out) | ((with_reducible refine (SPEC.out A3 A4 c3 c4 w4 HC.out HR4.out HX4.out).mono ?_); rintro e w5 ⟨u, rfl, hu, hb5⟩; obtain ⟨A8, c8, rfl, _⟩ := hu.view; (try have Q8 := Lib.hid (box_at Q8.out hb5)); have HU8 := Lib.hid hu; have HD := Lib.hid (below_ext HC.out hb5); have S5 := Lib.hid hb5.size; clear hb5 hu; (try (have hg := box3 (Below.refl _ _) Q8.out; obtain ⟨g0, g1, g2, f0, f1, f2⟩ := hg)))))
    all_goals
      go_wp2_with fail
      go_meet
      first | exact ResA.late HD.out HU8.out HC.out.size S5.out | exact ResA.early HD.out HU8.out Q8.out B8.out S5.out
  case rest =>
    obtain ⟨b8, l8, h8, A8, c8, rfl, rfl, HB, ho, hx, hi⟩ := hcut

    have HWB := Lib.hid HB; have HX8 := Lib.hid hx; have HI8 := Lib.hid hi; have HO8 := Lib.hid ho
    clear HB hx hi ho TS TP LD LA
    obtain ⟨x0, x1, x2, y0, y1, y2, y3, y4⟩ := HS.out wc HWB.out
    go_upto_region 10 with (go_at_call 15; refine (toSystem_any v h A cap rows _ (HR2.out.ext HWB.out) HRL.out HRS.out).mono ?_; rintro e w6 ⟨u, rfl, hu, hb6⟩; obtain ⟨A10, c10, rfl, hr6, _⟩ := hu.view; have HE := Lib.hid hb6; have HR6 := Lib.hid hr6; have HU10 := Lib.hid (Has.of hu); clear hu hb6 hr6)
    obtain ⟨W7, hW7⟩ : ∃ W7, W7 = w6.alloc (.cells #[.int .i64 v, .int .i64 h, .slice A10 rows.length c10] 30) := ⟨_, rfl⟩
    rw [← hW7]
    have hb7 : Below w6.heap.size w6 W7 := by rw [hW7]; exact (Below.refl _ _).alloc (Nat.le_refl _) _
    have hq7 : W7.heap[w6.heap.size]? = some (.cells #[.int .i64 v, .int .i64 h, .slice A10 rows.length c10] 30 (0, 0)) := by rw [hW7]; exact heap_at _ _ rfl
    have hs7 : W7.heap.size = w6.heap.size + 1 := by rw [hW7]; simp
    have H67 := Lib.hid hb7; have Q7 := Lib.hid hq7; have S7 := Lib.hid hs7
    have HF := Lib.hid (below_ext HE.out hb7)
    have HF2 := Lib.hid (below_ext HWB.out HF.out)
    have HR7 := Lib.hid (HR6.out.ext hb7)
    clear hb7 hq7 hW7 hs7 x0 x1 x2 y0 y1 y2 y3 y4
    obtain ⟨x0, x1, x2, y0, y1, y2, y3, y4⟩ := HS.out W7 HF2.out
    go_upto_region 11 with (go_at_call 16; refine (toStep_any k a b c XA xcap row _ (HX2.out.ext HF2.out) HXL.out).mono ?_; rintro e w8 ⟨u, rfl, hu, hb8⟩; obtain ⟨A11, c11, rfl, hr8, _⟩ := hu.view; have HG := Lib.hid hb8; have HX8i := Lib.hid hr8; have HU11 := Lib.hid (HasI.of hu); clear hu hb8 hr8)
    obtain ⟨W9, hW9⟩ : ∃ W9, W9 = w8.alloc (.cells #[.int .i64 k, .int .i64 a, .int .i64 b, .int .i64 c, .slice A11 row.length c11] 34) := ⟨_, rfl⟩
    rw [← hW9]
    have hb9 : Below w8.heap.size w8 W9 := by rw [hW9]; exact (Below.refl _ _).alloc (Nat.le_refl _) _
    have hq9 : W9.heap[w8.heap.size]? = some (.cells #[.int .i64 k, .int .i64 a, .int .i64 b, .int .i64 c, .slice A11 row.length c11] 34 (0, 0)) := by rw [hW9]; exact heap_at _ _ rfl
    have hs9 : W9.heap.size = w8.heap.size + 1 := by rw [hW9]; simp
    have H89 := Lib.hid hb9; have Q9 := Lib.hid hq9; have S9 := Lib.hid hs9
    have HH := Lib.hid (below_ext HG.out hb9)
    have HI := Lib.hid (below_ext HF2.out HH.out)
    have HX9 := Lib.hid (HX8i.out.ext hb9)
    have HR9 := Lib.hid (HR7.out.ext HH.out)
    clear hb9 hq9 hW9 hs9 x0 x1 x2 y0 y1 y2 y3 y4
    obtain ⟨x0, x1, x2⟩ := cells_3 (box_at Q7.out HH.out)
    obtain ⟨y0, y1, y2, y3, y4⟩ := cells_5 Q9.out
    go_upto_region 12 with (go_at_call 17; refine (IMPL.out A10 A11 c10 c11 _ HI.out HR9.out HX9.out).mono ?_; rintro e w10 ⟨u, rfl, hu, hb10⟩; obtain ⟨A12, c12, rfl, _⟩ := hu.view; have HJ := Lib.hid hb10; have HU12 := Lib.hid (Has.of hu); clear hu hb10)
    obtain ⟨W11, hW11⟩ : ∃ W11, W11 = w10.alloc (.cells #[.int .i64 v', .int .i64 h', .slice A12 R'.length c12] 30) := ⟨_, rfl⟩
    rw [← hW11]
    have hb11 : Below w10.heap.size w10 W11 := by rw [hW11]; exact (Below.refl _ _).alloc (Nat.le_refl _) _
    have hq11 : W11.heap[w10.heap.size]? = some (.cells #[.int .i64 v', .int .i64 h', .slice A12 R'.length c12] 30 (0, 0)) := by rw [hW11]; exact heap_at _ _ rfl
    have B9 := below_ext HJ.out hb11
    have B8' := below_ext H89.out B9
    have B7 := below_ext HH.out B9
    have B6 := below_ext H67.out B7
    have Bc := below_ext HF.out B7
    have U : UA w2 #[.int .i64 v', .int .i64 h', .slice A8 R'.length c8] #[.int .i64 v, .int .i64 h, .slice A10 rows.length c10] #[.int .i64 k, .int .i64 a, .int .i64 b, .int .i64 c, .slice A11 row.length c11] #[.int .i64 v', .int .i64 h', .slice A12 R'.length c12] (.slice A8 R'.length c8) (.slice A10 rows.length c10) (.slice A11 row.length c11) (.slice A12 R'.length c12) R' rows row R' l8 h8 b8 wc.heap.size w6.heap.size w6.heap.size W7.heap.size w8.heap.size w8.heap.size W9.heap.size w10.heap.size w10.heap.size W11 := by
      refine ⟨below_ext HI.out B9, ⟨HO8.out.1, HO8.out.2.1, HO8.out.2.2.1, HO8.out.2.2.2.1, HO8.out.2.2.2.2.1, HO8.out.2.2.2.2.2, HE.out.size, Nat.le_refl _, ?_, HG.out.size, Nat.le_refl _, ?_, HJ.out.size, Nat.le_refl _⟩, box_at HX8.out Bc, box_at Q7.out B7, box_at Q9.out B9, hq11, HI8.out.ext Bc, HU10.out.ext B6, HU11.out.ext B8', HU12.out.ext hb11⟩
      · have := S7.out; omega
      · have := S9.out; omega
    obtain ⟨l10, hl10⟩ : ∃ l10, l10 = wc.heap.size := ⟨_, rfl⟩
    rw [← hl10] at U
    have HUS := Lib.hid U
    clear U hl10 hb11 hq11 B9 B8' B7 B6 Bc hW11 x0 x1 x2 y0 y1 y2 y3 y4 HWB HX8 HI8 HO8 HE HR6 HU10 H67 Q7 S7 HF HF2 HR7 HG HX8i HU11 H89 Q9 S9 HH HI HX9 HR9 HJ HU12
    obtain ⟨x0, x1, x2⟩ := cells_3 HUS.out.x12
    obtain ⟨y0, y1, y2⟩ := cells_3 HUS.out.x8
    go_upto_region 14 with (go_at_call 18; refine (eqSystem_same v' h' A12 A8 c12 c8 R' _ (rows_at HUS.out.o12.own) (rows_at HUS.out.o8.own) (len_max HRL'.out) (fun r hr => len_max (HRS'.out r hr))).mono ?_; rintro e w13 ⟨rfl, hb⟩; have HU13 := Lib.hid (HUS.out.ext hb); clear hb)
    clear x0 x1 x2 y0 y1 y2
    have HU13d := Lib.hid (HU13.out.ext (Below.refl _ _).drew)
    go_region_held3 (fun W => W.cell? ⟨w.heap.size, 0, none⟩ = some (.int .i64 v) ∧ W.cell? ⟨w.heap.size, 1, none⟩ = some (.int .i64 h) ∧ W.cell? ⟨w.heap.size, 2, none⟩ = some (.slice A rows.length cap) ∧ W.cell? ⟨w6.heap.size, 0, none⟩ = some (.int .i64 v) ∧ W.cell? ⟨w6.heap.size, 1, none⟩ = some (.int .i64 h) ∧ W.cell? ⟨w6.heap.size, 2, none⟩ = some (.slice A10 rows.length c10)) (first | with_reducible exact ⟨(HS.out _ HU13d.out.base).1, (HS.out _ HU13d.out.base).2.1, (HS.out _ HU13d.out.base).2.2.1, cells_3 HU13d.out.x10⟩ | with_reducible exact ⟨(HS.out _ HU14.out.base).1, (HS.out _ HU14.out.base).2.1, (HS.out _ HU14.out.base).2.2.1, cells_3 HU14.out.x10⟩ | with_reducible exact ⟨(HS.out _ HU15.out.base).1, (HS.out _ HU15.out.base).2.1, (HS.out _ HU15.out.base).2.2.1, cells_3 HU15.out.x10⟩)
      (first | (go_at_call 15; refine (toSystem_any v h A cap rows _ (HR2.out.ext HU13d.out.base) HRL.out HRS.out).mono ?_; rintro e w14 ⟨u, rfl, hu, hb⟩; obtain ⟨A14, c14, rfl, hr14, _⟩ := hu.view; have HU14 := Lib.hid (HU13d.out.ext hb); have HR14 := Lib.hid hr14; clear hu hb hr14) | (go_at_call 18; refine (eqSystem_same v h A10 A14 c10 c14 rows _ (rows_at HU14.out.o10.own) HR14.out (len_max HRL.out) (fun r hr => len_max (HRS.out r hr))).mono ?_; rintro e w15 ⟨rfl, hb⟩; have HU15 := Lib.hid (HU14.out.ext hb); clear hb))
    go_wp2
    have HU15d := Lib.hid (HU15.out.ext (Below.refl _ _).drew)
    go_region_held3 (fun W => W.cell? ⟨w.heap.size + 1, 0, none⟩ = some (.int .i64 k) ∧ W.cell? ⟨w.heap.size + 1, 1, none⟩ = some (.int .i64 a) ∧ W.cell? ⟨w.heap.size + 1, 2, none⟩ = some (.int .i64 b) ∧ W.cell? ⟨w.heap.size + 1, 3, none⟩ = some (.int .i64 c) ∧ W.cell? ⟨w.heap.size + 1, 4, none⟩ = some (.slice XA row.length xcap) ∧ W.cell? ⟨w8.heap.size, 0, none⟩ = some (.int .i64 k) ∧ W.cell? ⟨w8.heap.size, 1, none⟩ = some (.int .i64 a) ∧ W.cell? ⟨w8.heap.size, 2, none⟩ = some (.int .i64 b) ∧ W.cell? ⟨w8.heap.size, 3, none⟩ = some (.int .i64 c) ∧ W.cell? ⟨w8.heap.size, 4, none⟩ = some (.slice A11 row.length c11)) (first | with_reducible exact ⟨(HS.out _ HU15d.out.base).2.2.2.1, (HS.out _ HU15d.out.base).2.2.2.2.1, (HS.out _ HU15d.out.base).2.2.2.2.2.1, (HS.out _ HU15d.out.base).2.2.2.2.2.2.1, (HS.out _ HU15d.out.base).2.2.2.2.2.2.2, cells_5 HU15d.out.x11⟩ | with_reducible exact ⟨(HS.out _ HU16.out.base).2.2.2.1, (HS.out _ HU16.out.base).2.2.2.2.1, (HS.out _ HU16.out.base).2.2.2.2.2.1, (HS.out _ HU16.out.base).2.2.2.2.2.2.1, (HS.out _ HU16.out.base).2.2.2.2.2.2.2, cells_5 HU16.out.x11⟩ | with_reducible exact ⟨(HS.out _ HU17.out.base).2.2.2.1, (HS.out _ HU17.out.base).2.2.2.2.1, (HS.out _ HU17.out.base).2.2.2.2.2.1, (HS.out _ HU17.out.base).2.2.2.2.2.2.1, (HS.out _ HU17.out.base).2.2.2.2.2.2.2, cells_5 HU17.out.x11⟩)
      (first | (go_at_call 16; refine (toStep_any k a b c XA xcap row _ (HX2.out.ext HU15d.out.base) HXL.out).mono ?_; rintro e w16 ⟨u, rfl, hu, hb⟩; obtain ⟨A16, c16, rfl, hr16, _⟩ := hu.view; have HU16 := Lib.hid (HU15d.out.ext hb); have HX16 := Lib.hid hr16; clear hu hb hr16) | (go_at_call 19; refine (eqStep_same k a b c A11 A16 c11 c16 row _ (ints_at HU16.out.o11.own) HX16.out (len_max HXL.out)).mono ?_; rintro e w17 ⟨rfl, hb⟩; have HU17 := Lib.hid (HU16.out.ext hb); clear hb))
    obtain ⟨x0, x1, x2⟩ := cells_3 HU17.out.x10
    have ht0 := tot_nonneg rows
    have ht1 := tot_le rows HRS.out
    have hl1 := HRL.out; have hl2 := HXL.out; have hl3 := HRL'.out
    have ht2 := tot_nonneg R'
    have ht3 := tot_le R' HRS'.out
    go_upto_region 20 with (go_at_call 20; refine (markSystem_any 1 v h _ _ A10 c10 rows _ HU17.out.o10 hl1 HRS.out (by omega) (by omega)).mono ?_; rintro e w19 ⟨rfl, ho, hw⟩; have HU19 := Lib.hid (HU17.out.mark10 hw ho); clear ho hw)
    clear x0 x1 x2
    obtain ⟨x0, x1, x2, x3, x4⟩ := cells_5 HU19.out.x11
    go_upto_region 21 with (go_at_call 21; refine (markStep_any (1 + tot rows) k a b c _ _ A11 c11 row _ HU19.out.o11 hl2 (by omega) (by omega)).mono ?_; rintro e w20 ⟨rfl, ho, hw⟩; have HU20 := Lib.hid (HU19.out.mark11 hw ho); clear ho hw)
    clear x0 x1 x2 x3 x4
    obtain ⟨x0, x1, x2⟩ := cells_3 HU20.out.x12
    obtain ⟨y0, y1, y2⟩ := cells_3 HU20.out.x8
    go_upto_region 24 with (go_at_call 18; refine (eqSystem_same v' h' A12 A8 c12 c8 R' _ (rows_at HU20.out.o12.own) (rows_at HU20.out.o8.own) (len_max HRL'.out) (fun r hr => len_max (HRS'.out r hr))).mono ?_; rintro e w21 ⟨rfl, hb⟩; have HU21 := Lib.hid (HU20.out.ext hb); clear hb)
    clear x0 x1 x2 y0 y1 y2
    obtain ⟨x0, x1, x2⟩ := cells_3 HU21.out.x12
    go_upto_region 26 with (go_at_call 20; refine (markSystem_any 1 v' h' _ _ A12 c12 R' _ HU21.out.o12 hl3 HRS'.out (by omega) (by omega)).mono ?_; rintro e w24 ⟨rfl, ho, hw⟩; have HU24 := Lib.hid (HU21.out.mark12 hw ho); clear ho hw)
    clear x0 x1 x2
    obtain ⟨x0, x1, x2⟩ := cells_3 HU24.out.x12
    go_upto_region 31 with (go_at_call 22; refine (heldSystem_any 1 v' h' A12 c12 R' _ (rows_at HU24.out.o12.own) hl3 HRS'.out (by omega) (by omega)).mono ?_; rintro e w26 ⟨rfl, hb⟩; have HU26 := Lib.hid (HU24.out.ext hb); clear hb)
    clear x0 x1 x2
    have HR26 := Lib.hid (HR2.out.ext HU26.out.base); have HX26 := Lib.hid (HX2.out.ext HU26.out.base)
    have HS26 := Lib.hid (fun W (hW : Below w26.heap.size w26 W) => HS.out W (below_ext HU26.out.base hW))
    have IMPL26 := Lib.hid (fun (A3 A4 : Option Addr) (c3 c4 : Nat) (W : World) (h0 : Below w26.heap.size w26 W) (h1 : RowsAt W A3 rows) (h2 : IntsAt W A4 row) => IMPL.out A3 A4 c3 c4 W (below_ext HU26.out.base h0) h1 h2)
    clear HU13 HU13d HU15 HU15d HU17 HU19 HU20 HU21 HU24
    have TS := Lib.hid (fun W (hW : Below w26.heap.size w26 W) => toSystem_any v h A cap rows W (HR26.out.ext hW) HRL.out HRS.out)
    have TP := Lib.hid (fun W (hW : Below w26.heap.size w26 W) => toStep_any k a b c XA xcap row W (HX26.out.ext hW) HXL.out)
    have LD := Lib.hid ((Below.refl w26.heap.size w26).drew)
    have LA := Lib.hid (fun o => ((Below.refl w26.heap.size w26).alloc (Nat.le_refl _) o).drew)
    go_cut [17, 18] from 19 (fun z8 z9 W => ResA w26 v' h' R' ok z8 z9 W)
    case first =>
      go_region_held3 (fun W => W.cell? ⟨w.heap.size, 0, none⟩ = some (.int .i64 v) ∧ W.cell? ⟨w.heap.size, 1, none⟩ = some (.int .i64 h) ∧ W.cell? ⟨w.heap.size, 2, none⟩ = some (.slice A rows.length cap) ∧ W.cell? ⟨w.heap.size + 1, 0, none⟩ = some (.int .i64 k) ∧ W.cell? ⟨w.heap.size + 1, 1, none⟩ = some (.int .i64 a) ∧ W.cell? ⟨w.heap.size + 1, 2, none⟩ = some (.int .i64 b) ∧ W.cell? ⟨w.heap.size + 1, 3, none⟩ = some (.int .i64 c) ∧ W.cell? ⟨w.heap.size + 1, 4, none⟩ = some (.slice XA row.length xcap)) (first | with_reducible exact HS26.out _ LD.out | with_reducible exact HS26.out _ (LA.out _) | with_reducible exact HS26.out _ HA.out | with_reducible exact HS26.out _ (HA.out.alloc HA.out.size _) | with_reducible exact HS26.out _ HC.out | with_reducible exact HS26.out _ (HC.out.alloc HC.out.size _) | with_reducible exact HS26.out _ HD.out | with_reducible exact HS26.out _ (HD.out.alloc HD.out.size _) | with_reducible exact HS26.out _ (below_set3' HD.out B8.out.1 _ _ _))
        (first | (go_at_call 15; first | ((with_reducible refine (TS.out (World.drew (World.alloc w26 _)) (LA.out _)).mono ?_); rintro e w3 ⟨u, rfl, hu, hb3⟩; obtain ⟨A3, c3, rfl, hr3, _⟩ := hu.view; have Q8 := Lib.hid (box_at (heap_at_drew w26 _) hb3); have HA := Lib.hid (below_ext (LA.out _) hb3); have B8 := Lib.hid (sz1 hb3); have HR3 := Lib.hid hr3; clear hu hb3 hr3) | ((with_reducible refine (TS.out (World.drew w26) LD.out).mono ?_); rintro e w3 ⟨u, rfl, hu, hb3⟩; obtain ⟨A3, c3, rfl, hr3, _⟩ := hu.view; have HA := Lib.hid (below_ext LD.out hb3); have HR3 := Lib.hid hr3; clear hu hb3 hr3)) | (go_at_call 16; first | ((with_reducible refine (TP.out (World.alloc w3 _) (HA.out.alloc HA.out.size _)).mono ?_); rintro e w4 ⟨u, rfl, hu, hb4⟩; obtain ⟨A4, c4, rfl, hr4, _⟩ := hu.view; have Q8 := Lib.hid (box_at (heap_at w3 _ rfl) hb4); have HC := Lib.hid (below_ext (HA.out.alloc HA.out.size _) hb4); have B8 := Lib.hid (sz2 HA.out.size hb4); have HX4 := Lib.hid hr4; have HR4 := Lib.hid (HR3.out.ext (below_ext ((Below.refl _ _).alloc (Nat.le_refl _) _) hb4)); have HR4A := Lib.hid (fun o => HR4.out.ext ((Below.refl _ _).alloc (Nat.le_refl _) o)); have HX4A := Lib.hid (fun o => HX4.out.ext ((Below.refl _ _).alloc (Nat.le_refl _) o)); clear hu hb4 hr4) | ((with_reducible refine (TP.out w3 HA.out).mono ?_); rintro e w4 ⟨u, rfl, hu, hb4⟩; obtain ⟨A4, c4, rfl, hr4, _⟩ := hu.view; (try have Q8 := Lib.hid (box_at Q8.out hb4)); (try have B8 := Lib.hid (sz3 B8.out hb4)); have HC := Lib.hid (below_ext HA.out hb4); have HX4 := Lib.hid hr4; have HR4 := Lib.hid (HR3.out.ext hb4); have HR4A := Lib.hid (fun o => HR4.out.ext ((Below.refl _ _).alloc (Nat.le_refl _) o)); have HX4A := Lib.hid (fun o => HX4.out.ext ((Below.refl _ _).alloc (Nat.le_refl _) o)); clear hu hb4 hr4)) | (go_at_call 17; first | ((with_reducible refine (IMPL26.out A3 A4 c3 c4 (World.alloc w4 _) (HC.out.alloc HC.out.size _) (HR4A.out _) (HX4A.out _)).mono ?_); rintro e w5 ⟨u, rfl, hu, hb5⟩; obtain ⟨A8, c8, rfl, _⟩ := hu.view; have Q8 := Lib.hid (box_at (heap_at w4 _ rfl) hb5); have B8 := Lib.hid (And.intro HC.out.size (Nat.le_refl (w4.heap.size + 1))); have HU8 := Lib.hid (own_alloc hu); have HD := Lib.hid (below_ext (HC.out.alloc HC.out.size _) hb5); have S5 := Lib.hid (sz4 hb5); clear hb5 hu; obtain ⟨g0, g1, g2, f0, f1, f2⟩ := box3 (Below.refl _ _) Q8.out) | ((with_reducible refine (IMPL26.out A3 A4 c3 c4 w4 HC.out HR4.out HX4.out).mono ?_); rintro e w5 ⟨u, rfl, hu, hb5⟩; obtain ⟨A8, c8, rfl, _⟩ := hu.view; (try have Q8 := Lib.hid (box_at Q8.out hb5)); have HU8 := Lib.hid hu; have HD := Lib.hid (below_ext HC.out hb5); have S5 := Lib.hid hb5.size; clear hb5 hu; (try (have hg := box3 (Below.refl _ _) Q8.out; obtain ⟨g0, g1, g2, f0, f1, f2⟩ := hg)))))
      all_goals
        go_wp2_with fail
        go_meet
        first | exact ResA.late HD.out HU8.out HC.out.size S5.out | exact ResA.early HD.out HU8.out Q8.out B8.out S5.out
    case rest =>
      obtain ⟨b17, l17, h17, A17, c17, rfl, rfl, HB, ho, hx, hi⟩ := hcut
      obtain ⟨x0, x1, x2⟩ := cells_3 hx
      have HU31 := Lib.hid (HU26.out.ext HB)
      obtain ⟨y0, y1, y2⟩ := cells_3 HU31.out.x8
      have HI17 := Lib.hid (rows_at hi.own)
      clear HB ho hx hi
      go_upto_region 34 with (go_at_call 18; refine (eqSystem_same v' h' A17 A8 c17 c8 R' _ HI17.out (rows_at HU31.out.o8.own) (len_max HRL'.out) (fun r hr => len_max (HRS'.out r hr))).mono ?_; rintro e w32 ⟨rfl, hb⟩; have HU32 := Lib.hid (HU31.out.ext hb); clear hb)
      clear x0 x1 x2 y0 y1 y2
      obtain ⟨x0, x1, x2⟩ := cells_3 HU32.out.x12
      go_wp2_with (go_at_call 22; refine (heldSystem_any 1 v' h' A12 c12 R' _ (rows_at HU32.out.o12.own) hl3 HRS'.out (by omega) (by omega)).mono ?_; rintro e w35 ⟨rfl, hb⟩; have HU35 := Lib.hid (HU32.out.ext hb); clear hb)
      go_ret
      exact ⟨rfl, below_ext HB2.out HU35.out.base⟩
end Go.Proofs.YtjdbfokbgmbphaaGreatDoor
