/- stProof: the reference's proof between two systems. Condition: both systems are valid. | ProofBetween on both sides: one contract. Conditions: lengths of at most 2^20. -/
import Derived.Test.YtjdbfokbgmbphaaGreatDoorPk48
import Derived.Test.YtjdbfokbgmbphaaGreatDoorPk47
namespace Go.Proofs.YtjdbfokbgmbphaaGreatDoor
set_option linter.unusedVariables false
set_option linter.unusedSimpArgs false
open Go.RowKit
set_option maxRecDepth 100000 in
set_option maxHeartbeats 8000000 in
theorem stProof_any (p : Int) (a b : Sy) (A1 A2 : Option Addr) (cap1 cap2 : Nat) (w : World) (hR1 : RowsAt w A1 a.rows) (hR2 : RowsAt w A2 b.rows) (hk1 : a.Ok p) (hk2 : b.Ok p) :
  Calls Tryz.prog 76 #[.int .i64 p, .agg #[.int .i64 a.v, .int .i64 a.h, .slice A1 a.rows.length cap1], .agg #[.int .i64 b.v, .int .i64 b.h, .slice A2 b.rows.length cap2]] w (SteppedTo (pbZ p a b) (pbB p a b) w) := by
 obtain ⟨s1, s2⟩ := canSy_small hk1
 obtain ⟨s3, s4⟩ := canSy_small hk2
 have HC1 := Lib.hid (fun (W : World) (h : RowsAt W A1 a.rows) => syCanon_any p a A1 cap1 W h hk1)
 have HC2 := Lib.hid (fun (W : World) (h : RowsAt W A2 b.rows) => syCanon_any p b A2 cap2 W h hk2)
 have HD1 := Lib.hid (fun (W : World) (h : RowsAt W A1 a.rows) => stReduce_any p a A1 cap1 W h hk1)
 have HD2 := Lib.hid (fun (W : World) (h : RowsAt W A2 b.rows) => stReduce_any p b A2 cap2 W h hk2)
 have hrun := redQ_runs hk2
 have hln1 := redQ_len hk1
 have hln2 := redQ_len hk2
 have hrows := redQ_rows p b
 have HY := Lib.hid (show pbY p a b = (redQ p a).2 ++ (undL p b (redQ p b).2 (redQ p b).2.length).reverse from rfl)
 have HB := Lib.hid (show pbB p a b = (sySame (canSy p a) (canSy p b) && decide ((redQ p a).2.length + (redQ p b).2.length ≤ 3000)) from rfl)
 obtain ⟨C1, hC1⟩ : ∃ C, C = canSy p a := ⟨_, rfl⟩
 obtain ⟨C2, hC2⟩ : ∃ C, C = canSy p b := ⟨_, rfl⟩
 obtain ⟨X1, hX1⟩ : ∃ X, X = (redQ p a).2 := ⟨_, rfl⟩
 obtain ⟨X2, hX2⟩ : ∃ X, X = (redQ p b).2 := ⟨_, rfl⟩
 rw [← hC1] at s1 s2 HC1 HB
 rw [← hC2] at s3 s4 HC2 HB
 rw [← hX1] at HD1 HY HB hln1
 have hfb : firstBad p b X2 = X2.length := by rw [hX2]; exact hrun.bad
 rw [← hX2] at HD2 HY HB hrows hln2
 have HU := Lib.hid (fun (W : World) (XA : Option Addr) (xcap : Nat) (h : RowsAt W A2 b.rows) (hX : StepsAt W XA X2) (hm : X2.length ≤ 3000) => stBack_any p b A2 cap2 X2 W XA xcap h hX hk2 hfb hm (fun x hx => by rw [hrows x hx]; simp))
 have HFB := Lib.hid hfb
 have HSAME := Lib.hid (fun (W : World) (B1 B2 : Option Addr) (c1 c2 : Nat) (h1 : RowsAt W B1 C1.rows) (h2 : RowsAt W B2 C2.rows) => stSame_any C1 C2 B1 B2 c1 c2 W h1 h2 (len_max (by omega)) (len_max (by omega)) (fun r hr => len_max (by have := s2 r hr; omega)) (fun r hr => len_max (by have := s4 r hr; omega)))
 have HR1 := Lib.hid hR1; have HR2 := Lib.hid hR2
 obtain ⟨sm, hsm⟩ : ∃ sm, sm = sySame C1 C2 := ⟨_, rfl⟩
 rw [← hsm] at HSAME HB
 clear s1 s2 s3 s4 hrun hrows hC1 hC2 hX1 hX2 hfb hsm hR1 hR2 hk1 hk2
 have HNO := Lib.hid (fun h => pbZ_no (p := p) (a := a) (b := b) h)
 have HYES := Lib.hid (fun h => pbZ_yes (p := p) (a := a) (b := b) h)
 obtain ⟨Z, hZ⟩ : ∃ Z, Z = pbZ p a b := ⟨_, rfl⟩
 obtain ⟨OK, hOK⟩ : ∃ OK, OK = pbB p a b := ⟨_, rfl⟩
 rw [← hZ, ← hOK] at HNO HYES
 rw [← hOK] at HB
 rw [← hZ, ← hOK]
 clear hZ hOK
 go_enter Tryz.func76, Tryz.ntmps76
 go_upto_region 1 with (fail)
 have hB : Below w.heap.size w ((w.alloc (.cells #[.int .i64 a.v, .int .i64 a.h, .slice A1 a.rows.length cap1] 30)).alloc (.cells #[.int .i64 b.v, .int .i64 b.h, .slice A2 b.rows.length cap2] 30)) := ((Below.refl _ _).alloc (Nat.le_refl _) _).alloc (by simp) _
 have hq : ((w.alloc (.cells #[.int .i64 a.v, .int .i64 a.h, .slice A1 a.rows.length cap1] 30)).alloc (.cells #[.int .i64 b.v, .int .i64 b.h, .slice A2 b.rows.length cap2] 30)).heap[w.heap.size]? = some (.cells #[.int .i64 a.v, .int .i64 a.h, .slice A1 a.rows.length cap1] 30 (0, 0)) := (heap_past _ _ (by simp)).trans (heap_at _ _ rfl)
 have hq2 : ((w.alloc (.cells #[.int .i64 a.v, .int .i64 a.h, .slice A1 a.rows.length cap1] 30)).alloc (.cells #[.int .i64 b.v, .int .i64 b.h, .slice A2 b.rows.length cap2] 30)).heap[w.heap.size + 1]? = some (.cells #[.int .i64 b.v, .int .i64 b.h, .slice A2 b.rows.length cap2] 30 (0, 0)) := heap_at _ _ (by simp)
 obtain ⟨W1, hW1⟩ : ∃ W1, W1 = (w.alloc (.cells #[.int .i64 a.v, .int .i64 a.h, .slice A1 a.rows.length cap1] 30)).alloc (.cells #[.int .i64 b.v, .int .i64 b.h, .slice A2 b.rows.length cap2] 30) := ⟨_, rfl⟩
 rw [← hW1] at hB hq hq2 ⊢
 clear hW1
 obtain ⟨x0, x1, x2⟩ := cells_3 hq
 obtain ⟨y0, y1, y2⟩ := cells_3 hq2
 have HBW := Lib.hid hB
 have HRW1 := Lib.hid (HR1.out.ext hB); have HRW2 := Lib.hid (HR2.out.ext hB)
 clear hq hq2 hB HR1 HR2
 go_region_held3 (fun W => W.cell? ⟨w.heap.size, 0, none⟩ = some (.int .i64 a.v) ∧ W.cell? ⟨w.heap.size, 1, none⟩ = some (.int .i64 a.h) ∧ W.cell? ⟨w.heap.size, 2, none⟩ = some (.slice A1 a.rows.length cap1) ∧ W.cell? ⟨w.heap.size + 1, 0, none⟩ = some (.int .i64 b.v) ∧ W.cell? ⟨w.heap.size + 1, 1, none⟩ = some (.int .i64 b.h) ∧ W.cell? ⟨w.heap.size + 1, 2, none⟩ = some (.slice A2 b.rows.length cap2))
  (first | exact t2 | exact t1 | exact ⟨x0, x1, x2, y0, y1, y2⟩)
  ((first | (go_at_call 66; (with_reducible refine (HD1.out _ (HRW1.out.ext (Below.refl _ _).drew)).mono ?_); rintro e w5 ⟨u5, rfl, hu5, hb5⟩; obtain ⟨A5, c5, rfl, -, hc5, -⟩ := hu5.view; have t1 := (⟨ext_cell hb5 x0, ext_cell hb5 x1, ext_cell hb5 x2, ext_cell hb5 y0, ext_cell hb5 y1, ext_cell hb5 y2⟩ : And _ (And _ (And _ (And _ (And _ _))))); have HU5 := Lib.hid hu5; have HB5 := Lib.hid ((Below.refl W1.heap.size W1).drew.trans hb5); clear hu5 hb5) | (go_at_call 66; (with_reducible refine (HD2.out _ (HRW2.out.ext HB5.out)).mono ?_); rintro e w6 ⟨u6, rfl, hu6, hb6⟩; obtain ⟨A6, c6, rfl, hst6, hc6, -⟩ := hu6.view; have t2 := (⟨ext_cell hb6 t1.1, ext_cell hb6 t1.2.1, ext_cell hb6 t1.2.2.1, ext_cell hb6 t1.2.2.2.1, ext_cell hb6 t1.2.2.2.2.1, ext_cell hb6 t1.2.2.2.2.2⟩ : And _ (And _ (And _ (And _ (And _ _))))); have HU5b := Lib.hid (HU5.out.ext hb6); have HST6 := Lib.hid hst6; have HB6 := Lib.hid (HB5.out.trans (hb6.mono HB5.out.size)); clear hst6 hu6 hb6)))
 obtain ⟨a0, a1, a2, b0, b1, b2⟩ := t2
 clear t1 x0 x1 x2 y0 y1 y2
 have HRV1 := Lib.hid (HRW1.out.ext HB6.out); have HRV2 := Lib.hid (HRW2.out.ext HB6.out)
 have HE6 := Lib.hid (HBW.out.trans (HB6.out.mono HBW.out.size))
 have hwr : IntKind.i64.wrap ((X1.length : Int) + (X2.length : Int)) = (X1.length : Int) + (X2.length : Int) := by rw [IntKind.wrap_i64]; omega
 by_cases hlen : X1.length + X2.length ≤ 3000
 ·have hdec : decide ((3000 : Int) < (X1.length : Int) + (X2.length : Int)) = false := decide_eq_false (by omega)
  go_wp2_with fail
  go_region_held3 (fun W => W.cell? ⟨w.heap.size, 0, none⟩ = some (.int .i64 a.v) ∧ W.cell? ⟨w.heap.size, 1, none⟩ = some (.int .i64 a.h) ∧ W.cell? ⟨w.heap.size, 2, none⟩ = some (.slice A1 a.rows.length cap1) ∧ W.cell? ⟨w.heap.size + 1, 0, none⟩ = some (.int .i64 b.v) ∧ W.cell? ⟨w.heap.size + 1, 1, none⟩ = some (.int .i64 b.h) ∧ W.cell? ⟨w.heap.size + 1, 2, none⟩ = some (.slice A2 b.rows.length cap2))
   (first | exact t3 | exact t2 | exact t1 | exact ⟨a0, a1, a2, b0, b1, b2⟩)
   ((first | (go_at_call 108; (with_reducible refine (HC1.out _ (HRV1.out.ext (Below.refl _ _).drew)).mono ?_); rintro e w2 ⟨B1, d1, rfl, hr2, hb2⟩; have t1 := (⟨ext_cell hb2 a0, ext_cell hb2 a1, ext_cell hb2 a2, ext_cell hb2 b0, ext_cell hb2 b1, ext_cell hb2 b2⟩ : And _ (And _ (And _ (And _ (And _ _))))); have HQ2 := Lib.hid hr2.at; have HB2 := Lib.hid ((Below.refl w6.heap.size w6).drew.trans hb2); clear hr2 hb2) | (go_at_call 108; (with_reducible refine (HC2.out _ (HRV2.out.ext HB2.out)).mono ?_); rintro e w3 ⟨B2, d2, rfl, hr3, hb3⟩; have t2 := (⟨ext_cell hb3 t1.1, ext_cell hb3 t1.2.1, ext_cell hb3 t1.2.2.1, ext_cell hb3 t1.2.2.2.1, ext_cell hb3 t1.2.2.2.2.1, ext_cell hb3 t1.2.2.2.2.2⟩ : And _ (And _ (And _ (And _ (And _ _))))); have HQ3 := Lib.hid hr3.at; have HQ2b := Lib.hid (HQ2.out.ext hb3); have HB3 := Lib.hid (HB2.out.trans (hb3.mono HB2.out.size)); clear hr3 hb3) | (go_at_call 102; refine (HSAME.out _ _ _ _ _ HQ2b.out HQ3.out).mono ?_; rintro e w4 ⟨rfl, hb4⟩; have t3 := (⟨ext_cell hb4 t2.1, ext_cell hb4 t2.2.1, ext_cell hb4 t2.2.2.1, ext_cell hb4 t2.2.2.2.1, ext_cell hb4 t2.2.2.2.2.1, ext_cell hb4 t2.2.2.2.2.2⟩ : And _ (And _ (And _ (And _ (And _ _))))); have HB4 := Lib.hid (HB3.out.trans (hb4.mono HB3.out.size)); clear hb4)))
  obtain ⟨-, -, -, b0', b1', b2'⟩ := t3
  clear t2 t1 a0 a1 a2 b0 b1 b2 hwr hdec
  have HRV3 := Lib.hid (HRV2.out.ext HB4.out)
  have HST4 := Lib.hid (HST6.out.ext HB4.out)
  have HE4 := Lib.hid (HE6.out.trans (HB4.out.mono HE6.out.size))
  cases hsm : sm with
  | false =>
   have h1 : OK = false := by rw [HB.out, hsm]; rfl
   have HZ := Lib.hid (HNO.out h1)
   have HOK := Lib.hid h1
   clear h1
   subst hsm
   go_wp2
   refine bodyPost_ret (v := .tuple #[.slice none 0 0, .bool false]) (by simp [results, Tryz.results76, go_sem]) rfl ?_
   rw [HZ.out, HOK.out]
   exact SteppedTo.mk rfl (OwnSteps.nil _ _) HE4.out
  | true =>
   have h1 : OK = true := by rw [HB.out, decide_eq_true hlen, hsm]; rfl
   have HZ := Lib.hid ((HYES.out h1).trans HY.out)
   have HOK := Lib.hid h1
   have HU5c := Lib.hid (HU5b.out.ext HB4.out)
   clear h1
   subst hsm
   go_wp2_with fail
   refine (HU.out _ _ _ HRV3.out HST4.out (by omega)).mono ?_
   rintro e w7 ⟨u7, rfl, ho7, hb7⟩
   obtain ⟨A7, c7, rfl, -⟩ := ho7.view
   have hlr : (undL p b X2 X2.length).reverse.length = X2.length := by rw [List.length_reverse, undL_len]
   rw [hlr] at ho7 ⊢
   clear hlr
   have HU7 := Lib.hid ho7; have HB7 := Lib.hid hb7
   have hz6 := HB6.out.size
   have hz4 := HB4.out.size
   have hz7 := hb7.size
   have hzw := HBW.out.size
   have HL7 := Lib.hid (show X1.length + (undL p b X2 X2.length).reverse.length ≤ 1048576 by rw [List.length_reverse, undL_len]; omega)
   clear ho7 hb7
   go_wp2_with ((at_builtin; refine wp_appendSteps rfl _ _ rfl W1.heap.size w4.heap.size w7 _ _ _ _ (HU5c.out.ext HB7.out) HU7.out ⟨w4, Nat.le_refl _, HU5c.out, HB7.out⟩ (by omega) hz7 HL7.out rfl rfl ?_; intro v8 w8 hu8 hb8; have HU8 := Lib.hid hu8; have HB8 := Lib.hid hb8; clear hu8 hb8))
   refine bodyPost_ret (v := .tuple #[v8, .bool true]) (by simp [results, Tryz.results76, go_sem]) rfl ?_
   rw [HZ.out, HOK.out]
   exact SteppedTo.mk rfl (HU8.out.mono hzw) ((HE4.out.trans (HB7.out.mono HE4.out.size)).trans (HB8.out.mono hzw))
 ·have hdec : decide ((3000 : Int) < (X1.length : Int) + (X2.length : Int)) = true := decide_eq_true (by omega)
  have h1 : OK = false := by rw [HB.out, decide_eq_false hlen, Bool.and_false]
  have HZ := Lib.hid (HNO.out h1)
  have HOK := Lib.hid h1
  clear h1
  go_wp2_with fail
  clear a0 a1 a2 b0 b1 b2
  refine wp_region_ext_lit (by kernel_rfl) (by kernel_rfl) ?_
  repeat (go_big_quiet_step (fail))
  refine wpQuiet_nil ?_
  rintro _ ⟨W, rfl⟩
  have HWX := Lib.hid (HE6.out.trans (W.ok.mono HE6.out.size))
  clear hwr hdec
  go_wp2
  refine bodyPost_ret (v := .tuple #[.slice none 0 0, .bool false]) (by simp [results, Tryz.results76, go_sem]) rfl ?_
  rw [HZ.out, HOK.out]
  exact SteppedTo.mk rfl (OwnSteps.nil _ _) HWX.out
def prOk (p : Int) (a b : Sy) : Bool := (sysB p a.v a.h a.rows && sysB p b.v b.h b.rows) && pbB p a b
def prX (p : Int) (a b : Sy) : List Stp := if prOk p a b = true then pbY p a b else []
theorem prX_le (p : Int) (a b : Sy) : (prX p a b).length ≤ 1048576 ∧ ∀ r ∈ prX p a b, r.row.length ≤ 1048576 := by
 unfold prX
 split
 ·rename_i h
  unfold prOk at h
  rw [Bool.and_eq_true, Bool.and_eq_true] at h
  obtain ⟨⟨h1, h2⟩, h3⟩ := h
  have k2 : b.Ok p := sysB_iff.1 h2
  unfold pbB at h3
  rw [Bool.and_eq_true, decide_eq_true_eq] at h3
  have hrun := (redQ_runs k2).bad
  unfold pbY
  refine ⟨by rw [List.length_append, List.length_reverse, undL_len]; omega, fun r hr => ?_⟩
  rcases List.mem_append.1 hr with h4 | h4
  ·rw [redQ_rows p a r h4]; simp
  ·have := undL_rows (xs := (redQ p b).2) k2 (by rw [hrun]; exact Nat.le_refl _) r (List.mem_reverse.1 h4)
   omega
 ·simp
theorem prOk_eq {p : Int} {a b : Sy} (h1 : sysB p a.v a.h a.rows = true) (h2 : sysB p b.v b.h b.rows = true) : prOk p a b = pbB p a b := by unfold prOk; rw [h1, h2]; rfl
theorem prX_eq {p : Int} {a b : Sy} (h1 : sysB p a.v a.h a.rows = true) (h2 : sysB p b.v b.h b.rows = true) : prX p a b = pbZ p a b := by unfold prX pbZ; rw [prOk_eq h1 h2]
theorem prOk_no {p : Int} {a b : Sy} (h : sysB p a.v a.h a.rows = false ∨ sysB p b.v b.h b.rows = false) : prOk p a b = false ∧ prX p a b = [] := by
 have : prOk p a b = false := by unfold prOk; rcases h with h | h <;> rw [h] <;> simp
 exact ⟨this, by unfold prX; rw [this, if_neg (by decide)]⟩
set_option maxRecDepth 100000 in
set_option maxHeartbeats 4000000 in
theorem implProofC (p : Int) (a : Sy) (A : Option Addr) (cap : Nat) (b : Sy) (A2 : Option Addr) (cap2 : Nat) (w : World) (hP : Primes w) (hR : RowsAt w A a.rows) (hm : a.rows.length ≤ 1048576) (hms : ∀ r ∈ a.rows, r.length ≤ 1048576) (hR2 : RowsAt w A2 b.rows) (hm2 : b.rows.length ≤ 1048576) (hms2 : ∀ r ∈ b.rows, r.length ≤ 1048576) :
  Calls Tryz.prog 44 #[.int .i64 p, .agg #[.int .i64 a.v, .int .i64 a.h, .slice A a.rows.length cap], .agg #[.int .i64 b.v, .int .i64 b.h, .slice A2 b.rows.length cap2]] w (SteppedTo (prX p a b) (prOk p a b) w) := by
 have hB : Below w.heap.size w ((w.alloc (.cells #[.int .i64 a.v, .int .i64 a.h, .slice A a.rows.length cap] 30)).alloc (.cells #[.int .i64 b.v, .int .i64 b.h, .slice A2 b.rows.length cap2] 30)) := ((Below.refl _ _).alloc (Nat.le_refl _) _).alloc (by simp) _
 have HB := Lib.hid hB
 have HT1 := Lib.hid (fun W (hW : Below w.heap.size w W) => isSystem_any p a.v a.h A cap a.rows W (hP.ext hW) (hR.ext hW) (len_max hm) (fun r hr => len_max (hms r hr)))
 have HT2 := Lib.hid (fun W (hW : Below w.heap.size w W) => isSystem_any p b.v b.h A2 cap2 b.rows W (hP.ext hW) (hR2.ext hW) (len_max hm2) (fun r hr => len_max (hms2 r hr)))
 have HQ := Lib.hid (show ((w.alloc (.cells #[.int .i64 a.v, .int .i64 a.h, .slice A a.rows.length cap] 30)).alloc (.cells #[.int .i64 b.v, .int .i64 b.h, .slice A2 b.rows.length cap2] 30)).heap[w.heap.size]? = some (.cells #[.int .i64 a.v, .int .i64 a.h, .slice A a.rows.length cap] 30 (0, 0)) from (heap_past _ _ (by simp)).trans (heap_at _ _ rfl))
 have HQ2 := Lib.hid (show ((w.alloc (.cells #[.int .i64 a.v, .int .i64 a.h, .slice A a.rows.length cap] 30)).alloc (.cells #[.int .i64 b.v, .int .i64 b.h, .slice A2 b.rows.length cap2] 30)).heap[w.heap.size + 1]? = some (.cells #[.int .i64 b.v, .int .i64 b.h, .slice A2 b.rows.length cap2] 30 (0, 0)) from heap_at _ _ (by simp))
 have HN := Lib.hid (fun h => prOk_no (p := p) (a := a) (b := b) h)
 have HPB := Lib.hid (fun W (h1 : a.Ok p) (h2 : b.Ok p) (hW : Below w.heap.size w W) => proofBetween_any p a b A A2 cap cap2 W (hP.ext hW) (hR.ext hW) (hR2.ext hW) h1 h2)
 clear hP hR hm hms hR2 hm2 hms2 hB
 cases hs1 : sysB p a.v a.h a.rows with
 | false =>
  obtain ⟨h1, h2⟩ := HN.out (Or.inl hs1)
  rw [h1, h2]
  rw [hs1] at HT1
  clear h1 h2 hs1
  go_enter Tryz.func44, Tryz.ntmps44
  go_wp2_with (go_at_call 52; refine (HT1.out _ HB.out).mono ?_; rintro e w1 ⟨rfl, hb1⟩; have HB1 := Lib.hid (HB.out.trans (hb1.mono HB.out.size)); clear hb1)
  exact bodyPost_ret (v := .tuple #[.slice none 0 0, .bool false]) (by simp [results, Tryz.results44, go_sem]) rfl (SteppedTo.mk rfl (OwnSteps.nil _ _) HB1.out)
 | true =>
  rw [hs1] at HT1
  cases hs2 : sysB p b.v b.h b.rows with
  | false =>
   obtain ⟨h1, h2⟩ := HN.out (Or.inr hs2)
   rw [h1, h2]
   rw [hs2] at HT2
   clear h1 h2 hs1 hs2
   go_enter Tryz.func44, Tryz.ntmps44
   go_wp2_with fail
   refine (HT1.out _ HB.out).mono ?_
   rintro e w1 ⟨rfl, hb1⟩
   have HB1 := Lib.hid (HB.out.trans (hb1.mono HB.out.size))
   obtain ⟨d0, d1, d2⟩ := cells_3 (box_at HQ2.out hb1)
   clear hb1
   go_wp2_with (go_at_call 52; refine (HT2.out _ HB1.out).mono ?_; rintro e w2 ⟨rfl, hb2⟩; have HB2 := Lib.hid (HB1.out.trans (hb2.mono HB1.out.size)); clear hb2)
   exact bodyPost_ret (v := .tuple #[.slice none 0 0, .bool false]) (by simp [results, Tryz.results44, go_sem]) rfl (SteppedTo.mk rfl (OwnSteps.nil _ _) HB2.out)
  | true =>
   rw [hs2] at HT2
   have hk1 : a.Ok p := sysB_iff.1 hs1
   have hk2 : b.Ok p := sysB_iff.1 hs2
   have HPB2 := Lib.hid (fun W hW => HPB.out W hk1 hk2 hW)
   rw [prOk_eq hs1 hs2, prX_eq hs1 hs2]
   obtain ⟨Z, hZ⟩ : ∃ Z, Z = pbZ p a b := ⟨_, rfl⟩
   obtain ⟨OK, hOK⟩ : ∃ OK, OK = pbB p a b := ⟨_, rfl⟩
   rw [← hZ, ← hOK] at HPB2 ⊢
   clear hZ hOK hk1 hk2 hs1 hs2 HPB HN
   go_enter Tryz.func44, Tryz.ntmps44
   go_wp2_with fail
   refine (HT1.out _ HB.out).mono ?_
   rintro e w1 ⟨rfl, hb1⟩
   have HB1 := Lib.hid (HB.out.trans (hb1.mono HB.out.size))
   have hq := box_at HQ.out hb1
   have hq2 := box_at HQ2.out hb1
   obtain ⟨c0, c1, c2⟩ := cells_3 hq
   obtain ⟨d0, d1, d2⟩ := cells_3 hq2
   have HQ3 := Lib.hid hq; have HQ4 := Lib.hid hq2
   clear hb1 hq hq2
   go_wp2_with fail
   refine (HT2.out _ HB1.out).mono ?_
   rintro e w2 ⟨rfl, hb2⟩
   have HB2 := Lib.hid (HB1.out.trans (hb2.mono HB1.out.size))
   have hq := box_at HQ3.out hb2
   have hq2 := box_at HQ4.out hb2
   obtain ⟨e0, e1, e2⟩ := cells_3 hq
   obtain ⟨f0, f1, f2⟩ := cells_3 hq2
   clear hb2 hq hq2 c0 c1 c2 d0 d1 d2
   go_wp2_with fail
   refine (HPB2.out _ HB2.out).mono ?_
   rintro e w3 ⟨u3, rfl, hu3, hb3⟩
   have HU3 := Lib.hid hu3; have HB3 := Lib.hid (HB2.out.trans (hb3.mono HB2.out.size))
   clear hu3 hb3 e0 e1 e2 f0 f1 f2
   go_wp2
   exact bodyPost_ret (v := .tuple #[u3, .bool OK]) (by simp [results, Tryz.results44, go_sem]) rfl (SteppedTo.mk rfl (HU3.out.mono HB2.out.size) HB3.out)
set_option maxRecDepth 100000 in
set_option maxHeartbeats 4000000 in
theorem specProofC (p : Int) (a : Sy) (A : Option Addr) (cap : Nat) (b : Sy) (A2 : Option Addr) (cap2 : Nat) (w : World) (hR : RowsAt w A a.rows) (hm : a.rows.length ≤ 1048576) (hms : ∀ r ∈ a.rows, r.length ≤ 1048576) (hR2 : RowsAt w A2 b.rows) (hm2 : b.rows.length ≤ 1048576) (hms2 : ∀ r ∈ b.rows, r.length ≤ 1048576) :
  Calls Tryz.prog 43 #[.int .i64 p, .agg #[.int .i64 a.v, .int .i64 a.h, .slice A a.rows.length cap], .agg #[.int .i64 b.v, .int .i64 b.h, .slice A2 b.rows.length cap2]] w (SteppedTo (prX p a b) (prOk p a b) w) := by
 have hB : Below w.heap.size w ((w.alloc (.cells #[.int .i64 a.v, .int .i64 a.h, .slice A a.rows.length cap] 30)).alloc (.cells #[.int .i64 b.v, .int .i64 b.h, .slice A2 b.rows.length cap2] 30)) := ((Below.refl _ _).alloc (Nat.le_refl _) _).alloc (by simp) _
 have HB := Lib.hid hB
 have HT1 := Lib.hid (fun W (hW : Below w.heap.size w W) => syGood_any p a.v a.h A cap a.rows W (hR.ext hW) (len_max hm) (fun r hr => len_max (hms r hr)))
 have HT2 := Lib.hid (fun W (hW : Below w.heap.size w W) => syGood_any p b.v b.h A2 cap2 b.rows W (hR2.ext hW) (len_max hm2) (fun r hr => len_max (hms2 r hr)))
 have HQ := Lib.hid (show ((w.alloc (.cells #[.int .i64 a.v, .int .i64 a.h, .slice A a.rows.length cap] 30)).alloc (.cells #[.int .i64 b.v, .int .i64 b.h, .slice A2 b.rows.length cap2] 30)).heap[w.heap.size]? = some (.cells #[.int .i64 a.v, .int .i64 a.h, .slice A a.rows.length cap] 30 (0, 0)) from (heap_past _ _ (by simp)).trans (heap_at _ _ rfl))
 have HQ2 := Lib.hid (show ((w.alloc (.cells #[.int .i64 a.v, .int .i64 a.h, .slice A a.rows.length cap] 30)).alloc (.cells #[.int .i64 b.v, .int .i64 b.h, .slice A2 b.rows.length cap2] 30)).heap[w.heap.size + 1]? = some (.cells #[.int .i64 b.v, .int .i64 b.h, .slice A2 b.rows.length cap2] 30 (0, 0)) from heap_at _ _ (by simp))
 have HN := Lib.hid (fun h => prOk_no (p := p) (a := a) (b := b) h)
 have HPB := Lib.hid (fun W (h1 : a.Ok p) (h2 : b.Ok p) (hW : Below w.heap.size w W) => stProof_any p a b A A2 cap cap2 W (hR.ext hW) (hR2.ext hW) h1 h2)
 have hP : True := trivial
 clear hP hR hm hms hR2 hm2 hms2 hB
 cases hs1 : sysB p a.v a.h a.rows with
 | false =>
  obtain ⟨h1, h2⟩ := HN.out (Or.inl hs1)
  rw [h1, h2]
  rw [hs1] at HT1
  clear h1 h2 hs1
  go_enter Tryz.func43, Tryz.ntmps43
  go_wp2_with (go_at_call 47; refine (HT1.out _ HB.out).mono ?_; rintro e w1 ⟨rfl, hb1⟩; have HB1 := Lib.hid (HB.out.trans (hb1.mono HB.out.size)); clear hb1)
  exact bodyPost_ret (v := .tuple #[.slice none 0 0, .bool false]) (by simp [results, Tryz.results43, go_sem]) rfl (SteppedTo.mk rfl (OwnSteps.nil _ _) HB1.out)
 | true =>
  rw [hs1] at HT1
  cases hs2 : sysB p b.v b.h b.rows with
  | false =>
   obtain ⟨h1, h2⟩ := HN.out (Or.inr hs2)
   rw [h1, h2]
   rw [hs2] at HT2
   clear h1 h2 hs1 hs2
   go_enter Tryz.func43, Tryz.ntmps43
   go_wp2_with fail
   refine (HT1.out _ HB.out).mono ?_
   rintro e w1 ⟨rfl, hb1⟩
   have HB1 := Lib.hid (HB.out.trans (hb1.mono HB.out.size))
   obtain ⟨d0, d1, d2⟩ := cells_3 (box_at HQ2.out hb1)
   clear hb1
   go_wp2_with (go_at_call 47; refine (HT2.out _ HB1.out).mono ?_; rintro e w2 ⟨rfl, hb2⟩; have HB2 := Lib.hid (HB1.out.trans (hb2.mono HB1.out.size)); clear hb2)
   exact bodyPost_ret (v := .tuple #[.slice none 0 0, .bool false]) (by simp [results, Tryz.results43, go_sem]) rfl (SteppedTo.mk rfl (OwnSteps.nil _ _) HB2.out)
  | true =>
   rw [hs2] at HT2
   have hk1 : a.Ok p := sysB_iff.1 hs1
   have hk2 : b.Ok p := sysB_iff.1 hs2
   have HPB2 := Lib.hid (fun W hW => HPB.out W hk1 hk2 hW)
   rw [prOk_eq hs1 hs2, prX_eq hs1 hs2]
   obtain ⟨Z, hZ⟩ : ∃ Z, Z = pbZ p a b := ⟨_, rfl⟩
   obtain ⟨OK, hOK⟩ : ∃ OK, OK = pbB p a b := ⟨_, rfl⟩
   rw [← hZ, ← hOK] at HPB2 ⊢
   clear hZ hOK hk1 hk2 hs1 hs2 HPB HN
   go_enter Tryz.func43, Tryz.ntmps43
   go_wp2_with fail
   refine (HT1.out _ HB.out).mono ?_
   rintro e w1 ⟨rfl, hb1⟩
   have HB1 := Lib.hid (HB.out.trans (hb1.mono HB.out.size))
   have hq := box_at HQ.out hb1
   have hq2 := box_at HQ2.out hb1
   obtain ⟨c0, c1, c2⟩ := cells_3 hq
   obtain ⟨d0, d1, d2⟩ := cells_3 hq2
   have HQ3 := Lib.hid hq; have HQ4 := Lib.hid hq2
   clear hb1 hq hq2
   go_wp2_with fail
   refine (HT2.out _ HB1.out).mono ?_
   rintro e w2 ⟨rfl, hb2⟩
   have HB2 := Lib.hid (HB1.out.trans (hb2.mono HB1.out.size))
   have hq := box_at HQ3.out hb2
   have hq2 := box_at HQ4.out hb2
   obtain ⟨e0, e1, e2⟩ := cells_3 hq
   obtain ⟨f0, f1, f2⟩ := cells_3 hq2
   clear hb2 hq hq2 c0 c1 c2 d0 d1 d2
   go_wp2_with fail
   refine (HPB2.out _ HB2.out).mono ?_
   rintro e w3 ⟨u3, rfl, hu3, hb3⟩
   have HU3 := Lib.hid hu3; have HB3 := Lib.hid (HB2.out.trans (hb3.mono HB2.out.size))
   clear hu3 hb3 e0 e1 e2 f0 f1 f2
   go_wp2
   exact bodyPost_ret (v := .tuple #[u3, .bool OK]) (by simp [results, Tryz.results43, go_sem]) rfl (SteppedTo.mk rfl (HU3.out.mono HB2.out.size) HB3.out)
end Go.Proofs.YtjdbfokbgmbphaaGreatDoor
