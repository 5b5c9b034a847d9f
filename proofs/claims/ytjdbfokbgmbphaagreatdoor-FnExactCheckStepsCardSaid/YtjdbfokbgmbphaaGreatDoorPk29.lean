/- Both CheckSteps. Conditions: lengths of at most 2^20; the table of primes is laid. -/
import Derived.Test.YtjdbfokbgmbphaaGreatDoorPk28
namespace Go.Proofs.YtjdbfokbgmbphaaGreatDoor
set_option linter.unusedVariables false
set_option linter.unusedSimpArgs false
open Go.RowKit

def ldB (p : Int) (a : Sy) (xs : List Stp) (b : Sy) : Bool := decide (firstBad p a xs = xs.length) && sySame (sysAt p a xs xs.length) b

set_option maxRecDepth 100000 in
set_option maxHeartbeats 2000000 in
theorem leads_any (p : Int) (a : Sy) (A : Option Addr) (cap : Nat) (xs : List Stp) (XA : Option Addr) (xcap : Nat) (b : Sy) (A2 : Option Addr) (cap2 : Nat) (w : World) (hP : Primes w) (hR : RowsAt w A a.rows) (hX : StepsAt w XA xs) (hR2 : RowsAt w A2 b.rows)
    (hok : a.Ok p) (hn : xs.length ≤ 3000) (hns : ∀ x ∈ xs, x.row.length ≤ 1048576) (hm2 : b.rows.length ≤ 1048576) (hms2 : ∀ r ∈ b.rows, r.length ≤ 1048576) :
    Calls Tryz.prog 69 #[.int .i64 p, .agg #[.int .i64 a.v, .int .i64 a.h, .slice A a.rows.length cap], .slice XA xs.length xcap, .agg #[.int .i64 b.v, .int .i64 b.h, .slice A2 b.rows.length cap2]] w fun e w' => e = .returned (.bool (ldB p a xs b)) ∧ Below w.heap.size w w' := by
  have hB : Below w.heap.size w ((w.alloc (.cells #[.int .i64 a.v, .int .i64 a.h, .slice A a.rows.length cap] 30)).alloc (.cells #[.int .i64 b.v, .int .i64 b.h, .slice A2 b.rows.length cap2] 30)) := ((Below.refl w.heap.size w).alloc (by simp) _).alloc (by simp) _
  have HB := Lib.hid hB
  have hq2 : ((w.alloc (.cells #[.int .i64 a.v, .int .i64 a.h, .slice A a.rows.length cap] 30)).alloc (.cells #[.int .i64 b.v, .int .i64 b.h, .slice A2 b.rows.length cap2] 30)).heap[w.heap.size + 1]? = some (.cells #[.int .i64 b.v, .int .i64 b.h, .slice A2 b.rows.length cap2] 30 (0, 0)) := heap_at _ _ (by simp)
  have HQ2 := Lib.hid hq2
  have HRUN := Lib.hid (run_any p a A cap xs _ XA xcap (hP.ext hB) (hR.ext hB) (hX.ext hB) hok hn hns)
  have HR2 := Lib.hid hR2
  have HM2 := Lib.hid hm2; have HMS2 := Lib.hid hms2; have HSM := Lib.hid (fun h => (sysAt_ok (xs := xs) hok (i := xs.length) h).small)
  clear hB hq2 hP hR hX hR2 hns hm2 hms2
  have hle := firstBad_le p xs a
  by_cases hlt : firstBad p a xs < xs.length
  · have HF := Lib.hid (show ∀ W e w', RunTo p a xs W e w' → e = .returned (.tuple #[.agg #[.int .i64 0, .int .i64 0, .slice none 0 0], .int .i64 (firstBad p a xs : Nat)]) ∧ Below W.heap.size W w' from fun W e w' h => ⟨h.1 hlt, h.2.2⟩)
    have HL := Lib.hid (show ldB p a xs b = false by unfold ldB; rw [decide_eq_false (by omega)]; rfl)
    obtain ⟨f, hf⟩ : ∃ f : Nat, f = firstBad p a xs := ⟨_, rfl⟩
    rw [← hf] at HF
    clear hf hlt hle HSM hok
    go_enter Tryz.func69, Tryz.ntmps69
    go_wp2_with (go_at_call 62; refine HRUN.out.mono ?_; rintro e w2 hr; obtain ⟨rfl, hb2⟩ := HF.out _ _ _ hr; have HB2 := Lib.hid (below_ext HB.out hb2); clear hb2 hr)
    go_ret
    exact ⟨ret_bool HL.out.symm, HB2.out.alloc HB2.out.size _⟩
  · obtain ⟨t, ht⟩ : ∃ t, t = sysAt p a xs xs.length := ⟨_, rfl⟩
    have HF := Lib.hid (show ∀ W e w', RunTo p a xs W e w' → ∃ (A2 : Option Addr) (c : Nat), e = .returned (.tuple #[.agg #[.int .i64 t.v, .int .i64 t.h, .slice A2 t.rows.length c], .int .i64 (-1)]) ∧ OwnRows w' W.heap.size (.slice A2 t.rows.length c) t.rows ∧ Below W.heap.size W w' from fun W e w' h => by
      obtain ⟨A2, c2, h1, h2⟩ := h.2.1 (by omega)
      rw [ht]
      exact ⟨_, _, h1, h2, h.2.2⟩)
    have hts : Small t := by rw [ht]; exact HSM.out (by omega)
    have HL := Lib.hid (show ldB p a xs b = sySame t b by unfold ldB; rw [decide_eq_true (by omega), ht]; rfl)
    have HT1 := Lib.hid (show t.rows.length ≤ maxLen by have := hts.n; unfold maxLen; omega)
    have HT2 := Lib.hid (show ∀ r ∈ t.rows, r.length ≤ maxLen from fun r hr => by have := hts.len r hr; unfold maxLen; omega)
    clear hlt hle ht HSM hok hts
    go_enter Tryz.func69, Tryz.ntmps69
    go_upto_region 2 with (go_at_call 62; refine HRUN.out.mono ?_; rintro e w2 hr; obtain ⟨A3, c3, rfl, hu, hb2⟩ := HF.out _ _ _ hr; have HB2 := Lib.hid (below_ext HB.out hb2); have HQ22 := Lib.hid (box_at HQ2.out hb2); have HU := Lib.hid (rows_at hu); clear hb2 hr hu)
    obtain ⟨W3, hW3⟩ : ∃ W3, W3 = w2.alloc (.cells #[.int .i64 t.v, .int .i64 t.h, .slice A3 t.rows.length c3] 30) := ⟨_, rfl⟩
    rw [← hW3]
    have hb3 : Below w2.heap.size w2 W3 := by rw [hW3]; exact (Below.refl _ _).alloc (Nat.le_refl _) _
    have hq3 : W3.heap[w2.heap.size]? = some (.cells #[.int .i64 t.v, .int .i64 t.h, .slice A3 t.rows.length c3] 30 (0, 0)) := by rw [hW3]; exact heap_at _ _ rfl
    obtain ⟨d0, d1, d2⟩ := cells_3 hq3
    obtain ⟨e0, e1, e2⟩ := cells_3 (box_at HQ22.out hb3)
    have HB3 := Lib.hid (below_ext HB2.out hb3); have HU3 := Lib.hid (HU.out.ext hb3)
    clear hb3 hq3 hW3
    go_wp2_with (go_at_call 103; refine (equalSystems_any t b _ _ _ _ _ HU3.out (HR2.out.ext HB3.out) HT1.out (len_max HM2.out) HT2.out (fun r hr => len_max (HMS2.out r hr))).mono ?_; rintro e w4 ⟨rfl, hb4⟩; have HB4 := Lib.hid (below_ext HB3.out hb4); clear hb4)
    go_ret
    exact ⟨ret_bool HL.out.symm, HB4.out⟩

set_option maxRecDepth 100000 in
set_option maxHeartbeats 2000000 in
theorem stProves_any (p : Int) (a : Sy) (A : Option Addr) (cap : Nat) (xs : List Stp) (XA : Option Addr) (xcap : Nat) (b : Sy) (A2 : Option Addr) (cap2 : Nat) (w : World) (hR : RowsAt w A a.rows) (hX : StepsAt w XA xs) (hR2 : RowsAt w A2 b.rows)
    (hok : a.Ok p) (hn : xs.length ≤ 3000) (hns : ∀ x ∈ xs, x.row.length ≤ 1048576) (hm2 : b.rows.length ≤ 1048576) (hms2 : ∀ r ∈ b.rows, r.length ≤ 1048576) :
    Calls Tryz.prog 68 #[.int .i64 p, .agg #[.int .i64 a.v, .int .i64 a.h, .slice A a.rows.length cap], .slice XA xs.length xcap, .agg #[.int .i64 b.v, .int .i64 b.h, .slice A2 b.rows.length cap2]] w fun e w' => e = .returned (.bool (ldB p a xs b)) ∧ Below w.heap.size w w' := by
  have hB : Below w.heap.size w ((w.alloc (.cells #[.int .i64 a.v, .int .i64 a.h, .slice A a.rows.length cap] 30)).alloc (.cells #[.int .i64 b.v, .int .i64 b.h, .slice A2 b.rows.length cap2] 30)) := ((Below.refl w.heap.size w).alloc (by simp) _).alloc (by simp) _
  have HB := Lib.hid hB
  have hq2 : ((w.alloc (.cells #[.int .i64 a.v, .int .i64 a.h, .slice A a.rows.length cap] 30)).alloc (.cells #[.int .i64 b.v, .int .i64 b.h, .slice A2 b.rows.length cap2] 30)).heap[w.heap.size + 1]? = some (.cells #[.int .i64 b.v, .int .i64 b.h, .slice A2 b.rows.length cap2] 30 (0, 0)) := heap_at _ _ (by simp)
  have HQ2 := Lib.hid hq2
  have HRUN := Lib.hid (stRun_any p a A cap xs _ XA xcap (hR.ext hB) (hX.ext hB) hok hn hns)
  have HR2 := Lib.hid hR2
  have HM2 := Lib.hid hm2; have HMS2 := Lib.hid hms2; have HSM := Lib.hid (fun h => (sysAt_ok (xs := xs) hok (i := xs.length) h).small)
  clear hB hq2 hR hX hR2 hns hm2 hms2
  have hle := firstBad_le p xs a
  by_cases hlt : firstBad p a xs < xs.length
  · obtain ⟨m, hmm⟩ : ∃ m : Nat, m = firstBad p a xs + 1 := ⟨_, rfl⟩
    have HF := Lib.hid (show ∀ W e w', RanTo p a xs W e w' → ∃ (A2 : Option Addr) (c : Nat), e = .returned (.slice A2 m c) ∧ Below W.heap.size W w' from fun W e w' h => by
      obtain ⟨g, c, h1, _, h3⟩ := h
      exact ⟨_, _, by rw [hmm]; exact h1, h3⟩)
    have HL := Lib.hid (show ldB p a xs b = false by unfold ldB; rw [decide_eq_false (by omega)]; rfl)
    have hmn : decide (xs.length < m) = false := decide_eq_false (by omega)
    clear hlt hle hmm HSM hok
    go_enter Tryz.func68, Tryz.ntmps68
    go_wp2_with (go_at_call 60; refine HRUN.out.mono ?_; rintro e w2 hr; obtain ⟨A3, c3, rfl, hb2⟩ := HF.out _ _ _ hr; have HB2 := Lib.hid (below_ext HB.out hb2); clear hb2 hr)
    refine wp_region_ext_lit (by kernel_rfl) (by kernel_rfl) ?_
    repeat (go_big_quiet_step (fail))
    refine wpQuiet_nil ?_
    rintro _ ⟨W, rfl⟩
    go_wp2
    go_ret
    exact ⟨ret_bool HL.out.symm, below_ext HB2.out W.ok⟩
  · have hfb : firstBad p a xs = xs.length := by omega
    obtain ⟨t, ht⟩ : ∃ t, t = sysAt p a xs xs.length := ⟨_, rfl⟩
    obtain ⟨m, hmm⟩ : ∃ m : Nat, m = xs.length + 1 := ⟨_, rfl⟩
    have HF := Lib.hid (show ∀ W e w', RanTo p a xs W e w' → ∃ (g c : Nat) (A2 : Option Addr) (c2 : Nat), e = .returned (.slice (some ⟨g, 0, none⟩) m c) ∧ (w'.cell? ⟨g, xs.length * 3, none⟩ = some (.int .i64 t.v) ∧ w'.cell? ⟨g, xs.length * 3 + 1, none⟩ = some (.int .i64 t.h) ∧ w'.cell? ⟨g, xs.length * 3 + 2, none⟩ = some (.slice A2 t.rows.length c2)) ∧ OwnRows w' W.heap.size (.slice A2 t.rows.length c2) t.rows ∧ Below W.heap.size W w' from fun W e w' h => by
      obtain ⟨g, c, h1, ⟨us, h2⟩, h3⟩ := h
      rw [hfb] at h1 h2
      have hx : (sysL p a xs (xs.length + 1))[xs.length]? = some t := by rw [ht]; exact sysL_get _ _ _ _ _ (by omega)
      obtain ⟨u, hu, ho⟩ := h2.get hx
      obtain ⟨A2, c2, rfl, _⟩ := ho.view
      have hc := h2.outer
      rw [sysL_len] at hc
      have hj : ∀ j, j < 3 → w'.cell? ⟨g, xs.length * 3 + j, none⟩ = (syCells t (.slice A2 t.rows.length c2))[j]? := fun j h5 => by rw [hc.cellAt _ (by omega), flatY_get h5 hx hu]
      exact ⟨g, c, A2, c2, by rw [hmm]; exact h1, ⟨hj 0 (by decide), hj 1 (by decide), hj 2 (by decide)⟩, ho, h3⟩)
    have hts : Small t := by rw [ht]; exact HSM.out (by omega)
    have HL := Lib.hid (show ldB p a xs b = sySame t b by unfold ldB; rw [decide_eq_true (by omega), ht]; rfl)
    have HT1 := Lib.hid (show t.rows.length ≤ maxLen by have := hts.n; unfold maxLen; omega)
    have HT2 := Lib.hid (show ∀ r ∈ t.rows, r.length ≤ maxLen from fun r hr => by have := hts.len r hr; unfold maxLen; omega)
    have hmn : decide (xs.length < m) = true := decide_eq_true (by omega)
    have hmn1 : xs.length < m := by omega
    clear hlt hle ht HSM hok hts hmm hfb
    go_enter Tryz.func68, Tryz.ntmps68
    go_wp2_with (go_at_call 60; refine HRUN.out.mono ?_; rintro e w2 hr; obtain ⟨g, c3, A3, c4, rfl, ⟨y0, y1, y2⟩, hu, hb2⟩ := HF.out _ _ _ hr; have HB2 := Lib.hid (below_ext HB.out hb2); have HQ22 := Lib.hid (box_at HQ2.out hb2); have HU := Lib.hid (rows_at hu); have HY0 := Lib.hid y0; have HY1 := Lib.hid y1; have HY2 := Lib.hid y2; clear hb2 hr hu y0 y1 y2)
    have e0 : ∀ W : Ext w2, W.W.cell? ⟨g, xs.length * 3, none⟩ = some (.int .i64 t.v) := fun W => W.cell HY0.out
    have e1 : ∀ W : Ext w2, W.W.cell? ⟨g, xs.length * 3 + 1, none⟩ = some (.int .i64 t.h) := fun W => W.cell HY1.out
    have e2 : ∀ W : Ext w2, W.W.cell? ⟨g, xs.length * 3 + 2, none⟩ = some (.slice A3 t.rows.length c4) := fun W => W.cell HY2.out
    have f0 : ∀ W : Ext w2, W.W.cell? ⟨w.heap.size + 1, 0, none⟩ = some (.int .i64 b.v) := fun W => W.cell (cells_3 HQ22.out).1
    have f1 : ∀ W : Ext w2, W.W.cell? ⟨w.heap.size + 1, 1, none⟩ = some (.int .i64 b.h) := fun W => W.cell (cells_3 HQ22.out).2.1
    have f2 : ∀ W : Ext w2, W.W.cell? ⟨w.heap.size + 1, 2, none⟩ = some (.slice A2 b.rows.length cap2) := fun W => W.cell (cells_3 HQ22.out).2.2
    have HRA := Lib.hid (fun W : Ext w2 => HU.out.ext W.ok)
    have HRB := Lib.hid (fun W : Ext w2 => HR2.out.ext (below_ext HB2.out W.ok))
    refine wp_region_ext_lit (by kernel_rfl) (by kernel_rfl) ?_
    repeat (go_big_quiet_step ((go_at_call 102; exact Calls.ext_of (stSame_any t b _ _ _ _ _ (HRA.out _) (HRB.out _) HT1.out (len_max HM2.out) HT2.out (fun r hr => len_max (HMS2.out r hr))))))
    refine wpQuiet_nil ?_
    rintro _ ⟨W, rfl⟩
    clear e0 e1 e2 f0 f1 f2
    go_wp2
    go_ret
    exact ⟨ret_bool HL.out.symm, below_ext HB2.out W.ok⟩

def ckOk (p : Int) (a : Sy) (xs : List Stp) (b : Sy) : Bool := trkB p a xs.length && sysB p b.v b.h b.rows
def ckR (p : Int) (a : Sy) (xs : List Stp) (b : Sy) : Bool := ckOk p a xs b && ldB p a xs b
set_option maxRecDepth 100000 in
set_option maxHeartbeats 2000000 in
theorem implCheckC (p : Int) (a : Sy) (A : Option Addr) (cap : Nat) (xs : List Stp) (XA : Option Addr) (xcap : Nat) (b : Sy) (A2 : Option Addr) (cap2 : Nat) (w : World) (hP : Primes w) (hR : RowsAt w A a.rows) (hm : a.rows.length ≤ 1048576) (hms : ∀ r ∈ a.rows, r.length ≤ 1048576) (hX : StepsAt w XA xs) (hn : xs.length ≤ 1048576) (hns : ∀ x ∈ xs, x.row.length ≤ 1048576)
    (hR2 : RowsAt w A2 b.rows) (hm2 : b.rows.length ≤ 1048576) (hms2 : ∀ r ∈ b.rows, r.length ≤ 1048576) :
    Calls Tryz.prog 36 #[.int .i64 p, .agg #[.int .i64 a.v, .int .i64 a.h, .slice A a.rows.length cap], .slice XA xs.length xcap, .agg #[.int .i64 b.v, .int .i64 b.h, .slice A2 b.rows.length cap2]] w fun e w' => e = .returned (.tuple #[.bool (ckR p a xs b), .bool (ckOk p a xs b)]) ∧ Below w.heap.size w w' := by
  have hB : Below w.heap.size w ((w.alloc (.cells #[.int .i64 a.v, .int .i64 a.h, .slice A a.rows.length cap] 30)).alloc (.cells #[.int .i64 b.v, .int .i64 b.h, .slice A2 b.rows.length cap2] 30)) := ((Below.refl w.heap.size w).alloc (by simp) _).alloc (by simp) _
  have HB := Lib.hid hB
  have hq1 : ((w.alloc (.cells #[.int .i64 a.v, .int .i64 a.h, .slice A a.rows.length cap] 30)).alloc (.cells #[.int .i64 b.v, .int .i64 b.h, .slice A2 b.rows.length cap2] 30)).heap[w.heap.size]? = some (.cells #[.int .i64 a.v, .int .i64 a.h, .slice A a.rows.length cap] 30 (0, 0)) := (heap_past _ _ (by simp)).trans (heap_at _ _ rfl)
  have hq2 : ((w.alloc (.cells #[.int .i64 a.v, .int .i64 a.h, .slice A a.rows.length cap] 30)).alloc (.cells #[.int .i64 b.v, .int .i64 b.h, .slice A2 b.rows.length cap2] 30)).heap[w.heap.size + 1]? = some (.cells #[.int .i64 b.v, .int .i64 b.h, .slice A2 b.rows.length cap2] 30 (0, 0)) := heap_at _ _ (by simp)
  have HQ1 := Lib.hid hq1; have HQ2 := Lib.hid hq2
  have HT := Lib.hid (isTrack_any p a A cap xs.length _ XA xcap (hP.ext hB) (hR.ext hB) hm hms hn)
  have HP := Lib.hid hP
  have HR := Lib.hid hR; have HX := Lib.hid hX; have HR2 := Lib.hid hR2; have HNS := Lib.hid hns; have HM2 := Lib.hid hm2; have HMS2 := Lib.hid hms2
  clear hB hq1 hq2 hP hR hX hR2 hns hms hm2 hms2
  cases ht : trkB p a xs.length with
  | false =>
    have HTF := Lib.hid ht
    rw [ht] at HT
    clear ht
    go_enter Tryz.func36, Tryz.ntmps36
    go_wp2_with (go_at_call 61; refine HT.out.mono ?_; rintro e w1 ⟨rfl, hb1⟩; have HB1 := Lib.hid (below_ext HB.out hb1); clear hb1)
    refine bodyPost_ret (v := .tuple #[.bool false, .bool false]) (by simp [results, Tryz.results36, go_sem]) rfl ⟨?_, HB1.out⟩
    simp [ckR, ckOk, HTF.out]
  | true =>
    have HTF := Lib.hid ht
    rw [ht] at HT
    clear ht
    obtain ⟨hok, hn3⟩ := trkB_iff.1 HTF.out
    have HLD := Lib.hid (fun (W : World) (hW : Below w.heap.size w W) => leads_any p a A cap xs XA xcap b A2 cap2 W (HP.out.ext hW) (HR.out.ext hW) (HX.out.ext hW) (HR2.out.ext hW) hok hn3 HNS.out HM2.out HMS2.out)
    have HSY := Lib.hid (fun (W : World) (hW : Below w.heap.size w W) => isSystem_any p b.v b.h A2 cap2 b.rows W (HP.out.ext hW) (HR2.out.ext hW) (len_max HM2.out) (fun r hr => len_max (HMS2.out r hr)))
    clear hok
    obtain ⟨l, hl⟩ : ∃ l, l = ldB p a xs b := ⟨_, rfl⟩
    rw [← hl] at HLD
    have HLL := Lib.hid hl
    clear hl
    cases hs : sysB p b.v b.h b.rows with
    | false =>
      have HSF := Lib.hid hs
      rw [hs] at HSY
      clear hs
      go_enter Tryz.func36, Tryz.ntmps36
      go_wp2_with (first | (go_at_call 61; refine HT.out.mono ?_; rintro e w1 ⟨rfl, hb1⟩; have HB1 := Lib.hid (below_ext HB.out hb1); obtain ⟨d0, d1, d2⟩ := cells_3 (box_at HQ2.out hb1); clear hb1) | (go_at_call 52; refine (HSY.out _ HB1.out).mono ?_; rintro e w2 ⟨rfl, hb2⟩; have HB2 := Lib.hid (below_ext HB1.out hb2); clear hb2 d0 d1 d2))
      refine bodyPost_ret (v := .tuple #[.bool false, .bool false]) (by simp [results, Tryz.results36, go_sem]) rfl ⟨?_, HB2.out⟩
      simp [ckR, ckOk, HSF.out]
    | true =>
      have HSF := Lib.hid hs
      rw [hs] at HSY
      clear hs
      go_enter Tryz.func36, Tryz.ntmps36
      go_wp2_with (first | (go_at_call 61; refine HT.out.mono ?_; rintro e w1 ⟨rfl, hb1⟩; have HB1 := Lib.hid (below_ext HB.out hb1); have HQ11 := Lib.hid (box_at HQ1.out hb1); have HQ21 := Lib.hid (box_at HQ2.out hb1); obtain ⟨d0, d1, d2⟩ := cells_3 (box_at HQ2.out hb1); clear hb1) | (go_at_call 52; refine (HSY.out _ HB1.out).mono ?_; rintro e w2 ⟨rfl, hb2⟩; have HB2 := Lib.hid (below_ext HB1.out hb2); clear d0 d1 d2; obtain ⟨d0, d1, d2⟩ := cells_3 (box_at HQ21.out hb2); obtain ⟨c0, c1, c2⟩ := cells_3 (box_at HQ11.out hb2); clear hb2) | (go_at_call 69; refine (HLD.out _ HB2.out).mono ?_; rintro e w3 ⟨rfl, hb3⟩; have HB3 := Lib.hid (below_ext HB2.out hb3); clear hb3))
      refine bodyPost_ret (v := .tuple #[.bool l, .bool true]) (by simp [results, Tryz.results36, go_sem]) rfl ⟨?_, HB3.out⟩
      have h1 : ckOk p a xs b = true := by unfold ckOk; rw [HTF.out, HSF.out]; rfl
      rw [ckR, h1, Bool.true_and, HLL.out]

set_option maxRecDepth 100000 in
set_option maxHeartbeats 2000000 in
theorem specCheckC (p : Int) (a : Sy) (A : Option Addr) (cap : Nat) (xs : List Stp) (XA : Option Addr) (xcap : Nat) (b : Sy) (A2 : Option Addr) (cap2 : Nat) (w : World) (hR : RowsAt w A a.rows) (hm : a.rows.length ≤ 1048576) (hms : ∀ r ∈ a.rows, r.length ≤ 1048576) (hX : StepsAt w XA xs) (hn : xs.length ≤ 1048576) (hns : ∀ x ∈ xs, x.row.length ≤ 1048576)
    (hR2 : RowsAt w A2 b.rows) (hm2 : b.rows.length ≤ 1048576) (hms2 : ∀ r ∈ b.rows, r.length ≤ 1048576) :
    Calls Tryz.prog 35 #[.int .i64 p, .agg #[.int .i64 a.v, .int .i64 a.h, .slice A a.rows.length cap], .slice XA xs.length xcap, .agg #[.int .i64 b.v, .int .i64 b.h, .slice A2 b.rows.length cap2]] w fun e w' => e = .returned (.tuple #[.bool (ckR p a xs b), .bool (ckOk p a xs b)]) ∧ Below w.heap.size w w' := by
  have hB : Below w.heap.size w ((w.alloc (.cells #[.int .i64 a.v, .int .i64 a.h, .slice A a.rows.length cap] 30)).alloc (.cells #[.int .i64 b.v, .int .i64 b.h, .slice A2 b.rows.length cap2] 30)) := ((Below.refl w.heap.size w).alloc (by simp) _).alloc (by simp) _
  have HB := Lib.hid hB
  have hq1 : ((w.alloc (.cells #[.int .i64 a.v, .int .i64 a.h, .slice A a.rows.length cap] 30)).alloc (.cells #[.int .i64 b.v, .int .i64 b.h, .slice A2 b.rows.length cap2] 30)).heap[w.heap.size]? = some (.cells #[.int .i64 a.v, .int .i64 a.h, .slice A a.rows.length cap] 30 (0, 0)) := (heap_past _ _ (by simp)).trans (heap_at _ _ rfl)
  have hq2 : ((w.alloc (.cells #[.int .i64 a.v, .int .i64 a.h, .slice A a.rows.length cap] 30)).alloc (.cells #[.int .i64 b.v, .int .i64 b.h, .slice A2 b.rows.length cap2] 30)).heap[w.heap.size + 1]? = some (.cells #[.int .i64 b.v, .int .i64 b.h, .slice A2 b.rows.length cap2] 30 (0, 0)) := heap_at _ _ (by simp)
  have HQ1 := Lib.hid hq1; have HQ2 := Lib.hid hq2
  have HT := Lib.hid (stAsked_any p a A cap xs.length _ XA xcap (hR.ext hB) hm hms hn)
  have HR := Lib.hid hR; have HX := Lib.hid hX; have HR2 := Lib.hid hR2; have HNS := Lib.hid hns; have HM2 := Lib.hid hm2; have HMS2 := Lib.hid hms2
  clear hB hq1 hq2 hR hX hR2 hns hms hm2 hms2
  cases ht : trkB p a xs.length with
  | false =>
    have HTF := Lib.hid ht
    rw [ht] at HT
    clear ht
    go_enter Tryz.func35, Tryz.ntmps35
    go_wp2_with (go_at_call 59; refine HT.out.mono ?_; rintro e w1 ⟨rfl, hb1⟩; have HB1 := Lib.hid (below_ext HB.out hb1); clear hb1)
    refine bodyPost_ret (v := .tuple #[.bool false, .bool false]) (by simp [results, Tryz.results35, go_sem]) rfl ⟨?_, HB1.out⟩
    simp [ckR, ckOk, HTF.out]
  | true =>
    have HTF := Lib.hid ht
    rw [ht] at HT
    clear ht
    obtain ⟨hok, hn3⟩ := trkB_iff.1 HTF.out
    have HLD := Lib.hid (fun (W : World) (hW : Below w.heap.size w W) => stProves_any p a A cap xs XA xcap b A2 cap2 W (HR.out.ext hW) (HX.out.ext hW) (HR2.out.ext hW) hok hn3 HNS.out HM2.out HMS2.out)
    have HSY := Lib.hid (fun (W : World) (hW : Below w.heap.size w W) => syGood_any p b.v b.h A2 cap2 b.rows W (HR2.out.ext hW) (len_max HM2.out) (fun r hr => len_max (HMS2.out r hr)))
    clear hok
    obtain ⟨l, hl⟩ : ∃ l, l = ldB p a xs b := ⟨_, rfl⟩
    rw [← hl] at HLD
    have HLL := Lib.hid hl
    clear hl
    cases hs : sysB p b.v b.h b.rows with
    | false =>
      have HSF := Lib.hid hs
      rw [hs] at HSY
      clear hs
      go_enter Tryz.func35, Tryz.ntmps35
      go_wp2_with (first | (go_at_call 59; refine HT.out.mono ?_; rintro e w1 ⟨rfl, hb1⟩; have HB1 := Lib.hid (below_ext HB.out hb1); obtain ⟨d0, d1, d2⟩ := cells_3 (box_at HQ2.out hb1); clear hb1) | (go_at_call 47; refine (HSY.out _ HB1.out).mono ?_; rintro e w2 ⟨rfl, hb2⟩; have HB2 := Lib.hid (below_ext HB1.out hb2); clear hb2 d0 d1 d2))
      refine bodyPost_ret (v := .tuple #[.bool false, .bool false]) (by simp [results, Tryz.results35, go_sem]) rfl ⟨?_, HB2.out⟩
      simp [ckR, ckOk, HSF.out]
    | true =>
      have HSF := Lib.hid hs
      rw [hs] at HSY
      clear hs
      go_enter Tryz.func35, Tryz.ntmps35
      go_wp2_with (first | (go_at_call 59; refine HT.out.mono ?_; rintro e w1 ⟨rfl, hb1⟩; have HB1 := Lib.hid (below_ext HB.out hb1); have HQ11 := Lib.hid (box_at HQ1.out hb1); have HQ21 := Lib.hid (box_at HQ2.out hb1); obtain ⟨d0, d1, d2⟩ := cells_3 (box_at HQ2.out hb1); clear hb1) | (go_at_call 47; refine (HSY.out _ HB1.out).mono ?_; rintro e w2 ⟨rfl, hb2⟩; have HB2 := Lib.hid (below_ext HB1.out hb2); clear d0 d1 d2; obtain ⟨d0, d1, d2⟩ := cells_3 (box_at HQ21.out hb2); obtain ⟨c0, c1, c2⟩ := cells_3 (box_at HQ11.out hb2); clear hb2) | (go_at_call 68; refine (HLD.out _ HB2.out).mono ?_; rintro e w3 ⟨rfl, hb3⟩; have HB3 := Lib.hid (below_ext HB2.out hb3); clear hb3))
      refine bodyPost_ret (v := .tuple #[.bool l, .bool true]) (by simp [results, Tryz.results35, go_sem]) rfl ⟨?_, HB3.out⟩
      have h1 : ckOk p a xs b = true := by unfold ckOk; rw [HTF.out, HSF.out]; rfl
      rw [ckR, h1, Bool.true_and, HLL.out]
end Go.Proofs.YtjdbfokbgmbphaaGreatDoor
