/- The reference's stRun: the systems before each step and behind the last one. Conditions: the system is valid, there are at most 3000 steps. | Both FirstBadSteps. Conditions: lengths of at most 2^20; the table of primes is laid. -/
import Derived.Test.YtjdbfokbgmbphaaGreatDoorPk23
import Derived.Test.YtjdbfokbgmbphaaGreatDoorPk25
namespace Go.Proofs.YtjdbfokbgmbphaaGreatDoor
set_option linter.unusedVariables false
set_option linter.unusedSimpArgs false
open Go.RowKit
def sysL (p : Int) (s : Sy) (xs : List Stp) (n : Nat) : List Sy := (List.range n).map (sysAt p s xs)
theorem sysL_succ (p : Int) (s : Sy) (xs : List Stp) (n : Nat) : sysL p s xs (n + 1) = sysL p s xs n ++ [sysAt p s xs n] := by simp [sysL, List.range_succ]
theorem sysL_len (p : Int) (s : Sy) (xs : List Stp) (n : Nat) : (sysL p s xs n).length = n := by simp [sysL]
theorem sysL_get (p : Int) (s : Sy) (xs : List Stp) (n k : Nat) (h : k < n) : (sysL p s xs n)[k]? = some (sysAt p s xs k) := by simp [sysL, h]
theorem stMakeS (p : Int) (s : Sy) (x : Stp) (A : Option Addr) (cap : Nat) (w : World) (XA : Option Addr) (xcap : Nat) (hR : RowsAt w A s.rows) (hX : IntsAt w XA x.row) (hs : s.Ok p) (ho : okTo p s x = true) :
  Calls Tryz.prog 49 #[.int .i64 p, .agg #[.int .i64 s.v, .int .i64 s.h, .slice A s.rows.length cap], .agg #[.int .i64 x.k, .int .i64 x.a, .int .i64 x.b, .int .i64 x.c, .slice XA x.row.length xcap]] w fun e w' =>
   ∃ A2 c2, e = .returned (.agg #[.int .i64 (stepTo p s x).v, .int .i64 (stepTo p s x).h, .slice A2 (stepTo p s x).rows.length c2]) ∧ OwnRows w' w.heap.size (.slice A2 (stepTo p s x).rows.length c2) (stepTo p s x).rows ∧ Below w.heap.size w w' := by
 refine (stMake_any p s.v s.h x.k x.a x.b x.c A cap s.rows w XA x.row xcap hR hX hs ho).mono fun e w' he => ?_
 obtain ⟨u, e1, e2, e3⟩ := he
 obtain ⟨A2, c2, rfl, _⟩ := e2.view
 exact ⟨A2, c2, e1, e2, e3⟩
def RanTo (p : Int) (s : Sy) (xs : List Stp) (w : World) (e : Ending) (w' : World) : Prop :=
 ∃ g cap, e = .returned (.slice (some ⟨g, 0, none⟩) (firstBad p s xs + 1) cap) ∧ OwnSy w' w.heap.size (.slice (some ⟨g, 0, none⟩) (firstBad p s xs + 1) cap) (sysL p s xs (firstBad p s xs + 1)) ∧ Below w.heap.size w w'
def SRel (p : Int) (s : Sy) (xs : List Stp) (w : World) (k : Nat) (u : Value) (wr : World) : Prop :=
 k ≤ firstBad p s xs ∧ ∃ g m cap, m = k + 1 ∧ u = .slice (some ⟨g, 0, none⟩) m cap ∧ OwnSy wr w.heap.size u (sysL p s xs (k + 1)) ∧ Below w.heap.size w wr
set_option maxRecDepth 100000 in
set_option maxHeartbeats 8000000 in
theorem stRun_any (p : Int) (s : Sy) (A : Option Addr) (cap : Nat) (xs : List Stp) (w : World) (XA : Option Addr) (xcap : Nat) (hR : RowsAt w A s.rows) (hX : StepsAt w XA xs) (hok : s.Ok p) (hm : xs.length ≤ 3000) (hms : ∀ x ∈ xs, x.row.length ≤ 1048576) :
  Calls Tryz.prog 60 #[.int .i64 p, .agg #[.int .i64 s.v, .int .i64 s.h, .slice A s.rows.length cap], .slice XA xs.length xcap] w (RanTo p s xs w) := by
 have hs := hok.small
 have HR := Lib.hid hR; have HX := Lib.hid hX; have HOK := Lib.hid hok; have HMS := Lib.hid hms
 have HN := Lib.hid (show s.rows.length ≤ 1048576 by have := hs.n; omega)
 have HL := Lib.hid (show ∀ r ∈ s.rows, r.length ≤ 1048576 from fun r hr => by have := hs.len r hr; omega)
 clear hR hX hok hms hs
 have HB := Lib.hid ((Below.refl w.heap.size w).alloc (Nat.le_refl _) (.cells #[.int .i64 s.v, .int .i64 s.h, .slice A s.rows.length cap] 30))
 go_enter Tryz.func60, Tryz.ntmps60
 go_wp2_with (go_at_call 72; refine (stOwn_any _ _ _ _ _ _ (HR.out.ext HB.out) HN.out HL.out).mono ?_; rintro e w1 ⟨u, rfl, hu, hb1⟩; obtain ⟨A1, c1, rfl, _⟩ := hu.view; have HU1 := Lib.hid hu; have HB1 := Lib.hid hb1; clear hu hb1)
 have hst : SRel p s xs w 0 (.slice (some ⟨w1.heap.size, 0, none⟩) 1 1) (w1.alloc (.cells #[.int .i64 s.v, .int .i64 s.h, .slice A1 s.rows.length c1] 30)) := by
  have hB3 := HB.out.trans (HB1.out.mono (B' := w.heap.size) (by simp <;> omega))
  refine ⟨Nat.zero_le _, _, 1, _, rfl, rfl, ?_, hB3.alloc hB3.size _⟩
  have := OwnSy.one w1 w.heap.size s (.slice A1 s.rows.length c1) hB3.size (HU1.out.mono (by simp))
  rw [show sysL p s xs (0 + 1) = [s] by simp [sysL, sysAt_zero]]
  exact this
 have HST := Lib.hid hst
 clear hst HU1 HB1 HB HR HN HL
 go_loopw [7, 15] (fun u i wr => ∃ k : Nat, k ≤ xs.length ∧ i = .int .i64 k ∧ SRel p s xs w k u wr)
  (fun _ i _ => xs.length - (intOf i).toNat)
 case atStart => exact ⟨0, Nat.zero_le _, rfl, HST.out⟩
 case round =>
  obtain ⟨k, hk, rfl, hk1, g, m, gcap, hmk, rfl, hown, hbel⟩ := hrel
  have HMK := Lib.hid hmk
  have hkm : k < m := by omega
  have hkm' : m ≤ 3001 := by omega
  clear HST hmk
  have HOWN := Lib.hid hown; have HBEL := Lib.hid hbel
  obtain ⟨sk, hsk⟩ : ∃ sk, sk = sysAt p s xs k := ⟨_, rfl⟩
  have HSK := Lib.hid hsk
  have HOKK := Lib.hid (show sk.Ok p by rw [hsk]; exact sysAt_ok HOK.out hk1)
  by_cases hlt : k < xs.length
  ·obtain ⟨x, hx⟩ := get_of_lt hlt
   obtain ⟨b, o, rfl, hc⟩ := (HX.out.ext HBEL.out).here hlt
   obtain ⟨A', cap', ⟨x0, x1, x2, x3, x4⟩, hin⟩ := hc k x hx
   have HRW := Lib.hid (HMS.out x (List.mem_of_getElem? hx))
   have HIN := Lib.hid hin; have HXK := Lib.hid hx
   obtain ⟨A0, cap0, hv0, hsa, _⟩ := hown.view
   simp only [Value.slice.injEq] at hv0
   obtain ⟨rfl, -, -⟩ := hv0
   have hkl : k < (sysL p s xs (k + 1)).length := by rw [sysL_len]; omega
   obtain ⟨g', o', hgo, hsc⟩ : ∃ b o, some (⟨g, 0, none⟩ : Addr) = some ⟨b, o, none⟩ ∧ ∀ (k' : Nat) (x : Sy), (sysL p s xs (k + 1))[k']? = some x → ∃ A' cap, (wr.cell? ⟨b, o + k' * 3, none⟩ = some (.int .i64 x.v) ∧ wr.cell? ⟨b, o + k' * 3 + 1, none⟩ = some (.int .i64 x.h) ∧ wr.cell? ⟨b, o + k' * 3 + 2, none⟩ = some (.slice A' x.rows.length cap)) ∧ RowsAt wr A' x.rows := by
    rcases hsa with h | h
    ·rw [h] at hkl; simp at hkl
    ·exact h
   simp only [Option.some.injEq, Addr.mk.injEq, and_true] at hgo
   obtain ⟨rfl, rfl⟩ := hgo
   obtain ⟨Ak, ck, ⟨y0, y1, y2⟩, hrk⟩ := hsc k sk (by rw [hsk]; exact sysL_get _ _ _ _ _ (by omega))
   simp only [Nat.zero_add] at y0 y1 y2
   have HRK := Lib.hid hrk; have HY0 := Lib.hid y0; have HY1 := Lib.hid y1; have HY2 := Lib.hid y2
   clear hc hin hx hown hbel hsk hsc hsa hkl hrk y0 y1 y2
   go_upto_region 5 with (fail)
   obtain ⟨W2, hW2⟩ : ∃ W2, W2 = wr.alloc (.cells #[.int .i64 x.k, .int .i64 x.a, .int .i64 x.b, .int .i64 x.c, .slice A' x.row.length cap'] 34) := ⟨_, rfl⟩
   rw [← hW2]
   have hA : Below wr.heap.size wr W2 := by rw [hW2]; exact (Below.refl _ _).alloc (Nat.le_refl _) _
   have hq2 : W2.heap[wr.heap.size]? = some (.cells #[.int .i64 x.k, .int .i64 x.a, .int .i64 x.b, .int .i64 x.c, .slice A' x.row.length cap'] 34 (0, 0)) := by rw [hW2]; exact heap_at _ _ rfl
   have HA := Lib.hid hA
   clear x0 x1 x2 x3 x4
   obtain ⟨x0, x1, x2, x3, x4⟩ := cells_5 hq2
   have y0 := ext_cell hA HY0.out
   have y1 := ext_cell hA HY1.out
   have y2 := ext_cell hA HY2.out
   have e0 : ∀ W : Ext W2, W.W.cell? ⟨wr.heap.size, 0, none⟩ = some (.int .i64 x.k) := fun W => W.cell x0
   have e1 : ∀ W : Ext W2, W.W.cell? ⟨wr.heap.size, 1, none⟩ = some (.int .i64 x.a) := fun W => W.cell x1
   have e2 : ∀ W : Ext W2, W.W.cell? ⟨wr.heap.size, 2, none⟩ = some (.int .i64 x.b) := fun W => W.cell x2
   have e3 : ∀ W : Ext W2, W.W.cell? ⟨wr.heap.size, 3, none⟩ = some (.int .i64 x.c) := fun W => W.cell x3
   have e4 : ∀ W : Ext W2, W.W.cell? ⟨wr.heap.size, 4, none⟩ = some (.slice A' x.row.length cap') := fun W => W.cell x4
   have f0 : ∀ W : Ext W2, W.W.cell? ⟨g, k * 3, none⟩ = some (.int .i64 sk.v) := fun W => W.cell y0
   have f1 : ∀ W : Ext W2, W.W.cell? ⟨g, k * 3 + 1, none⟩ = some (.int .i64 sk.h) := fun W => W.cell y1
   have f2 : ∀ W : Ext W2, W.W.cell? ⟨g, k * 3 + 2, none⟩ = some (.slice Ak sk.rows.length ck) := fun W => W.cell y2
   have HRA := Lib.hid (fun W : Ext W2 => (HRK.out.ext hA).ext W.ok)
   have HXA := Lib.hid (fun W : Ext W2 => (HIN.out.ext hA).ext W.ok)
   clear hA hq2 hW2 x0 x1 x2 x3 x4 y0 y1 y2
   cases ho : okTo p sk x with
   | true =>
    have HO := Lib.hid ho
    clear ho
    refine wp_region_ext_lit (by kernel_rfl) (by kernel_rfl) ?_
    repeat (go_big_quiet_step ((go_at_call 48; exact Calls.ext_of (Calls.bool_eq' (stCan_any p sk.v sk.h x.k x.a x.b x.c _ _ sk.rows _ _ x.row _ (HRA.out _) (HXA.out _) HRW.out HOKK.out) HO.out))))
    refine wpQuiet_nil ?_
    rintro _ ⟨W, rfl⟩
    have HE := Lib.hid (below_ext HA.out W.ok)
    have HRA2 := Lib.hid (HRA.out W); have HXA2 := Lib.hid (HXA.out W)
    have x0 := e0 W; have x1 := e1 W; have x2 := e2 W; have x3 := e3 W; have x4 := e4 W; have y0 := f0 W; have y1 := f1 W; have y2 := f2 W
    obtain ⟨W3, hW3⟩ : ∃ W3, W3 = W.W := ⟨_, rfl⟩
    rw [← hW3] at HE HRA2 HXA2 x0 x1 x2 x3 x4 y0 y1 y2 ⊢
    clear e0 e1 e2 e3 e4 f0 f1 f2 HRA HXA hW3
    obtain ⟨sn, hsn⟩ : ∃ sn, sn = stepTo p sk x := ⟨_, rfl⟩
    have HSN := Lib.hid hsn
    have MK := Lib.hid (fun (A cap W XA xcap h1 h2) => stMakeS p sk x A cap W XA xcap h1 h2 HOKK.out HO.out)
    rw [← hsn] at MK
    clear hsn
    go_upto_region 7 with (fail)
    refine wp_region_T (S := fun W => W.cell? ⟨wr.heap.size, 0, none⟩ = some (.int .i64 x.k) ∧ W.cell? ⟨wr.heap.size, 1, none⟩ = some (.int .i64 x.a) ∧ W.cell? ⟨wr.heap.size, 2, none⟩ = some (.int .i64 x.b) ∧ W.cell? ⟨wr.heap.size, 3, none⟩ = some (.int .i64 x.c) ∧ W.cell? ⟨wr.heap.size, 4, none⟩ = some (.slice A' x.row.length cap') ∧ W.cell? ⟨g, k * 3, none⟩ = some (.int .i64 sk.v) ∧ W.cell? ⟨g, k * 3 + 1, none⟩ = some (.int .i64 sk.h) ∧ W.cell? ⟨g, k * 3 + 2, none⟩ = some (.slice Ak sk.rows.length ck)) 9 (by kernel_rfl) ⟨x0, x1, x2, x3, x4, y0, y1, y2⟩ (fun hHeld => ?_)
    refine takeQ 0 (v := ?_) rfl (Or.inl ⟨by rfl, ?_⟩) ?_
    rotate_left
    ·intro w h; (try dsimp only at h); go_simp; (try with_reducible rfl)
    simp only [Act.put, List.setIfInBounds_toArray, List.set_cons_zero, List.set_cons_succ]
    refine takeQ 1 (v := ?_) rfl (Or.inl ⟨by rfl, ?_⟩) ?_
    rotate_left
    ·intro w h; (try dsimp only at h); go_simp; (try with_reducible rfl)
    simp only [Act.put, List.setIfInBounds_toArray, List.set_cons_zero, List.set_cons_succ]
    refine takeQ 2 (v := ?_) rfl (Or.inl ⟨by rfl, ?_⟩) ?_
    rotate_left
    ·intro w h; (try dsimp only at h); go_simp; (try with_reducible rfl)
    simp only [Act.put, List.setIfInBounds_toArray, List.set_cons_zero, List.set_cons_succ]
    refine takeQ 3 (v := ?_) rfl (Or.inl ⟨by rfl, ?_⟩) ?_
    rotate_left
    ·intro w h; (try dsimp only at h); go_simp; (try with_reducible rfl)
    simp only [Act.put, List.setIfInBounds_toArray, List.set_cons_zero, List.set_cons_succ]
    refine takeQ 4 (v := ?_) rfl (Or.inl ⟨by rfl, ?_⟩) ?_
    rotate_left
    ·intro w h; (try dsimp only at h); go_simp; (try with_reducible rfl)
    simp only [Act.put, List.setIfInBounds_toArray, List.set_cons_zero, List.set_cons_succ]
    refine takeQ 5 (v := ?_) rfl (Or.inl ⟨by rfl, ?_⟩) ?_
    rotate_left
    ·intro w h; (try dsimp only at h); go_simp; (try with_reducible rfl)
    simp only [Act.put, List.setIfInBounds_toArray, List.set_cons_zero, List.set_cons_succ]
    refine takeQ 6 (v := ?_) rfl (Or.inl ⟨by rfl, ?_⟩) ?_
    rotate_left
    ·intro w h; (try dsimp only at h); go_simp; (try with_reducible rfl)
    simp only [Act.put, List.setIfInBounds_toArray, List.set_cons_zero, List.set_cons_succ]
    refine oneT (i := 7) (by kernel_rfl) rfl (fun K hK => ?_)
    go_simp
    refine (MK.out _ _ _ _ _ (HRA2.out.ext (Below.refl _ _).drew) (HXA2.out.ext (Below.refl _ _).drew)).mono ?_
    rintro e w2 ⟨A2, c2, rfl, hu2, hb2⟩
    have H2 := Lib.hid ((Below.refl W3.heap.size W3).drew.trans hb2)
    have HU2 := Lib.hid hu2
    have HS := Lib.hid (fun w' (h : Below W3.heap.size W3 w') => (⟨ext_cell h x0, ext_cell h x1, ext_cell h x2, ext_cell h x3, ext_cell h x4, ext_cell h y0, ext_cell h y1, ext_cell h y2⟩ : w'.cell? ⟨wr.heap.size, 0, none⟩ = some (.int .i64 x.k) ∧ w'.cell? ⟨wr.heap.size, 1, none⟩ = some (.int .i64 x.a) ∧ w'.cell? ⟨wr.heap.size, 2, none⟩ = some (.int .i64 x.b) ∧ w'.cell? ⟨wr.heap.size, 3, none⟩ = some (.int .i64 x.c) ∧ w'.cell? ⟨wr.heap.size, 4, none⟩ = some (.slice A' x.row.length cap') ∧ w'.cell? ⟨g, k * 3, none⟩ = some (.int .i64 sk.v) ∧ w'.cell? ⟨g, k * 3 + 1, none⟩ = some (.int .i64 sk.h) ∧ w'.cell? ⟨g, k * 3 + 2, none⟩ = some (.slice Ak sk.rows.length ck)))
    clear hu2 hb2 x0 x1 x2 x3 x4 y0 y1 y2
    go_simp
    refine hK.out _ _ (fun _ => HS.out _ H2.out) (fun hHeld => ?_)
    clear hK K
    try simp only [Act.put, List.setIfInBounds_toArray, List.set_cons_zero, List.set_cons_succ]
    have hHeld := hHeld (by decide)
    refine oneT (i := 8) (by kernel_rfl) rfl (fun K hK => ?_)
    go_simp
    refine hK.out _ _ (fun _ => HS.out _ (H2.out.alloc H2.out.size _)) (fun hHeld => ?_)
    clear hK K
    try simp only [Act.put, List.setIfInBounds_toArray, List.set_cons_zero, List.set_cons_succ]
    have hHeld := hHeld (by decide)
    refine oneT (i := 9) (by kernel_rfl) rfl (fun K hK => ?_)
    have HOW2 := Lib.hid (HOWN.out.ext (below_ext HE.out H2.out))
    have HLL := Lib.hid (sysL_len p s xs (k + 1))
    refine step_appendSy rfl (.tmp 29) (.tmp 37) rfl w.heap.size w2 (.slice (some ⟨g, 0, none⟩) m gcap) (.slice A2 sn.rows.length c2) (sysL p s xs (k + 1)) sn HOW2.out (HU2.out.mono (by have := (below_ext HBEL.out HE.out).size; simpa using this)) (by rw [HLL.out]; omega) (by have := (below_ext HBEL.out (below_ext HE.out H2.out)).size; exact this) rfl rfl ?_
    intro g3 cap3 w3 hown3 hg3 hb3
    rw [HLL.out] at hown3 ⊢
    have HO3 := Lib.hid hown3; have HB3 := Lib.hid hb3
    clear hown3 hg3 hb3
    refine hK.out _ _ (fun h => absurd h (by decide)) (fun _ => ?_)
    clear hK K
    try simp only [Act.put, List.setIfInBounds_toArray, List.set_cons_zero, List.set_cons_succ]
    refine oneT (i := 10) (by kernel_rfl) rfl (fun K hK => ?_)
    go_simp
    refine hK.out _ _ (fun h => absurd h (by decide)) (fun _ => ?_)
    clear hK K hHeld
    try simp only [Act.put, List.setIfInBounds_toArray, List.set_cons_zero, List.set_cons_succ]
    refine doneT (by kernel_rfl) ?_ _
    have hnew : SRel p s xs w (k + 1) (.slice (some ⟨g3, 0, none⟩) (k + 1 + 1) cap3) w3 := by
     refine ⟨bad_step hk1 HXK.out (by rw [← HSK.out]; exact HO.out), g3, _, cap3, rfl, rfl, ?_, (below_ext HBEL.out (below_ext HE.out H2.out)).trans HB3.out⟩
     rw [sysL_succ p s xs (k + 1), sysAt_succ HXK.out, ← HSK.out, ← HSN.out]
     exact HO3.out
    have HNEW := Lib.hid hnew
    clear hnew
    go_wp2
    go_roundw
    case rel => exact ⟨k + 1, by omega, by go_num, HNEW.out⟩
    case measure => simp [intOf]; omega
   | false =>
    have HO := Lib.hid ho
    clear ho
    refine wp_region_ext_lit (by kernel_rfl) (by kernel_rfl) ?_
    repeat (go_big_quiet_step ((go_at_call 48; exact Calls.ext_of (Calls.bool_eq' (stCan_any p sk.v sk.h x.k x.a x.b x.c _ _ sk.rows _ _ x.row _ (HRA.out _) (HXA.out _) HRW.out HOKK.out) HO.out))))
    refine wpQuiet_nil ?_
    rintro _ ⟨W, rfl⟩
    have HE := Lib.hid (below_ext HA.out W.ok)
    clear e0 e1 e2 e3 e4 f0 f1 f2 HRA HXA
    go_wp2
    go_ret
    have hfb := bad_here hk1 HXK.out (by rw [← HSK.out]; exact HO.out)
    exact ⟨g, gcap, by rw [hfb, ← HMK.out]; rfl, by rw [hfb, ← HMK.out]; have := HOWN.out.ext HE.out; rw [← HMK.out] at this; exact this, below_ext HBEL.out HE.out⟩
  ·have hfb : firstBad p s xs = k := by have := firstBad_le p xs s; omega
   have HFB := Lib.hid hfb
   clear hfb hown hbel hsk
   go_wp2
   go_ret
   exact ⟨g, gcap, by rw [HFB.out, ← HMK.out]; rfl, by rw [HFB.out, ← HMK.out]; have := HOWN.out; rw [← HMK.out] at this; exact this, HBEL.out⟩
end Go.Proofs.YtjdbfokbgmbphaaGreatDoor
