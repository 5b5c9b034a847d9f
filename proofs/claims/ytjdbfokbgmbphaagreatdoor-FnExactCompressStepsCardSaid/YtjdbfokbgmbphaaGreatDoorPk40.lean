/- spec.CompressSteps. Conditions: lengths of at most 2^20. | impl.CompressSteps. Conditions: lengths of at most 2^20; the table of primes is laid. -/
import Derived.Test.YtjdbfokbgmbphaaGreatDoorPk39
namespace Go.Proofs.YtjdbfokbgmbphaaGreatDoor
set_option linter.unusedVariables false
set_option linter.unusedSimpArgs false
open Go.RowKit

theorem OwnStepsW.keptA {w w' : World} {B B' n : Nat} {u v : Value} {ys : List Stp} {us xs : List Value} (h : OwnStepsW w B u ys us) (hv : w.ownsRow B' 34 5 v n xs) (hne : u.ownBlock = none ∨ u.ownBlock ≠ v.ownBlock) (hg : w.grownBy w' v.ownBlock) : OwnStepsW w' B u ys us :=
  ⟨h.len, World.ownsRow.kept h.outer hg hne, fun k u' r hu hr => OwnInts.kept (h.each k u' r hu hr) hg (apart_ty (by decide) (h.each k u' r hu hr) hv), h.apart⟩
/-- 'append(out, x)' of a step in a block of its own; where the new slice lies. -/
theorem step_appendStpH {ops : Array Oper} {o : Oper} {a : Act} {K : Act → World → Prop} {Q : Exit → Act → World → Prop} {E : Prop} (hgd : o.guard = none) (s x : Operand)
    (ho : o.op = .call { callee := .builtin .append, args := #[s, x], argTypes := #[45, 45] }) (B : Nat) (W : World) (v u : Value) (xs : List Stp) (us : List Value) (y : Stp) (b0 : Nat)
    (hW : OwnStepsW W B v xs us) (hu : OwnInts W B u y.row) (hd : ∀ b, u.ownBlock = some b → ∀ u' ∈ us, u'.ownBlock ≠ some b) (hlen : xs.length + 1 ≤ 1048576) (hB : B ≤ W.heap.size) (hs : a.eval s = v) (hx : a.eval x = .slice (some ⟨b0, 0, none⟩) 1 1)
    (hq : W.heap[b0]? = some (.cells #[.int .i64 y.k, .int .i64 y.a, .int .i64 y.b, .int .i64 y.c, u] 34 (0, 0)))
    (h : ∀ g cap w', OwnStepsW w' B (.slice (some ⟨g, 0, none⟩) (xs.length + 1) cap) (xs ++ [y]) (us ++ [u]) → W.grownBy w' v.ownBlock → Below B W w' → (v.ownBlock = some g ∨ g = W.heap.size) → K (a.put o.dst (.slice (some ⟨g, 0, none⟩) (xs.length + 1) cap)) w') :
    if Region.wanted o (yielded ops a.tmps) = true then Oper.wp Tryz.prog o a W K Q else E := by
  obtain ⟨i0, hi, hz0, hz1, hz2⟩ := info_parts infoStp
  obtain ⟨A', c', rfl, _⟩ := hu.view
  refine step_append_lies (w := W) hgd s x 45 ho B 34 i0 (.agg #[.int .i64 0, .int .i64 0, .int .i64 0, .int .i64 0, .slice none 0 0]) 5 56 Tryz.underlying45 hi hz0 hz1 hz2 rfl (by decide) v _ _ hs hW.outer ⟨b0, 0, none⟩ 1 1 (stpCells y (.slice A' y.row.length c')) hx rfl (World.news_of_block hq) ?_ (by decide) ?_ ?_ hB _ rfl ?_
  · intro u' hu'; simp [stpCells] at hu'; rcases hu' with rfl | rfl | rfl | rfl | rfl <;> rfl
  · unfold maxLen; omega
  · omega
  · intro g cap w' hown' hgrow hgg _
    exact h g cap w' (hW.snoc hu hd hown' hgrow) hgrow ((Below.refl _ _).grown hgrow hB fun k hk => (World.ownsRow.lt hW.outer k hk).1) hgg

/-- The same in a region of the text's own order, the block just made. -/
theorem wp_appendStpH {ops : Array Oper} {rest : List Oper} {o : Oper} {a : Act} {Q : Exit → Act → World → Prop} (hgd : o.guard = none) (s x : Operand)
    (ho : o.op = .call { callee := .builtin .append, args := #[s, x], argTypes := #[45, 45] }) (B : Nat) (W : World) (v u : Value) (xs : List Stp) (us : List Value) (y : Stp)
    (hW : OwnStepsW W B v xs us) (hu : OwnInts W B u y.row) (hd : ∀ b, u.ownBlock = some b → ∀ u' ∈ us, u'.ownBlock ≠ some b) (hlen : xs.length + 1 ≤ 1048576) (hB : B ≤ W.heap.size) (hs : a.eval s = v) (hx : a.eval x = .slice (some ⟨W.heap.size, 0, none⟩) 1 1)
    (h : ∀ g cap w', OwnStepsW w' B (.slice (some ⟨g, 0, none⟩) (xs.length + 1) cap) (xs ++ [y]) (us ++ [u]) → W.grownBy w' v.ownBlock → Below B W w' → (v.ownBlock = some g ∨ g = W.heap.size + 1) → wpList Tryz.prog ops Q rest (a.put o.dst (.slice (some ⟨g, 0, none⟩) (xs.length + 1) cap)) w') :
    wpList Tryz.prog ops Q (o :: rest) a (W.alloc (.cells #[.int .i64 y.k, .int .i64 y.a, .int .i64 y.b, .int .i64 y.c, u] 34)) := by
  obtain ⟨i0, hi, hz0, hz1, hz2⟩ := info_parts infoStp
  obtain ⟨A', c', rfl, _⟩ := hu.view
  have ho1 := World.ownsRow.alloc hW.outer (.cells #[.int .i64 y.k, .int .i64 y.a, .int .i64 y.b, .int .i64 y.c, .slice A' y.row.length c'] 34)
  refine wpList_append_lies _ hgd s x 45 ho B 34 i0 (.agg #[.int .i64 0, .int .i64 0, .int .i64 0, .int .i64 0, .slice none 0 0]) 5 56 Tryz.underlying45 hi hz0 hz1 hz2 rfl (by decide) v _ _ hs ho1 ⟨W.heap.size, 0, none⟩ 1 1 (stpCells y (.slice A' y.row.length c')) hx rfl (World.news_of_block (heap_at _ _ rfl)) ?_ (by decide) ?_ ?_ ?_ _ rfl ?_
  · intro u' hu'; simp [stpCells] at hu'; rcases hu' with rfl | rfl | rfl | rfl | rfl <;> rfl
  · unfold maxLen; omega
  · omega
  · simp; omega
  · intro g cap w' hown' hgrow hgg _
    have hg : W.grownBy w' v.ownBlock := ⟨hgrow.os, hgrow.tape, hgrow.output, by have := hgrow.size; simp at this; omega, fun k hk hne => (hgrow.block k (by simp; omega) hne).trans (heap_alloc_old W _ hk)⟩
    exact h g cap w' (hW.snoc hu hd hown' hg) hg ((Below.refl _ _).grown hg hB fun k hk => (World.ownsRow.lt hW.outer k hk).1) (by simpa using hgg)
def bk (p : Int) (q : Stp × Sy) : Stp := undoTo p q.2 q.1
def cmX (p : Int) (s : Sy) (xs : List Stp) : List Stp := if apOk p s xs = true then (cmpL p s xs xs.length).map Prod.fst else []
theorem cmX_le {p : Int} {s : Sy} {xs : List Stp} (hns : ∀ x ∈ xs, x.row.length ≤ 1048576) : (cmX p s xs).length ≤ 1048576 ∧ ∀ r ∈ cmX p s xs, r.row.length ≤ 1048576 := by
  unfold cmX
  split
  · rename_i h
    obtain ⟨h1, h2, h3⟩ := apOk_iff.1 h
    refine ⟨by rw [List.length_map]; have := cmpL_len p s xs xs.length; omega, fun r hr => ?_⟩
    obtain ⟨q, hq, rfl⟩ := List.mem_map.1 hr
    exact hns _ (cmpL_mem h1 xs.length (by omega) q hq).1
  · simp
def DRel (p : Int) (s : Sy) (xs : List Stp) (w : World) (b12 k n : Nat) (u8 u9 : Value) (wr : World) : Prop :=
  n = (cmpL p s xs k).length ∧ (∃ A8 c8 us, u8 = .slice A8 n c8 ∧ OwnStepsW wr (b12 + 1) (.slice A8 n c8) ((cmpL p s xs k).map Prod.fst) us) ∧
  (∃ A9 c9 vs, u9 = .slice A9 n c9 ∧ OwnStepsW wr (b12 + 1) (.slice A9 n c9) ((cmpL p s xs k).map (bk p)) vs) ∧ (u8.ownBlock = none ∨ u8.ownBlock ≠ u9.ownBlock) ∧
  (∃ A1 c1, wr.heap[b12]? = some (.cells #[.int .i64 (sysAt p s xs k).v, .int .i64 (sysAt p s xs k).h, .slice A1 (sysAt p s xs k).rows.length c1] 30 (0, 0)) ∧ OwnRows wr (w.heap.size + 1) (.slice A1 (sysAt p s xs k).rows.length c1) (sysAt p s xs k).rows) ∧ Below w.heap.size w wr

theorem flipNe {A8 A9 : Option Addr} {n c8 c9 L : Nat} {B : Nat} (h : (Value.slice A8 n c8).ownBlock = none ∨ (Value.slice A8 n c8).ownBlock ≠ (Value.slice A9 n c9).ownBlock) (_ : ∀ k, (Value.slice A9 n c9).ownBlock = some k → B ≤ k ∧ k < L) : (Value.slice A9 n c9).ownBlock = none ∨ (Value.slice A9 n c9).ownBlock ≠ (Value.slice A8 n c8).ownBlock := by
  cases h9 : (Value.slice A9 n c9).ownBlock with
  | none => exact Or.inl rfl
  | some b =>
    right
    rcases h with h | h
    · rw [h]; simp
    · rw [h9] at h; exact fun e => h e.symm
theorem newNe {A8 A9 : Option Addr} {n c8 c9 L g M : Nat} {B : Nat} (h : (Value.slice A8 n c8).ownBlock = none ∨ (Value.slice A8 n c8).ownBlock ≠ (Value.slice A9 n c9).ownBlock) (hl : ∀ k, (Value.slice A9 n c9).ownBlock = some k → B ≤ k ∧ k < L) (hg : (Value.slice A8 n c8).ownBlock = some g ∨ g = M) (hL : L ≤ M) : (Value.slice A9 n c9).ownBlock = none ∨ (Value.slice A9 n c9).ownBlock ≠ some g := by
  cases h9 : (Value.slice A9 n c9).ownBlock with
  | none => exact Or.inl rfl
  | some b =>
    right
    have := (hl b h9).2
    rcases hg with hg | hg
    · rcases h with h | h
      · rw [h] at hg; cases hg
      · rw [h9, hg] at h; exact fun e => h e.symm
    · intro e; cases e; omega
theorem flip2 {A9 : Option Addr} {n c9 g m c : Nat} (h : (Value.slice A9 n c9).ownBlock = none ∨ (Value.slice A9 n c9).ownBlock ≠ some g) : (Value.slice (some ⟨g, 0, none⟩) m c).ownBlock = none ∨ (Value.slice (some ⟨g, 0, none⟩) m c).ownBlock ≠ (Value.slice A9 n c9).ownBlock := by
  right
  rcases h with h | h
  · rw [h]; simp [Value.ownBlock]
  · exact fun e => h e.symm
theorem last2 {A9 : Option Addr} {n c9 g g' M : Nat} (h : (Value.slice A9 n c9).ownBlock = none ∨ (Value.slice A9 n c9).ownBlock ≠ some g) (hM : g < M) (hg : (Value.slice A9 n c9).ownBlock = some g' ∨ g' = M) : g ≠ g' := by
  rintro rfl
  rcases hg with hg | hg
  · rcases h with h | h
    · rw [h] at hg; cases hg
    · exact h hg
  · omega

set_option maxRecDepth 100000 in
set_option maxHeartbeats 16000000 in
theorem specCompressC (p : Int) (s : Sy) (A : Option Addr) (cap : Nat) (xs : List Stp) (XA : Option Addr) (xcap : Nat) (w : World) (hR : RowsAt w A s.rows) (hm : s.rows.length ≤ 1048576) (hms : ∀ r ∈ s.rows, r.length ≤ 1048576) (hX : StepsAt w XA xs) (hn : xs.length ≤ 1048576) (hns : ∀ x ∈ xs, x.row.length ≤ 1048576) :
    Calls Tryz.prog 41 #[.int .i64 p, .agg #[.int .i64 s.v, .int .i64 s.h, .slice A s.rows.length cap], .slice XA xs.length xcap] w (SteppedTo (cmX p s xs) (apOk p s xs) w) := by
  have HB := Lib.hid ((Below.refl w.heap.size w).alloc (Nat.le_refl _) (.cells #[.int .i64 s.v, .int .i64 s.h, .slice A s.rows.length cap] 30))
  have AP := Lib.hid (specApplyC p s A cap xs XA xcap _ (hR.ext HB.out) hm hms (hX.ext HB.out) hn hns)
  obtain ⟨a, ha⟩ : ∃ a, a = apS p s xs := ⟨_, rfl⟩
  rw [← ha] at AP
  clear ha
  have HQ := Lib.hid (show (w.alloc (.cells #[.int .i64 s.v, .int .i64 s.h, .slice A s.rows.length cap] 30)).heap[w.heap.size]? = some (.cells #[.int .i64 s.v, .int .i64 s.h, .slice A s.rows.length cap] 30 (0, 0)) from heap_at _ _ rfl)
  have HR := Lib.hid hR; have HX := Lib.hid hX; have HMS := Lib.hid hns; have HM := Lib.hid hm; have HML := Lib.hid hms
  clear hR hX hms hns
  cases hap : apOk p s xs with
  | false =>
    have HAP := Lib.hid hap
    rw [hap] at AP
    clear hap
    have HCX := Lib.hid (show cmX p s xs = [] by unfold cmX; rw [HAP.out, if_neg (by decide)])
    go_enter Tryz.func41, Tryz.ntmps41
    go_wp2_with (go_at_call 37; refine AP.out.mono ?_; rintro e w1 ⟨u, rfl, hu, hb1⟩; obtain ⟨A1, c1, rfl, _⟩ := hu.view; have HB1 := Lib.hid (below_ext HB.out hb1); clear hb1 hu)
    rw [HCX.out]
    exact bodyPost_ret (v := .tuple #[.slice none 0 0, .bool false]) (by simp [results, Tryz.results41, go_sem]) rfl (SteppedTo.mk rfl (OwnSteps.nil _ _) (HB1.out.alloc HB1.out.size _))
  | true =>
    have HAP := Lib.hid hap
    rw [hap] at AP
    clear hap
    obtain ⟨hok, hn3, hfb⟩ := apOk_iff.1 HAP.out
    have HOK := Lib.hid hok; have HFB := Lib.hid hfb
    clear hok hfb
    have HCX := Lib.hid (show cmX p s xs = (cmpL p s xs xs.length).map Prod.fst by unfold cmX; rw [HAP.out, if_pos rfl])
    go_enter Tryz.func41, Tryz.ntmps41
    go_upto_region 2 with (go_at_call 37; refine AP.out.mono ?_; rintro e w1 ⟨u, rfl, hu, hb1⟩; obtain ⟨A1, c1, rfl, _⟩ := hu.view; have HB1 := Lib.hid (below_ext HB.out hb1); have HQ1 := Lib.hid (box_at HQ.out hb1); clear hb1 hu)
    obtain ⟨W2, hW2⟩ : ∃ W2, W2 = w1.alloc (.cells #[.int .i64 a.v, .int .i64 a.h, .slice A1 a.rows.length c1] 30) := ⟨_, rfl⟩
    rw [← hW2]
    have hb2 : Below w1.heap.size w1 W2 := by rw [hW2]; exact (Below.refl _ _).alloc (Nat.le_refl _) _
    have HB2 := Lib.hid (below_ext HB1.out hb2)
    have HW1 := Lib.hid (show w.heap.size < w1.heap.size from (Array.getElem?_eq_some_iff.1 HQ1.out).1)
    obtain ⟨d0, d1, d2, _⟩ := cells3 (box_at HQ1.out hb2)
    have HW2 := Lib.hid hb2.size
    clear hb2 hW2 HB1 HQ1
    go_wp2_with (go_at_call 72; refine (stOwn_any _ _ _ _ _ _ (HR.out.ext HB2.out) HM.out HML.out).mono ?_; rintro e w3 ⟨u, rfl, hu, hb3⟩; obtain ⟨A3, c3, rfl, _⟩ := hu.view; have HU3 := Lib.hid hu; have HB3 := Lib.hid hb3; clear hu hb3 d0 d1 d2)
    obtain ⟨b12, hb12⟩ : ∃ b12, b12 = w3.heap.size := ⟨_, rfl⟩
    have HBW := Lib.hid (show w.heap.size + 1 ≤ b12 by rw [hb12]; have := HW1.out; have := HW2.out; have := HB3.out.size; omega)
    have hst : DRel p s xs w b12 0 0 (.slice none 0 0) (.slice none 0 0) (w3.alloc (.cells #[.int .i64 s.v, .int .i64 s.h, .slice A3 s.rows.length c3] 30)) := by
      have h3 := below_ext HB2.out HB3.out
      obtain ⟨us, h1⟩ := OwnSteps.nil (w3.alloc (.cells #[.int .i64 s.v, .int .i64 s.h, .slice A3 s.rows.length c3] 30)) (b12 + 1)
      refine ⟨rfl, ⟨none, 0, us, rfl, h1⟩, ⟨none, 0, us, rfl, h1⟩, Or.inl rfl, ⟨A3, c3, ?_, ?_⟩, h3.alloc h3.size _⟩
      · rw [sysAt_zero, hb12]; exact heap_at _ _ rfl
      · rw [sysAt_zero]; exact (HU3.out.mono (B' := w.heap.size + 1) (by have := HW1.out; have := HW2.out; omega)).ext ((Below.refl _ _).alloc (Nat.le_refl _) _)
    have HST := Lib.hid hst
    rw [← hb12]
    clear hst HU3 HB3 HB2 hb12 HW1 HW2 AP HQ
    go_loopw [10, 11, 29] (fun u v i wr => ∃ k n : Nat, k ≤ xs.length ∧ i = .int .i64 k ∧ DRel p s xs w b12 k n u v wr)
      (fun _ _ i _ => xs.length - (intOf i).toNat)
    case atStart => exact ⟨0, 0, Nat.zero_le _, rfl, HST.out⟩
    case round =>
      obtain ⟨k, n, hk, rfl, hn, ⟨A8, c8, us, rfl, hown⟩, ⟨A9, c9, vs, rfl, hback⟩, hne, ⟨A1, c1, hq, hrows⟩, hbel⟩ := hrel
      clear HST
      have HN := Lib.hid hn; have HNE := Lib.hid hne
      have hnk : n ≤ k := by rw [hn]; exact cmpL_len p s xs k
      have hk1 : k ≤ firstBad p s xs := by have := HFB.out; omega
      obtain ⟨lf, hlf⟩ : ∃ lf, lf = (cmpL p s xs k).map Prod.fst := ⟨_, rfl⟩
      obtain ⟨ls, hls⟩ : ∃ ls, ls = (cmpL p s xs k).map (bk p) := ⟨_, rfl⟩
      have HLFD := Lib.hid hlf; have HLSD := Lib.hid hls
      have HLF := Lib.hid (show lf.length = n by rw [hlf, hn]; simp)
      have HLS := Lib.hid (show ls.length = n by rw [hls, hn]; simp)
      rw [← hlf] at hown
      rw [← hls] at hback
      have HOWN := Lib.hid hown; have HBACK := Lib.hid hback; have HQ := Lib.hid hq; have HROWS := Lib.hid hrows; have HBEL := Lib.hid hbel
      obtain ⟨sk, hsk⟩ : ∃ sk, sk = sysAt p s xs k := ⟨_, rfl⟩
      have HSK := Lib.hid hsk
      have HOKK := Lib.hid (show sk.Ok p by rw [hsk]; exact sysAt_ok HOK.out hk1)
      rw [← hsk] at HQ HROWS
      have HLT8 := Lib.hid (World.ownsRow.lt hown.outer); have HLT9 := Lib.hid (World.ownsRow.lt hback.outer)
      have hb12r := (Array.getElem?_eq_some_iff.1 hq).1
      clear hown hback hq hrows hbel hsk hlf hls hn hne
      by_cases hlt : k < xs.length
      · obtain ⟨x, hx⟩ := get_of_lt hlt
        obtain ⟨b, o, rfl, hc⟩ := HX.out.here hlt
        obtain ⟨A', cap', hxc, hin⟩ := hc k x hx
        obtain ⟨x0, x1, x2, x3, x4⟩ : StpAt wr b (o + k * 5) x A' cap' := hxc.ext HBEL.out
        have HRW := Lib.hid (HMS.out x (List.mem_of_getElem? hx))
        have HIN := Lib.hid hin; have HXK := Lib.hid hx
        have HO := Lib.hid (show okTo p sk x = true by rw [HSK.out]; exact bad_ok (by have := HFB.out; omega) hx)
        obtain ⟨sn, hsn⟩ : ∃ sn, sn = stepTo p sk x := ⟨_, rfl⟩
        have HSN := Lib.hid hsn
        have MK := Lib.hid (fun (A cap W XA xcap h1 h2) => stMakeS p sk x A cap W XA xcap h1 h2 HOKK.out HO.out)
        rw [← hsn] at MK
        obtain ⟨yn, hyn⟩ : ∃ yn, yn = undoTo p sk x := ⟨_, rfl⟩
        have HYN := Lib.hid hyn
        have UN := Lib.hid (fun (A cap W XA xcap h1) => stUndoS p sk x A cap W XA xcap h1 HOKK.out HO.out)
        rw [← hyn] at UN
        clear hc hin hx hxc hsn hyn
        go_upto_region 9 with (fail)
        obtain ⟨W2, hW2⟩ : ∃ W2, W2 = wr.alloc (.cells #[.int .i64 x.k, .int .i64 x.a, .int .i64 x.b, .int .i64 x.c, .slice A' x.row.length cap'] 34) := ⟨_, rfl⟩
        rw [← hW2]
        have hA : Below wr.heap.size wr W2 := by rw [hW2]; exact (Below.refl _ _).alloc (Nat.le_refl _) _
        have hq2 : W2.heap[wr.heap.size]? = some (.cells #[.int .i64 x.k, .int .i64 x.a, .int .i64 x.b, .int .i64 x.c, .slice A' x.row.length cap'] 34 (0, 0)) := by rw [hW2]; exact heap_at _ _ rfl
        have HA := Lib.hid hA
        have HX2 := Lib.hid hq2; have HQ2 := Lib.hid (box_at HQ.out hA); have HO2 := Lib.hid (HOWN.out.ext hA); have HV2 := Lib.hid (HBACK.out.ext hA); have HU2 := Lib.hid (HROWS.out.ext hA)
        have HB2 := Lib.hid (below_ext HBEL.out hA); have HZ2 := Lib.hid hA.size
        have HS := Lib.hid (fun (W : World) (h1 : W.heap[wr.heap.size]? = some (.cells #[.int .i64 x.k, .int .i64 x.a, .int .i64 x.b, .int .i64 x.c, .slice A' x.row.length cap'] 34 (0, 0))) (h2 : W.heap[b12]? = some (.cells #[.int .i64 sk.v, .int .i64 sk.h, .slice A1 sk.rows.length c1] 30 (0, 0))) => (⟨(cells_5 h1).1, (cells_5 h1).2.1, (cells_5 h1).2.2.1, (cells_5 h1).2.2.2.1, (cells_5 h1).2.2.2.2, (cells_3 h2).1, (cells_3 h2).2.1, (cells_3 h2).2.2⟩ : W.cell? ⟨wr.heap.size, 0, none⟩ = some (.int .i64 x.k) ∧ W.cell? ⟨wr.heap.size, 1, none⟩ = some (.int .i64 x.a) ∧ W.cell? ⟨wr.heap.size, 2, none⟩ = some (.int .i64 x.b) ∧ W.cell? ⟨wr.heap.size, 3, none⟩ = some (.int .i64 x.c) ∧ W.cell? ⟨wr.heap.size, 4, none⟩ = some (.slice A' x.row.length cap') ∧ W.cell? ⟨b12, 0, none⟩ = some (.int .i64 sk.v) ∧ W.cell? ⟨b12, 1, none⟩ = some (.int .i64 sk.h) ∧ W.cell? ⟨b12, 2, none⟩ = some (.slice A1 sk.rows.length c1)))
        clear hA hq2 hW2 x0 x1 x2 x3 x4
        have HE := Lib.hid (fun W : Ext W2 => box_at HX2.out W.ok)
        have e0 : ∀ W : Ext W2, W.W.cell? ⟨wr.heap.size, 0, none⟩ = some (.int .i64 x.k) := fun W => (cells_5 (HE.out W)).1
        have e1 : ∀ W : Ext W2, W.W.cell? ⟨wr.heap.size, 1, none⟩ = some (.int .i64 x.a) := fun W => (cells_5 (HE.out W)).2.1
        have e2 : ∀ W : Ext W2, W.W.cell? ⟨wr.heap.size, 2, none⟩ = some (.int .i64 x.b) := fun W => (cells_5 (HE.out W)).2.2.1
        have e3 : ∀ W : Ext W2, W.W.cell? ⟨wr.heap.size, 3, none⟩ = some (.int .i64 x.c) := fun W => (cells_5 (HE.out W)).2.2.2.1
        have e4 : ∀ W : Ext W2, W.W.cell? ⟨wr.heap.size, 4, none⟩ = some (.slice A' x.row.length cap') := fun W => (cells_5 (HE.out W)).2.2.2.2
        rcases Nat.eq_zero_or_pos n with rfl | hnp
        · have HNEW := Lib.hid (show cmpL p s xs (k + 1) = cmpL p s xs k ++ [(x, sk)] by
            rw [cmpL_succ HXK.out, List.eq_nil_of_length_eq_zero HN.out.symm, cmpTo_nil, HSK.out]; rfl)
          go_wp2
          refine wp_region_ext_lit (by kernel_rfl) (by kernel_rfl) ?_
          repeat (go_big_quiet_step (fail))
          refine wpQuiet_nil ?_
          rintro _ ⟨W, rfl⟩
          clear e0 e1 e2 e3 e4
          have HR10 := Lib.hid W.ok
          obtain ⟨W10, hW10⟩ : ∃ W10, W10 = W.W := ⟨_, rfl⟩
          rw [← hW10] at HR10 ⊢
          clear hW10
          have HX10 := Lib.hid (box_at HX2.out HR10.out)
          have HQ10 := Lib.hid (box_at HQ2.out HR10.out)
          have HO10 := Lib.hid (HO2.out.ext HR10.out)
          have HV10 := Lib.hid (HV2.out.ext HR10.out)
          have HU10 := Lib.hid (HU2.out.ext HR10.out)
          have HB10 := Lib.hid (below_ext HB2.out HR10.out)
          have HZ10 := Lib.hid (Nat.le_trans HZ2.out HR10.out.size)
          go_wp2
          refine wp_region_held_drew (S := fun W => W.cell? ⟨wr.heap.size, 0, none⟩ = some (.int .i64 x.k) ∧ W.cell? ⟨wr.heap.size, 1, none⟩ = some (.int .i64 x.a) ∧ W.cell? ⟨wr.heap.size, 2, none⟩ = some (.int .i64 x.b) ∧ W.cell? ⟨wr.heap.size, 3, none⟩ = some (.int .i64 x.c) ∧ W.cell? ⟨wr.heap.size, 4, none⟩ = some (.slice A' x.row.length cap') ∧ W.cell? ⟨b12, 0, none⟩ = some (.int .i64 sk.v) ∧ W.cell? ⟨b12, 1, none⟩ = some (.int .i64 sk.h) ∧ W.cell? ⟨b12, 2, none⟩ = some (.slice A1 sk.rows.length c1)) (by kernel_rfl) (HS.out _ (box_at HX10.out (Below.refl _ _).drew) (box_at HQ10.out (Below.refl _ _).drew)) (fun hHeld => ?_)
          obtain ⟨W11, hW0⟩ : ∃ W, W = W10.drew := ⟨_, rfl⟩
          rw [← hW0] at hHeld ⊢
          have hb : Below W10.heap.size W10 W11 := by rw [hW0]; exact (Below.refl _ _).drew
          have HX11 := Lib.hid (box_at HX10.out hb)
          have HQ11 := Lib.hid (box_at HQ10.out hb)
          have HO11 := Lib.hid (HO10.out.ext hb)
          have HV11 := Lib.hid (HV10.out.ext hb)
          have HU11 := Lib.hid (HU10.out.ext hb)
          have HB11 := Lib.hid (below_ext HB10.out hb)
          have HZ11 := Lib.hid (Nat.le_trans HZ10.out (Below.size hb))
          clear hb hW0
          refine takeH (i := 0) (v := ?_) rfl (by kernel_rfl) (by kernel_rfl) (by kernel_rfl) (Or.inl ⟨by rfl, ?_⟩) (by assumption) ?_
          rotate_left
          · intro w hSw; (try dsimp only at hSw); go_simp; (try with_reducible rfl)
          simp only [Act.put, List.setIfInBounds_toArray, List.set_cons_zero, List.set_cons_succ]
          refine takeH (i := 1) (v := ?_) rfl (by kernel_rfl) (by kernel_rfl) (by kernel_rfl) (Or.inl ⟨by rfl, ?_⟩) (by assumption) ?_
          rotate_left
          · intro w hSw; (try dsimp only at hSw); go_simp; (try with_reducible rfl)
          simp only [Act.put, List.setIfInBounds_toArray, List.set_cons_zero, List.set_cons_succ]
          refine takeH (i := 2) (v := ?_) rfl (by kernel_rfl) (by kernel_rfl) (by kernel_rfl) (Or.inl ⟨by rfl, ?_⟩) (by assumption) ?_
          rotate_left
          · intro w hSw; (try dsimp only at hSw); go_simp; (try with_reducible rfl)
          simp only [Act.put, List.setIfInBounds_toArray, List.set_cons_zero, List.set_cons_succ]
          refine takeH (i := 3) (v := ?_) rfl (by kernel_rfl) (by kernel_rfl) (by kernel_rfl) (Or.inl ⟨by rfl, ?_⟩) (by assumption) ?_
          rotate_left
          · intro w hSw; (try dsimp only at hSw); go_simp; (try with_reducible rfl)
          simp only [Act.put, List.setIfInBounds_toArray, List.set_cons_zero, List.set_cons_succ]
          refine takeH (i := 4) (v := ?_) rfl (by kernel_rfl) (by kernel_rfl) (by kernel_rfl) (Or.inl ⟨by rfl, ?_⟩) (by assumption) ?_
          rotate_left
          · intro w hSw; (try dsimp only at hSw); go_simp; (try with_reducible rfl)
          simp only [Act.put, List.setIfInBounds_toArray, List.set_cons_zero, List.set_cons_succ]
          refine takeH (i := 5) (v := ?_) rfl (by kernel_rfl) (by kernel_rfl) (by kernel_rfl) (Or.inl ⟨by rfl, ?_⟩) (by assumption) ?_
          rotate_left
          · intro w hSw; (try dsimp only at hSw); go_simp; (try with_reducible rfl)
          simp only [Act.put, List.setIfInBounds_toArray, List.set_cons_zero, List.set_cons_succ]
          refine takeH (i := 6) (v := ?_) rfl (by kernel_rfl) (by kernel_rfl) (by kernel_rfl) (Or.inl ⟨by rfl, ?_⟩) (by assumption) ?_
          rotate_left
          · intro w hSw; (try dsimp only at hSw); go_simp; (try with_reducible rfl)
          simp only [Act.put, List.setIfInBounds_toArray, List.set_cons_zero, List.set_cons_succ]
          refine takeH (i := 7) (v := ?_) rfl (by kernel_rfl) (by kernel_rfl) (by kernel_rfl) (Or.inl ⟨by rfl, ?_⟩) (by assumption) ?_
          rotate_left
          · intro w hSw; (try dsimp only at hSw); go_simp; (try with_reducible rfl)
          simp only [Act.put, List.setIfInBounds_toArray, List.set_cons_zero, List.set_cons_succ]
          refine takeH (i := 8) (v := ?_) rfl (by kernel_rfl) (by kernel_rfl) (by kernel_rfl) (Or.inl ⟨by rfl, ?_⟩) (by assumption) ?_
          rotate_left
          · intro w hSw; (try dsimp only at hSw); go_simp; (try with_reducible rfl)
          simp only [Act.put, List.setIfInBounds_toArray, List.set_cons_zero, List.set_cons_succ]
          refine takeH (i := 9) (v := ?_) rfl (by kernel_rfl) (by kernel_rfl) (by kernel_rfl) (Or.inl ⟨by rfl, ?_⟩) (by assumption) ?_
          rotate_left
          · intro w hSw; (try dsimp only at hSw); go_simp; (try with_reducible rfl)
          simp only [Act.put, List.setIfInBounds_toArray, List.set_cons_zero, List.set_cons_succ]
          refine takeH (i := 10) (v := ?_) rfl (by kernel_rfl) (by kernel_rfl) (by kernel_rfl) (Or.inl ⟨by rfl, ?_⟩) (by assumption) ?_
          rotate_left
          · intro w hSw; (try dsimp only at hSw); go_simp; (try with_reducible rfl)
          simp only [Act.put, List.setIfInBounds_toArray, List.set_cons_zero, List.set_cons_succ]
          refine wpAnyH_ready (rs := [11]) (by kernel_rfl) (by simp) ?_
          refine consH rfl (fun K hK => ?_) AllReadyH.nil
          go_simp
          refine (l1Own_any A' cap' x.row _ (HIN.out.ext HB11.out) (by have := HRW.out; omega)).mono ?_
          rintro e W12 ⟨uc, rfl, hu, hb⟩
          obtain ⟨Ac, cc, rfl, _⟩ := hu.view
          have HX12 := Lib.hid (box_at HX11.out hb)
          have HQ12 := Lib.hid (box_at HQ11.out hb)
          have HO12 := Lib.hid (HO11.out.ext hb)
          have HV12 := Lib.hid (HV11.out.ext hb)
          have HU12 := Lib.hid (HU11.out.ext hb)
          have HB12 := Lib.hid (below_ext HB11.out hb)
          have HZ12 := Lib.hid (Nat.le_trans HZ11.out (Below.size hb))
          have HC12 := Lib.hid (hu.mono (B' := b12 + 1) (by have := HZ11.out; omega))
          have HFR := Lib.hid (HO11.out.fresh hu)
          clear hu hb
          go_simp
          refine hK.out _ _ (HS.out _ HX12.out HQ12.out) (fun hHeld => ?_)
          clear hK K
          try simp only [Act.put, List.setIfInBounds_toArray, List.set_cons_zero, List.set_cons_succ]
          refine takeH (i := 12) (v := ?_) rfl (by kernel_rfl) (by kernel_rfl) (by kernel_rfl) (Or.inl ⟨by rfl, ?_⟩) (by assumption) ?_
          rotate_left
          · intro w hSw; (try dsimp only at hSw); go_simp; (try with_reducible rfl)
          simp only [Act.put, List.setIfInBounds_toArray, List.set_cons_zero, List.set_cons_succ]
          refine wpAnyH_ready (rs := [13]) (by kernel_rfl) (by simp) ?_
          refine consH rfl (fun K hK => ?_) AllReadyH.nil
          go_simp
          obtain ⟨W13, hW13⟩ : ∃ W, W = W12.alloc (.cells #[.int .i64 x.k, .int .i64 x.a, .int .i64 x.b, .int .i64 x.c, .slice Ac x.row.length cc] 34) := ⟨_, rfl⟩
          rw [← hW13]
          have hb : Below W12.heap.size W12 W13 := by rw [hW13]; exact (Below.refl _ _).alloc (Nat.le_refl _) _
          have HX13 := Lib.hid (box_at HX12.out hb)
          have HQ13 := Lib.hid (box_at HQ12.out hb)
          have HO13 := Lib.hid (HO12.out.ext hb)
          have HV13 := Lib.hid (HV12.out.ext hb)
          have HU13 := Lib.hid (HU12.out.ext hb)
          have HB13 := Lib.hid (below_ext HB12.out hb)
          have HZ13 := Lib.hid (Nat.le_trans HZ12.out (Below.size hb))
          have HC13 := Lib.hid (HC12.out.ext hb)
          have HP13 := Lib.hid (show W13.heap[W12.heap.size]? = some (.cells #[.int .i64 x.k, .int .i64 x.a, .int .i64 x.b, .int .i64 x.c, .slice Ac x.row.length cc] 34 (0, 0)) by rw [hW13]; exact heap_at _ _ rfl)
          clear hb hW13
          refine hK.out _ _ (HS.out _ HX13.out HQ13.out) (fun hHeld => ?_)
          clear hK K
          try simp only [Act.put, List.setIfInBounds_toArray, List.set_cons_zero, List.set_cons_succ]
          refine wpAnyH_ready (rs := [14]) (by kernel_rfl) (by simp) ?_
          refine consH rfl (fun K hK => ?_) AllReadyH.nil
          refine step_appendStpH rfl (.tmp 52) (.tmp 65) rfl (b12 + 1) W13 (.slice A8 0 c8) (.slice Ac x.row.length cc) lf us x W12.heap.size HO13.out HC13.out HFR.out (by rw [HLF.out]; omega) (by have := HZ13.out; omega) rfl rfl HP13.out ?_
          intro g4 cap4 W14 hown hg hb hgg
          rw [HLF.out] at hown ⊢
          have HX14 := Lib.hid (far_block hg HLT8.out HX13.out (Nat.le_refl _))
          have HQ14 := Lib.hid (far_below hb HQ13.out (Nat.lt_succ_self _))
          have HV14 := Lib.hid (HV13.out.keptA HO13.out.outer (flipNe HNE.out HLT9.out) hg)
          have HU14 := Lib.hid (HU13.out.keptT (by decide) (by decide) HO13.out.outer hg)
          have HB14 := Lib.hid (HB13.out.trans (hb.mono (by have := HBW.out; omega)))
          have HZ14 := Lib.hid (Nat.le_trans HZ13.out hb.size)
          have HO14 := Lib.hid hown
          have HG4 := Lib.hid (show (Value.slice A9 0 c9).ownBlock = none ∨ (Value.slice A9 0 c9).ownBlock ≠ some g4 from newNe HNE.out HLT9.out hgg HZ13.out)
          have HG4L := Lib.hid (show g4 < W14.heap.size from ((World.ownsRow.lt hown.outer) g4 rfl).2)
          clear hown hg hb hgg
          refine hK.out _ _ (HS.out _ HX14.out HQ14.out) (fun hHeld => ?_)
          clear hK K
          try simp only [Act.put, List.setIfInBounds_toArray, List.set_cons_zero, List.set_cons_succ]
          refine wpAnyH_ready (rs := [15]) (by kernel_rfl) (by simp) ?_
          refine consH rfl (fun K hK => ?_) AllReadyH.nil
          go_simp
          refine hK.out _ _ (HS.out _ HX14.out HQ14.out) (fun hHeld => ?_)
          clear hK K
          try simp only [Act.put, List.setIfInBounds_toArray, List.set_cons_zero, List.set_cons_succ]
          refine wpAnyH_done (by kernel_rfl) ?_ _
          clear hHeld
          obtain ⟨f0, f1, f2, f3, f4⟩ := cells_5 HX14.out
          obtain ⟨d0, d1, d2⟩ := cells_3 HQ14.out
          go_upto_region 15 with (first | (go_at_call 63; refine (UN.out _ _ _ _ _ (rows_at HU14.out)).mono ?_; rintro e W16 ⟨Ad, cd, rfl, hu, hb⟩; clear f0 f1 f2 f3 f4 d0 d1 d2; have HX16 := Lib.hid (box_at HX14.out hb); have HQ16 := Lib.hid (box_at HQ14.out hb); have HO16 := Lib.hid (HO14.out.ext hb); have HV16 := Lib.hid (HV14.out.ext hb); have HU16 := Lib.hid (HU14.out.ext hb); have HB16 := Lib.hid (below_ext HB14.out hb); have HZ16 := Lib.hid (Nat.le_trans HZ14.out (Below.size hb)); have HC16 := Lib.hid (hu.mono (B' := b12 + 1) (by have := HZ14.out; omega)); have HFR2 := Lib.hid (HV14.out.fresh hu); have HG4M := Lib.hid (Nat.lt_succ_of_lt (Nat.lt_of_lt_of_le HG4L.out hb.size)); clear hu hb) | (at_builtin; refine wp_appendStpH rfl (.tmp 67) (.tmp 72) rfl (b12 + 1) W16 (.slice A9 0 c9) (.slice Ad yn.row.length cd) ls vs yn HV16.out HC16.out HFR2.out (by rw [HLS.out]; omega) (by have := HZ16.out; omega) rfl rfl ?_; intro g5 cap5 W18 hown hg hb hgg; rw [HLS.out] at hown ⊢; have HX18 := Lib.hid (far_block hg HLT9.out HX16.out (Nat.le_refl _)); have HQ18 := Lib.hid (far_below hb HQ16.out (Nat.lt_succ_self _)); have HO18 := Lib.hid (HO16.out.keptA HV16.out.outer (flip2 HG4.out) hg); have HU18 := Lib.hid (HU16.out.keptT (by decide) (by decide) HV16.out.outer hg); have HB18 := Lib.hid (HB16.out.trans (hb.mono (by have := HBW.out; omega))); have HV18 := Lib.hid hown; have HZ18 := Lib.hid (Nat.le_trans HZ16.out hb.size); have HG5 := Lib.hid (show g4 ≠ g5 from last2 HG4.out HG4M.out hgg); clear hown hg hb hgg))
          obtain ⟨f0, f1, f2, f3, f4⟩ := cells_5 HX18.out
          obtain ⟨d0, d1, d2, e0, e1, e2⟩ := cells3 HQ18.out
          go_wp2_with (go_at_call 49; refine (MK.out _ _ _ _ _ (rows_at HU18.out) (HIN.out.ext HB18.out)).mono ?_; rintro e W19 ⟨A6, c6, rfl, hu, hb⟩; clear d0 d1 d2 e0 e1 e2 f0 f1 f2 f3 f4; have HB19 := Lib.hid (below_ext HB18.out hb); have HQ19 := Lib.hid (box_at HQ18.out hb); have HO19 := Lib.hid (HO18.out.ext hb); have HV19 := Lib.hid (HV18.out.ext hb); have HU19 := Lib.hid hu; obtain ⟨d0, d1, d2, e0, e1, e2⟩ := cells3 HQ19.out; clear hu hb)
          have hfin : DRel p s xs w b12 (k + 1) (0 + 1) (.slice (some ⟨g4, 0, none⟩) (0 + 1) cap4) (.slice (some ⟨g5, 0, none⟩) (0 + 1) cap5) (((W19.setCell ⟨b12, 0, none⟩ (.int .i64 sn.v)).setCell ⟨b12, 1, none⟩ (.int .i64 sn.h)).setCell ⟨b12, 2, none⟩ (.slice A6 sn.rows.length c6)) := by
            have hsame : ∀ j, b12 + 1 ≤ j → (((W19.setCell ⟨b12, 0, none⟩ (.int .i64 sn.v)).setCell ⟨b12, 1, none⟩ (.int .i64 sn.h)).setCell ⟨b12, 2, none⟩ (.slice A6 sn.rows.length c6)).heap[j]? = W19.heap[j]? := fun j hj => by
              rw [heap_setCell_other _ _ _ _ (by simp <;> omega), heap_setCell_other _ _ _ _ (by simp <;> omega), heap_setCell_other _ _ _ _ (by simp <;> omega)]
            refine ⟨by rw [HNEW.out, List.length_append, ← HN.out]; rfl, ⟨_, cap4, us ++ [.slice Ac x.row.length cc], rfl, ?_⟩, ⟨_, cap5, vs ++ [.slice Ad yn.row.length cd], rfl, ?_⟩, Or.inr (fun e => HG5.out (by simpa [Value.ownBlock] using e)), ⟨A6, c6, ?_, ?_⟩, below_set3' HB19.out (Nat.le_of_succ_le HBW.out) _ _ _⟩
            · rw [HNEW.out, List.map_append, ← HLFD.out]; exact HO19.out.same hsame
            · rw [HNEW.out, List.map_append, ← HLSD.out, ← show ls ++ [yn] = ls ++ List.map (bk p) [(x, sk)] by rw [HYN.out]; rfl]; exact HV19.out.same hsame
            · rw [sysAt_succ HXK.out, ← HSK.out, ← HSN.out]; exact set3_block HQ19.out
            · rw [sysAt_succ HXK.out, ← HSK.out, ← HSN.out]; exact ((HU19.out.mono (B' := b12 + 1) (by have := HZ18.out; omega)).same hsame).mono (by have := HBW.out; omega)
          have HFIN := Lib.hid hfin
          clear hfin
          go_roundw
          case rel => exact ⟨k + 1, 0 + 1, by omega, by go_num, HFIN.out⟩
          case measure => simp [intOf]; omega
        · obtain ⟨l, hl⟩ : ∃ l, n = l + 1 := ⟨n - 1, by omega⟩
          have hln : l < n := by omega
          have hnn : n ≤ 3000 := by omega
          have hn1 : (n : Int) - 1 = (l : Int) := by omega
          have hl0 : (0 : Int) ≤ (l : Int) := by omega
          obtain ⟨q, hq⟩ := get_of_lt (show l < (cmpL p s xs k).length by have := HN.out; omega)
          obtain ⟨y, t⟩ := q
          obtain ⟨hy1, hy2, hy3⟩ := cmpL_mem HOK.out k hk1 _ (List.mem_of_getElem? hq)
          dsimp only at hy1 hy2 hy3
          obtain ⟨z, hz⟩ : ∃ z, z = undoTo p t y := ⟨_, rfl⟩
          have htl : ls[l]? = some z := by rw [HLSD.out, List.getElem?_map, hq, hz]; rfl
          have HLAST := Lib.hid (show cmpL p s xs (k + 1) = if stpSame x z = true then (cmpL p s xs k).take l else cmpL p s xs k ++ [(x, sk)] by
            rw [cmpL_succ HXK.out, cmpTo_last (by rw [← HN.out, hl]) hq, HSK.out, hz, stpSame_comm])
          obtain ⟨g8, rfl, hc8, hm8, -⟩ := HO2.out.form (by rw [HLF.out]; exact hnp)
          obtain ⟨g9, rfl, hc9, hm9, -⟩ := HV2.out.form (by rw [HLS.out]; exact hnp)
          obtain ⟨Az, cz, ⟨t0, t1, t2, t3, t4⟩, hzr⟩ := HV2.out.at5 HLS.out.symm htl
          have HZR := Lib.hid hzr
          have HZNL := Lib.hid (show z.row.length ≤ maxLen by rw [hz]; have := uR_len (p := p) (x := y) hy2.small; unfold maxLen; omega)
          have q0 : ∀ W : Ext W2, W.W.cell? ⟨g9, l * 5, none⟩ = some (.int .i64 z.k) := fun W => W.cell t0
          have q1 : ∀ W : Ext W2, W.W.cell? ⟨g9, l * 5 + 1, none⟩ = some (.int .i64 z.a) := fun W => W.cell t1
          have q2 : ∀ W : Ext W2, W.W.cell? ⟨g9, l * 5 + 2, none⟩ = some (.int .i64 z.b) := fun W => W.cell t2
          have q3 : ∀ W : Ext W2, W.W.cell? ⟨g9, l * 5 + 3, none⟩ = some (.int .i64 z.c) := fun W => W.cell t3
          have q4 : ∀ W : Ext W2, W.W.cell? ⟨g9, l * 5 + 4, none⟩ = some (.slice Az z.row.length cz) := fun W => W.cell t4
          have HXA := Lib.hid (fun W : Ext W2 => HIN.out.ext (below_ext HB2.out W.ok)); have HZA := Lib.hid (fun W : Ext W2 => HZR.out.ext W.ok)
          have HRM := Lib.hid (len_max HRW.out)
          have HLN := Lib.hid hl
          clear hzr htl hy1 hy2 hy3 hq hz t0 t1 t2 t3 t4 hl
          cases hs : stpSame x z with
          | true =>
            have HSM := Lib.hid hs
            rw [hs] at HLAST
            clear hs
            have HNEW := Lib.hid (show cmpL p s xs (k + 1) = (cmpL p s xs k).take l by rw [HLAST.out]; first | exact if_pos rfl | exact if_pos trivial)
            go_wp2
            refine wp_region_ext_lit (by kernel_rfl) (by kernel_rfl) ?_
            repeat (go_big_quiet_step ((go_at_call 73; exact Calls.ext_of (Calls.bool_eq' (stEqual_any x z _ _ _ _ _ (HXA.out _) (HZA.out _) HRM.out HZNL.out) HSM.out))))
            refine wpQuiet_nil ?_
            rintro _ ⟨W, rfl⟩
            clear e0 e1 e2 e3 e4 q0 q1 q2 q3 q4
            have HR10 := Lib.hid W.ok
            obtain ⟨W10, hW10⟩ : ∃ W10, W10 = W.W := ⟨_, rfl⟩
            rw [← hW10] at HR10 ⊢
            clear hW10
            have HX10 := Lib.hid (box_at HX2.out HR10.out)
            have HQ10 := Lib.hid (box_at HQ2.out HR10.out)
            have HO10 := Lib.hid (HO2.out.ext HR10.out)
            have HV10 := Lib.hid (HV2.out.ext HR10.out)
            have HU10 := Lib.hid (HU2.out.ext HR10.out)
            have HB10 := Lib.hid (below_ext HB2.out HR10.out)
            have HZ10 := Lib.hid (Nat.le_trans HZ2.out HR10.out.size)
            obtain ⟨f0, f1, f2, f3, f4⟩ := cells_5 HX10.out
            obtain ⟨d0, d1, d2, e0, e1, e2⟩ := cells3 HQ10.out
            go_wp2_with (go_at_call 49; refine (MK.out _ _ _ _ _ (rows_at HU10.out) (HIN.out.ext HB10.out)).mono ?_; rintro e W11 ⟨A6, c6, rfl, hu, hb⟩; clear d0 d1 d2 e0 e1 e2 f0 f1 f2 f3 f4; have HB11 := Lib.hid (below_ext HB10.out hb); have HQ11 := Lib.hid (box_at HQ10.out hb); have HO11 := Lib.hid (HO10.out.ext hb); have HV11 := Lib.hid (HV10.out.ext hb); have HU11 := Lib.hid hu; obtain ⟨d0, d1, d2, e0, e1, e2⟩ := cells3 HQ11.out; clear hu hb)
            have ho := HO11.out.pop (n := l) HLF.out.symm (by omega)
            have hv := HV11.out.pop (n := l) HLS.out.symm (by omega)
            rw [HLFD.out] at ho
            rw [HLSD.out] at hv
            have HO12 := Lib.hid ho; have HV12 := Lib.hid hv
            clear ho hv
            have hfin : DRel p s xs w b12 (k + 1) (l) (.slice (some ⟨g8, 0, none⟩) (l) c8) (.slice (some ⟨g9, 0, none⟩) (l) c9) (((W11.setCell ⟨b12, 0, none⟩ (.int .i64 sn.v)).setCell ⟨b12, 1, none⟩ (.int .i64 sn.h)).setCell ⟨b12, 2, none⟩ (.slice A6 sn.rows.length c6)) := by
              have hsame : ∀ j, b12 + 1 ≤ j → (((W11.setCell ⟨b12, 0, none⟩ (.int .i64 sn.v)).setCell ⟨b12, 1, none⟩ (.int .i64 sn.h)).setCell ⟨b12, 2, none⟩ (.slice A6 sn.rows.length c6)).heap[j]? = W11.heap[j]? := fun j hj => by
                rw [heap_setCell_other _ _ _ _ (by simp <;> omega), heap_setCell_other _ _ _ _ (by simp <;> omega), heap_setCell_other _ _ _ _ (by simp <;> omega)]
              refine ⟨by rw [HNEW.out, List.length_take]; have := HN.out; omega, ⟨_, c8, us.take l, rfl, ?_⟩, ⟨_, c9, vs.take l, rfl, ?_⟩, (show (Value.slice (some ⟨g8, 0, none⟩) n c8).ownBlock = none ∨ (Value.slice (some ⟨g8, 0, none⟩) n c8).ownBlock ≠ (Value.slice (some ⟨g9, 0, none⟩) n c9).ownBlock from HNE.out), ⟨A6, c6, ?_, ?_⟩, below_set3' HB11.out (Nat.le_of_succ_le HBW.out) _ _ _⟩
              · rw [HNEW.out, List.map_take]; exact HO12.out.same hsame
              · rw [HNEW.out, List.map_take]; exact HV12.out.same hsame
              · rw [sysAt_succ HXK.out, ← HSK.out, ← HSN.out]; exact set3_block HQ11.out
              · rw [sysAt_succ HXK.out, ← HSK.out, ← HSN.out]; exact ((HU11.out.mono (B' := b12 + 1) (by have := HZ10.out; omega)).same hsame).mono (by have := HBW.out; omega)
            have HFIN := Lib.hid hfin
            clear hfin
            go_roundw
            case rel => exact ⟨k + 1, l, by omega, by go_num, HFIN.out⟩
            case measure => simp [intOf]; omega
          | false =>
            have HSM := Lib.hid hs
            rw [hs] at HLAST
            clear hs
            have HNEW := Lib.hid (show cmpL p s xs (k + 1) = cmpL p s xs k ++ [(x, sk)] by rw [HLAST.out]; first | exact if_neg (by decide) | exact if_neg not_false)
            go_wp2
            refine wp_region_ext_lit (by kernel_rfl) (by kernel_rfl) ?_
            repeat (go_big_quiet_step ((go_at_call 73; exact Calls.ext_of (Calls.bool_eq' (stEqual_any x z _ _ _ _ _ (HXA.out _) (HZA.out _) HRM.out HZNL.out) HSM.out))))
            refine wpQuiet_nil ?_
            rintro _ ⟨W, rfl⟩
            clear e0 e1 e2 e3 e4 q0 q1 q2 q3 q4
            have HR10 := Lib.hid W.ok
            obtain ⟨W10, hW10⟩ : ∃ W10, W10 = W.W := ⟨_, rfl⟩
            rw [← hW10] at HR10 ⊢
            clear hW10
            have HX10 := Lib.hid (box_at HX2.out HR10.out)
            have HQ10 := Lib.hid (box_at HQ2.out HR10.out)
            have HO10 := Lib.hid (HO2.out.ext HR10.out)
            have HV10 := Lib.hid (HV2.out.ext HR10.out)
            have HU10 := Lib.hid (HU2.out.ext HR10.out)
            have HB10 := Lib.hid (below_ext HB2.out HR10.out)
            have HZ10 := Lib.hid (Nat.le_trans HZ2.out HR10.out.size)
            go_wp2
            refine wp_region_held_drew (S := fun W => W.cell? ⟨wr.heap.size, 0, none⟩ = some (.int .i64 x.k) ∧ W.cell? ⟨wr.heap.size, 1, none⟩ = some (.int .i64 x.a) ∧ W.cell? ⟨wr.heap.size, 2, none⟩ = some (.int .i64 x.b) ∧ W.cell? ⟨wr.heap.size, 3, none⟩ = some (.int .i64 x.c) ∧ W.cell? ⟨wr.heap.size, 4, none⟩ = some (.slice A' x.row.length cap') ∧ W.cell? ⟨b12, 0, none⟩ = some (.int .i64 sk.v) ∧ W.cell? ⟨b12, 1, none⟩ = some (.int .i64 sk.h) ∧ W.cell? ⟨b12, 2, none⟩ = some (.slice A1 sk.rows.length c1)) (by kernel_rfl) (HS.out _ (box_at HX10.out (Below.refl _ _).drew) (box_at HQ10.out (Below.refl _ _).drew)) (fun hHeld => ?_)
            obtain ⟨W11, hW0⟩ : ∃ W, W = W10.drew := ⟨_, rfl⟩
            rw [← hW0] at hHeld ⊢
            have hb : Below W10.heap.size W10 W11 := by rw [hW0]; exact (Below.refl _ _).drew
            have HX11 := Lib.hid (box_at HX10.out hb)
            have HQ11 := Lib.hid (box_at HQ10.out hb)
            have HO11 := Lib.hid (HO10.out.ext hb)
            have HV11 := Lib.hid (HV10.out.ext hb)
            have HU11 := Lib.hid (HU10.out.ext hb)
            have HB11 := Lib.hid (below_ext HB10.out hb)
            have HZ11 := Lib.hid (Nat.le_trans HZ10.out (Below.size hb))
            clear hb hW0
            refine takeH (i := 0) (v := ?_) rfl (by kernel_rfl) (by kernel_rfl) (by kernel_rfl) (Or.inl ⟨by rfl, ?_⟩) (by assumption) ?_
            rotate_left
            · intro w hSw; (try dsimp only at hSw); go_simp; (try with_reducible rfl)
            simp only [Act.put, List.setIfInBounds_toArray, List.set_cons_zero, List.set_cons_succ]
            refine takeH (i := 1) (v := ?_) rfl (by kernel_rfl) (by kernel_rfl) (by kernel_rfl) (Or.inl ⟨by rfl, ?_⟩) (by assumption) ?_
            rotate_left
            · intro w hSw; (try dsimp only at hSw); go_simp; (try with_reducible rfl)
            simp only [Act.put, List.setIfInBounds_toArray, List.set_cons_zero, List.set_cons_succ]
            refine takeH (i := 2) (v := ?_) rfl (by kernel_rfl) (by kernel_rfl) (by kernel_rfl) (Or.inl ⟨by rfl, ?_⟩) (by assumption) ?_
            rotate_left
            · intro w hSw; (try dsimp only at hSw); go_simp; (try with_reducible rfl)
            simp only [Act.put, List.setIfInBounds_toArray, List.set_cons_zero, List.set_cons_succ]
            refine takeH (i := 3) (v := ?_) rfl (by kernel_rfl) (by kernel_rfl) (by kernel_rfl) (Or.inl ⟨by rfl, ?_⟩) (by assumption) ?_
            rotate_left
            · intro w hSw; (try dsimp only at hSw); go_simp; (try with_reducible rfl)
            simp only [Act.put, List.setIfInBounds_toArray, List.set_cons_zero, List.set_cons_succ]
            refine takeH (i := 4) (v := ?_) rfl (by kernel_rfl) (by kernel_rfl) (by kernel_rfl) (Or.inl ⟨by rfl, ?_⟩) (by assumption) ?_
            rotate_left
            · intro w hSw; (try dsimp only at hSw); go_simp; (try with_reducible rfl)
            simp only [Act.put, List.setIfInBounds_toArray, List.set_cons_zero, List.set_cons_succ]
            refine takeH (i := 5) (v := ?_) rfl (by kernel_rfl) (by kernel_rfl) (by kernel_rfl) (Or.inl ⟨by rfl, ?_⟩) (by assumption) ?_
            rotate_left
            · intro w hSw; (try dsimp only at hSw); go_simp; (try with_reducible rfl)
            simp only [Act.put, List.setIfInBounds_toArray, List.set_cons_zero, List.set_cons_succ]
            refine takeH (i := 6) (v := ?_) rfl (by kernel_rfl) (by kernel_rfl) (by kernel_rfl) (Or.inl ⟨by rfl, ?_⟩) (by assumption) ?_
            rotate_left
            · intro w hSw; (try dsimp only at hSw); go_simp; (try with_reducible rfl)
            simp only [Act.put, List.setIfInBounds_toArray, List.set_cons_zero, List.set_cons_succ]
            refine takeH (i := 7) (v := ?_) rfl (by kernel_rfl) (by kernel_rfl) (by kernel_rfl) (Or.inl ⟨by rfl, ?_⟩) (by assumption) ?_
            rotate_left
            · intro w hSw; (try dsimp only at hSw); go_simp; (try with_reducible rfl)
            simp only [Act.put, List.setIfInBounds_toArray, List.set_cons_zero, List.set_cons_succ]
            refine takeH (i := 8) (v := ?_) rfl (by kernel_rfl) (by kernel_rfl) (by kernel_rfl) (Or.inl ⟨by rfl, ?_⟩) (by assumption) ?_
            rotate_left
            · intro w hSw; (try dsimp only at hSw); go_simp; (try with_reducible rfl)
            simp only [Act.put, List.setIfInBounds_toArray, List.set_cons_zero, List.set_cons_succ]
            refine takeH (i := 9) (v := ?_) rfl (by kernel_rfl) (by kernel_rfl) (by kernel_rfl) (Or.inl ⟨by rfl, ?_⟩) (by assumption) ?_
            rotate_left
            · intro w hSw; (try dsimp only at hSw); go_simp; (try with_reducible rfl)
            simp only [Act.put, List.setIfInBounds_toArray, List.set_cons_zero, List.set_cons_succ]
            refine takeH (i := 10) (v := ?_) rfl (by kernel_rfl) (by kernel_rfl) (by kernel_rfl) (Or.inl ⟨by rfl, ?_⟩) (by assumption) ?_
            rotate_left
            · intro w hSw; (try dsimp only at hSw); go_simp; (try with_reducible rfl)
            simp only [Act.put, List.setIfInBounds_toArray, List.set_cons_zero, List.set_cons_succ]
            refine wpAnyH_ready (rs := [11]) (by kernel_rfl) (by simp) ?_
            refine consH rfl (fun K hK => ?_) AllReadyH.nil
            go_simp
            refine (l1Own_any A' cap' x.row _ (HIN.out.ext HB11.out) (by have := HRW.out; omega)).mono ?_
            rintro e W12 ⟨uc, rfl, hu, hb⟩
            obtain ⟨Ac, cc, rfl, _⟩ := hu.view
            have HX12 := Lib.hid (box_at HX11.out hb)
            have HQ12 := Lib.hid (box_at HQ11.out hb)
            have HO12 := Lib.hid (HO11.out.ext hb)
            have HV12 := Lib.hid (HV11.out.ext hb)
            have HU12 := Lib.hid (HU11.out.ext hb)
            have HB12 := Lib.hid (below_ext HB11.out hb)
            have HZ12 := Lib.hid (Nat.le_trans HZ11.out (Below.size hb))
            have HC12 := Lib.hid (hu.mono (B' := b12 + 1) (by have := HZ11.out; omega))
            have HFR := Lib.hid (HO11.out.fresh hu)
            clear hu hb
            go_simp
            refine hK.out _ _ (HS.out _ HX12.out HQ12.out) (fun hHeld => ?_)
            clear hK K
            try simp only [Act.put, List.setIfInBounds_toArray, List.set_cons_zero, List.set_cons_succ]
            refine takeH (i := 12) (v := ?_) rfl (by kernel_rfl) (by kernel_rfl) (by kernel_rfl) (Or.inl ⟨by rfl, ?_⟩) (by assumption) ?_
            rotate_left
            · intro w hSw; (try dsimp only at hSw); go_simp; (try with_reducible rfl)
            simp only [Act.put, List.setIfInBounds_toArray, List.set_cons_zero, List.set_cons_succ]
            refine wpAnyH_ready (rs := [13]) (by kernel_rfl) (by simp) ?_
            refine consH rfl (fun K hK => ?_) AllReadyH.nil
            go_simp
            obtain ⟨W13, hW13⟩ : ∃ W, W = W12.alloc (.cells #[.int .i64 x.k, .int .i64 x.a, .int .i64 x.b, .int .i64 x.c, .slice Ac x.row.length cc] 34) := ⟨_, rfl⟩
            rw [← hW13]
            have hb : Below W12.heap.size W12 W13 := by rw [hW13]; exact (Below.refl _ _).alloc (Nat.le_refl _) _
            have HX13 := Lib.hid (box_at HX12.out hb)
            have HQ13 := Lib.hid (box_at HQ12.out hb)
            have HO13 := Lib.hid (HO12.out.ext hb)
            have HV13 := Lib.hid (HV12.out.ext hb)
            have HU13 := Lib.hid (HU12.out.ext hb)
            have HB13 := Lib.hid (below_ext HB12.out hb)
            have HZ13 := Lib.hid (Nat.le_trans HZ12.out (Below.size hb))
            have HC13 := Lib.hid (HC12.out.ext hb)
            have HP13 := Lib.hid (show W13.heap[W12.heap.size]? = some (.cells #[.int .i64 x.k, .int .i64 x.a, .int .i64 x.b, .int .i64 x.c, .slice Ac x.row.length cc] 34 (0, 0)) by rw [hW13]; exact heap_at _ _ rfl)
            clear hb hW13
            refine hK.out _ _ (HS.out _ HX13.out HQ13.out) (fun hHeld => ?_)
            clear hK K
            try simp only [Act.put, List.setIfInBounds_toArray, List.set_cons_zero, List.set_cons_succ]
            refine wpAnyH_ready (rs := [14]) (by kernel_rfl) (by simp) ?_
            refine consH rfl (fun K hK => ?_) AllReadyH.nil
            refine step_appendStpH rfl (.tmp 52) (.tmp 65) rfl (b12 + 1) W13 (.slice (some ⟨g8, 0, none⟩) n c8) (.slice Ac x.row.length cc) lf us x W12.heap.size HO13.out HC13.out HFR.out (by rw [HLF.out]; omega) (by have := HZ13.out; omega) rfl rfl HP13.out ?_
            intro g4 cap4 W14 hown hg hb hgg
            rw [HLF.out] at hown ⊢
            have HX14 := Lib.hid (far_block hg HLT8.out HX13.out (Nat.le_refl _))
            have HQ14 := Lib.hid (far_below hb HQ13.out (Nat.lt_succ_self _))
            have HV14 := Lib.hid (HV13.out.keptA HO13.out.outer (flipNe HNE.out HLT9.out) hg)
            have HU14 := Lib.hid (HU13.out.keptT (by decide) (by decide) HO13.out.outer hg)
            have HB14 := Lib.hid (HB13.out.trans (hb.mono (by have := HBW.out; omega)))
            have HZ14 := Lib.hid (Nat.le_trans HZ13.out hb.size)
            have HO14 := Lib.hid hown
            have HG4 := Lib.hid (show (Value.slice (some ⟨g9, 0, none⟩) n c9).ownBlock = none ∨ (Value.slice (some ⟨g9, 0, none⟩) n c9).ownBlock ≠ some g4 from newNe HNE.out HLT9.out hgg HZ13.out)
            have HG4L := Lib.hid (show g4 < W14.heap.size from ((World.ownsRow.lt hown.outer) g4 rfl).2)
            clear hown hg hb hgg
            refine hK.out _ _ (HS.out _ HX14.out HQ14.out) (fun hHeld => ?_)
            clear hK K
            try simp only [Act.put, List.setIfInBounds_toArray, List.set_cons_zero, List.set_cons_succ]
            refine wpAnyH_ready (rs := [15]) (by kernel_rfl) (by simp) ?_
            refine consH rfl (fun K hK => ?_) AllReadyH.nil
            go_simp
            refine hK.out _ _ (HS.out _ HX14.out HQ14.out) (fun hHeld => ?_)
            clear hK K
            try simp only [Act.put, List.setIfInBounds_toArray, List.set_cons_zero, List.set_cons_succ]
            refine wpAnyH_done (by kernel_rfl) ?_ _
            clear hHeld
            obtain ⟨f0, f1, f2, f3, f4⟩ := cells_5 HX14.out
            obtain ⟨d0, d1, d2⟩ := cells_3 HQ14.out
            go_upto_region 15 with (first | (go_at_call 63; refine (UN.out _ _ _ _ _ (rows_at HU14.out)).mono ?_; rintro e W16 ⟨Ad, cd, rfl, hu, hb⟩; clear f0 f1 f2 f3 f4 d0 d1 d2; have HX16 := Lib.hid (box_at HX14.out hb); have HQ16 := Lib.hid (box_at HQ14.out hb); have HO16 := Lib.hid (HO14.out.ext hb); have HV16 := Lib.hid (HV14.out.ext hb); have HU16 := Lib.hid (HU14.out.ext hb); have HB16 := Lib.hid (below_ext HB14.out hb); have HZ16 := Lib.hid (Nat.le_trans HZ14.out (Below.size hb)); have HC16 := Lib.hid (hu.mono (B' := b12 + 1) (by have := HZ14.out; omega)); have HFR2 := Lib.hid (HV14.out.fresh hu); have HG4M := Lib.hid (Nat.lt_succ_of_lt (Nat.lt_of_lt_of_le HG4L.out hb.size)); clear hu hb) | (at_builtin; refine wp_appendStpH rfl (.tmp 67) (.tmp 72) rfl (b12 + 1) W16 (.slice (some ⟨g9, 0, none⟩) n c9) (.slice Ad yn.row.length cd) ls vs yn HV16.out HC16.out HFR2.out (by rw [HLS.out]; omega) (by have := HZ16.out; omega) rfl rfl ?_; intro g5 cap5 W18 hown hg hb hgg; rw [HLS.out] at hown ⊢; have HX18 := Lib.hid (far_block hg HLT9.out HX16.out (Nat.le_refl _)); have HQ18 := Lib.hid (far_below hb HQ16.out (Nat.lt_succ_self _)); have HO18 := Lib.hid (HO16.out.keptA HV16.out.outer (flip2 HG4.out) hg); have HU18 := Lib.hid (HU16.out.keptT (by decide) (by decide) HV16.out.outer hg); have HB18 := Lib.hid (HB16.out.trans (hb.mono (by have := HBW.out; omega))); have HV18 := Lib.hid hown; have HZ18 := Lib.hid (Nat.le_trans HZ16.out hb.size); have HG5 := Lib.hid (show g4 ≠ g5 from last2 HG4.out HG4M.out hgg); clear hown hg hb hgg))
            obtain ⟨f0, f1, f2, f3, f4⟩ := cells_5 HX18.out
            obtain ⟨d0, d1, d2, e0, e1, e2⟩ := cells3 HQ18.out
            go_wp2_with (go_at_call 49; refine (MK.out _ _ _ _ _ (rows_at HU18.out) (HIN.out.ext HB18.out)).mono ?_; rintro e W19 ⟨A6, c6, rfl, hu, hb⟩; clear d0 d1 d2 e0 e1 e2 f0 f1 f2 f3 f4; have HB19 := Lib.hid (below_ext HB18.out hb); have HQ19 := Lib.hid (box_at HQ18.out hb); have HO19 := Lib.hid (HO18.out.ext hb); have HV19 := Lib.hid (HV18.out.ext hb); have HU19 := Lib.hid hu; obtain ⟨d0, d1, d2, e0, e1, e2⟩ := cells3 HQ19.out; clear hu hb)
            have hfin : DRel p s xs w b12 (k + 1) (n + 1) (.slice (some ⟨g4, 0, none⟩) (n + 1) cap4) (.slice (some ⟨g5, 0, none⟩) (n + 1) cap5) (((W19.setCell ⟨b12, 0, none⟩ (.int .i64 sn.v)).setCell ⟨b12, 1, none⟩ (.int .i64 sn.h)).setCell ⟨b12, 2, none⟩ (.slice A6 sn.rows.length c6)) := by
              have hsame : ∀ j, b12 + 1 ≤ j → (((W19.setCell ⟨b12, 0, none⟩ (.int .i64 sn.v)).setCell ⟨b12, 1, none⟩ (.int .i64 sn.h)).setCell ⟨b12, 2, none⟩ (.slice A6 sn.rows.length c6)).heap[j]? = W19.heap[j]? := fun j hj => by
                rw [heap_setCell_other _ _ _ _ (by simp <;> omega), heap_setCell_other _ _ _ _ (by simp <;> omega), heap_setCell_other _ _ _ _ (by simp <;> omega)]
              refine ⟨by rw [HNEW.out, List.length_append, ← HN.out]; rfl, ⟨_, cap4, us ++ [.slice Ac x.row.length cc], rfl, ?_⟩, ⟨_, cap5, vs ++ [.slice Ad yn.row.length cd], rfl, ?_⟩, Or.inr (fun e => HG5.out (by simpa [Value.ownBlock] using e)), ⟨A6, c6, ?_, ?_⟩, below_set3' HB19.out (Nat.le_of_succ_le HBW.out) _ _ _⟩
              · rw [HNEW.out, List.map_append, ← HLFD.out]; exact HO19.out.same hsame
              · rw [HNEW.out, List.map_append, ← HLSD.out, ← show ls ++ [yn] = ls ++ List.map (bk p) [(x, sk)] by rw [HYN.out]; rfl]; exact HV19.out.same hsame
              · rw [sysAt_succ HXK.out, ← HSK.out, ← HSN.out]; exact set3_block HQ19.out
              · rw [sysAt_succ HXK.out, ← HSK.out, ← HSN.out]; exact ((HU19.out.mono (B' := b12 + 1) (by have := HZ18.out; omega)).same hsame).mono (by have := HBW.out; omega)
            have HFIN := Lib.hid hfin
            clear hfin
            go_roundw
            case rel => exact ⟨k + 1, n + 1, by omega, by go_num, HFIN.out⟩
            case measure => simp [intOf]; omega
      · have HKN := Lib.hid (show k = xs.length by omega)
        go_wp2
        refine bodyPost_ret (v := .tuple #[.slice A8 n c8, .bool true]) (by simp [results, Tryz.results41, go_sem]) rfl (SteppedTo.mk rfl ?_ HBEL.out)
        have := HOWN.out
        rw [HLFD.out, HKN.out] at this
        rw [HCX.out]
        exact ⟨us, this.mono (by have := HBW.out; omega)⟩
end Go.Proofs.YtjdbfokbgmbphaaGreatDoor

namespace Go.Proofs.YtjdbfokbgmbphaaGreatDoor
set_option linter.unusedVariables false
set_option linter.unusedSimpArgs false
open Go.RowKit

set_option maxRecDepth 100000 in
set_option maxHeartbeats 2000000 in
theorem implCompressC (p : Int) (s : Sy) (A : Option Addr) (cap : Nat) (xs : List Stp) (XA : Option Addr) (xcap : Nat) (w : World) (hP : Primes w) (hR : RowsAt w A s.rows) (hm : s.rows.length ≤ 1048576) (hms : ∀ r ∈ s.rows, r.length ≤ 1048576) (hX : StepsAt w XA xs) (hn : xs.length ≤ 1048576) (hns : ∀ x ∈ xs, x.row.length ≤ 1048576) :
    Calls Tryz.prog 42 #[.int .i64 p, .agg #[.int .i64 s.v, .int .i64 s.h, .slice A s.rows.length cap], .slice XA xs.length xcap] w (SteppedTo (cmX p s xs) (apOk p s xs) w) := by
  have HB := Lib.hid ((Below.refl w.heap.size w).alloc (Nat.le_refl _) (.cells #[.int .i64 s.v, .int .i64 s.h, .slice A s.rows.length cap] 30))
  have HT := Lib.hid (isTrack_any p s A cap xs.length _ XA xcap (hP.ext HB.out) (hR.ext HB.out) hm hms hn)
  have hq : (w.alloc (.cells #[.int .i64 s.v, .int .i64 s.h, .slice A s.rows.length cap] 30)).heap[w.heap.size]? = some (.cells #[.int .i64 s.v, .int .i64 s.h, .slice A s.rows.length cap] 30 (0, 0)) := heap_at _ _ rfl
  have HQ := Lib.hid hq
  have HP := Lib.hid hP; have HR := Lib.hid hR; have HX := Lib.hid hX; have HNS := Lib.hid hns
  clear hP hR hX hms hns hq
  cases ht : trkB p s xs.length with
  | false =>
    have HTF := Lib.hid ht
    rw [ht] at HT
    clear ht
    have h1 : apOk p s xs = false := by unfold apOk; rw [HTF.out, Bool.false_and]
    have h2 : cmX p s xs = [] := by unfold cmX; rw [h1, if_neg (by decide)]
    rw [h1, h2]
    clear h1 h2
    go_enter Tryz.func42, Tryz.ntmps42
    go_wp2_with (go_at_call 61; refine HT.out.mono ?_; rintro e w1 ⟨rfl, hb1⟩; have HB1 := Lib.hid (below_ext HB.out hb1); clear hb1)
    exact bodyPost_ret (v := .tuple #[.slice none 0 0, .bool false]) (by simp [results, Tryz.results42, go_sem]) rfl (SteppedTo.mk rfl (OwnSteps.nil _ _) HB1.out)
  | true =>
    have HTF := Lib.hid ht
    rw [ht] at HT
    clear ht
    obtain ⟨hok, hn3⟩ := trkB_iff.1 HTF.out
    have HRUN := Lib.hid (fun (W : World) (hW : Below w.heap.size w W) => compressSteps_any p s A cap xs W XA xcap (HP.out.ext hW) (HR.out.ext hW) (HX.out.ext hW) hok hn3 HNS.out)
    clear hok
    have hle := firstBad_le p xs s
    by_cases hlt : firstBad p s xs < xs.length
    · have HF := Lib.hid (show ∀ W e w', CmpTo p s xs W e w' → e = .returned (.tuple #[.slice none 0 0, .bool false]) ∧ Below W.heap.size W w' from fun W e w' h => ⟨h.1 hlt, h.2.2⟩)
      have h1 : apOk p s xs = false := by unfold apOk; rw [decide_eq_false (by omega), Bool.and_false]
      have h2 : cmX p s xs = [] := by unfold cmX; rw [h1, if_neg (by decide)]
      rw [h1, h2]
      clear hlt hle h1 h2
      go_enter Tryz.func42, Tryz.ntmps42
      go_wp2_with (first | (go_at_call 61; refine HT.out.mono ?_; rintro e w1 ⟨rfl, hb1⟩; have HB1 := Lib.hid (below_ext HB.out hb1); obtain ⟨d0, d1, d2⟩ := cells_3 (box_at HQ.out hb1); clear hb1) | (go_at_call 75; refine (HRUN.out _ HB1.out).mono ?_; rintro e w2 hr; obtain ⟨rfl, hb2⟩ := HF.out _ _ _ hr; have HB2 := Lib.hid (below_ext HB1.out hb2); clear hb2 hr d0 d1 d2))
      exact bodyPost_ret (v := .tuple #[.slice none 0 0, .bool false]) (by simp [results, Tryz.results42, go_sem]) rfl (SteppedTo.mk rfl (OwnSteps.nil _ _) HB2.out)
    · have h1 : apOk p s xs = true := by unfold apOk; rw [HTF.out, decide_eq_true (by omega)]; rfl
      obtain ⟨X, hX⟩ : ∃ X, X = (cmpL p s xs xs.length).map Prod.fst := ⟨_, rfl⟩
      have h2 : cmX p s xs = X := by unfold cmX; rw [if_pos h1, hX]
      have HF := Lib.hid (show ∀ W e w', CmpTo p s xs W e w' → ∃ (A : Option Addr) (n c : Nat), e = .returned (.tuple #[.slice A n c, .bool true]) ∧ OwnSteps w' W.heap.size (.slice A n c) X ∧ Below W.heap.size W w' from fun W e w' h => by
        obtain ⟨A2, c2, h1, h2⟩ := h.2.1 (by omega)
        rw [hX]
        exact ⟨_, _, _, h1, h2, h.2.2⟩)
      rw [h1, h2]
      clear hlt hle h1 h2 hX
      go_enter Tryz.func42, Tryz.ntmps42
      go_wp2_with (first | (go_at_call 61; refine HT.out.mono ?_; rintro e w1 ⟨rfl, hb1⟩; have HB1 := Lib.hid (below_ext HB.out hb1); have HS1 := Lib.hid hb1.size; obtain ⟨d0, d1, d2⟩ := cells_3 (box_at HQ.out hb1); clear hb1) | (go_at_call 75; refine (HRUN.out _ HB1.out).mono ?_; rintro e w2 hr; obtain ⟨A2, n2, c2, rfl, hu, hb2⟩ := HF.out _ _ _ hr; have HB2 := Lib.hid (below_ext HB1.out hb2); have HU := Lib.hid (hu.mono (B' := w.heap.size) HB1.out.size); clear hb2 hr d0 d1 d2 hu))
      exact bodyPost_ret (v := .tuple #[.slice A2 n2 c2, .bool true]) (by simp [results, Tryz.results42, go_sem]) rfl (SteppedTo.mk rfl HU.out HB2.out)

end Go.Proofs.YtjdbfokbgmbphaaGreatDoor
