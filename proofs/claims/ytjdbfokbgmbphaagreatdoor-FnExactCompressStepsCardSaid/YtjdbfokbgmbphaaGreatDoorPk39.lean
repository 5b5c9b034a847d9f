/- impl.compressSteps. Conditions: the system is valid, at most 3000 steps; lengths of at most 2^20; the table of primes is laid. -/
import Derived.Test.YtjdbfokbgmbphaaGreatDoorPk38
import Derived.Test.YtjdbfokbgmbphaaGreatDoorPk8
import Derived.Deep.CutRange
namespace Go.Proofs.YtjdbfokbgmbphaaGreatDoor
set_option linter.unusedVariables false
set_option linter.unusedSimpArgs false
open Go.RowKit

theorem OwnStepsW.keptT {w w' : World} {B B' s n : Nat} {T : TypeId} {u v : Value} {ys : List Stp} {us xs : List Value} (h : OwnStepsW w B u ys us) (h0 : 34 ≠ T) (h2 : 3 ≠ T) (hv : w.ownsRow B' T s v n xs) (hg : w.grownBy w' v.ownBlock) : OwnStepsW w' B u ys us :=
  ⟨h.len, World.ownsRow.kept h.outer hg (apart_ty h0 h.outer hv), fun k u' r hu hr => OwnInts.kept (h.each k u' r hu hr) hg (apart_ty h2 (h.each k u' r hu hr) hv), h.apart⟩
theorem far_block {w w' : World} {B b : Nat} {v : Value} {o : Obj} {L : Nat} (hg : w.grownBy w' v.ownBlock) (hl : ∀ k, v.ownBlock = some k → B ≤ k ∧ k < L) (h : w.heap[b]? = some o) (hb : L ≤ b) : w'.heap[b]? = some o :=
  (hg.block b (Array.getElem?_eq_some_iff.1 h).1 (fun e => by have := (hl b e.symm).2; omega)).trans h
theorem far_below {w w' : World} {B b : Nat} {o : Obj} (hb : Below B w w') (h : w.heap[b]? = some o) (hlt : b < B) : w'.heap[b]? = some o :=
  (hb.block b hlt).trans h
theorem heapDrew (w : World) (o : Obj) : (w.alloc o).drew.heap[w.heap.size]? = some o := heap_at w o rfl
theorem szDrew {w w3 : World} {o : Obj} (h : Below (w.alloc o).drew.heap.size (w.alloc o).drew w3) : w.heap.size ≤ w.heap.size ∧ w.heap.size + 1 ≤ w3.heap.size := ⟨Nat.le_refl _, by have := h.size; simpa using this⟩
theorem ownDrew {w4 w5 : World} {o : Obj} {v : Value} {xs : List Int} (h : OwnInts w5 (w4.alloc o).drew.heap.size v xs) : OwnInts w5 (w4.heap.size + 1) v xs := by simpa only [World.size_drew, World.size_alloc] using h

def CmpTo (p : Int) (s : Sy) (xs : List Stp) (w : World) (e : Ending) (w' : World) : Prop :=
  (firstBad p s xs < xs.length → e = .returned (.tuple #[.slice none 0 0, .bool false])) ∧
  (firstBad p s xs = xs.length → ∃ A c, e = .returned (.tuple #[.slice A (cmpL p s xs xs.length).length c, .bool true]) ∧ OwnSteps w' w.heap.size (.slice A (cmpL p s xs xs.length).length c) ((cmpL p s xs xs.length).map Prod.fst)) ∧ Below w.heap.size w w'
def CRel (p : Int) (s : Sy) (xs : List Stp) (w : World) (k n : Nat) (u8 u9 : Value) (wr : World) : Prop :=
  k ≤ firstBad p s xs ∧ n = (cmpL p s xs k).length ∧ (∃ A8 c8 us, u8 = .slice A8 n c8 ∧ OwnStepsW wr (w.heap.size + 1) (.slice A8 n c8) ((cmpL p s xs k).map Prod.fst) us) ∧
  (∃ A9 c9 vs, u9 = .slice A9 n c9 ∧ KSyW w wr (w.heap.size + 1) (.slice A9 n c9) ((cmpL p s xs k).map Prod.snd) vs) ∧
  (∃ A1 c1, wr.heap[w.heap.size]? = some (.cells #[.int .i64 (sysAt p s xs k).v, .int .i64 (sysAt p s xs k).h, .slice A1 (sysAt p s xs k).rows.length c1] 30 (0, 0)) ∧ Kept w wr (w.heap.size + 1) A1 c1 (sysAt p s xs k).rows) ∧ Below w.heap.size w wr

set_option maxRecDepth 100000 in
set_option maxHeartbeats 16000000 in
theorem compressSteps_any (p : Int) (s : Sy) (A : Option Addr) (cap : Nat) (xs : List Stp) (w : World) (XA : Option Addr) (xcap : Nat) (hP : Primes w) (hR : RowsAt w A s.rows) (hX : StepsAt w XA xs) (hok : s.Ok p) (hm : xs.length ≤ 3000) (hms : ∀ x ∈ xs, x.row.length ≤ 1048576) :
    Calls Tryz.prog 75 #[.int .i64 p, .agg #[.int .i64 s.v, .int .i64 s.h, .slice A s.rows.length cap], .slice XA xs.length xcap] w (CmpTo p s xs w) := by
  have HX := Lib.hid hX; have HP := Lib.hid hP; have HOK := Lib.hid hok; have HMS := Lib.hid hms
  have hst : CRel p s xs w 0 0 (.slice (some ⟨w.heap.size + 1, 0, none⟩) 0 0) (.slice (some ⟨w.heap.size + 1 + 1, 0, none⟩) 0 0) (((w.alloc (.cells #[.int .i64 s.v, .int .i64 s.h, .slice A s.rows.length cap] 30)).alloc (.cells #[] 34)).alloc (.cells #[] 30)) := by
    have hB : Below w.heap.size w (w.alloc (.cells #[.int .i64 s.v, .int .i64 s.h, .slice A s.rows.length cap] 30)) := (Below.refl w.heap.size w).alloc (by simp) _
    obtain ⟨us, h1⟩ := OwnSteps.lit (w.alloc (.cells #[.int .i64 s.v, .int .i64 s.h, .slice A s.rows.length cap] 30)) (w.heap.size + 1) (by simp)
    have h2 := KSyW.lit w ((w.alloc (.cells #[.int .i64 s.v, .int .i64 s.h, .slice A s.rows.length cap] 30)).alloc (.cells #[] 34)) (w.heap.size + 1) (by simp)
    simp only [World.size_alloc] at h1 h2
    have hB2 := hB.alloc hB.size (.cells #[] 34)
    refine ⟨Nat.zero_le _, rfl, ⟨_, 0, us, rfl, h1.ext ((Below.refl _ _).alloc (Nat.le_refl _) _)⟩, ⟨_, 0, _, rfl, h2⟩, ⟨A, cap, ?_, Or.inl ?_⟩, hB2.alloc hB2.size _⟩
    · rw [sysAt_zero]; exact (heap_past _ _ (by simp <;> omega)).trans ((heap_past _ _ (by simp)).trans (heap_at _ _ rfl))
    · rw [sysAt_zero]; exact hR
  have HST := Lib.hid hst
  clear hR hX hP hok hms hst
  go_enter Tryz.func75, Tryz.ntmps75
  go_wp2
  go_loopw [8, 9, 21] (fun u v i wr => ∃ k n : Nat, k ≤ xs.length ∧ i = .int .i64 k ∧ CRel p s xs w k n u v wr)
    (fun _ _ i _ => xs.length - (intOf i).toNat)
  case atStart => exact ⟨0, 0, Nat.zero_le _, rfl, HST.out⟩
  case round =>
    obtain ⟨k, n, hk, rfl, hk1, hn, ⟨A8, c8, us, rfl, hown⟩, ⟨A9, c9, vs, rfl, hsys⟩, ⟨A1, c1, hq, hkept⟩, hbel⟩ := hrel
    clear HST
    have HN := Lib.hid hn
    have hnk : n ≤ k := by rw [hn]; exact cmpL_len p s xs k
    obtain ⟨lf, hlf⟩ : ∃ lf, lf = (cmpL p s xs k).map Prod.fst := ⟨_, rfl⟩
    obtain ⟨ls, hls⟩ : ∃ ls, ls = (cmpL p s xs k).map Prod.snd := ⟨_, rfl⟩
    have HLFD := Lib.hid hlf; have HLSD := Lib.hid hls
    have HLF := Lib.hid (show lf.length = n by rw [hlf, hn]; simp)
    have HLS := Lib.hid (show ls.length = n by rw [hls, hn]; simp)
    rw [← hlf] at hown
    rw [← hls] at hsys
    have HOWN := Lib.hid hown; have HSYS := Lib.hid hsys; have HQ := Lib.hid hq; have HKEPT := Lib.hid hkept; have HBEL := Lib.hid hbel
    obtain ⟨sk, hsk⟩ : ∃ sk, sk = sysAt p s xs k := ⟨_, rfl⟩
    have HSK := Lib.hid hsk
    have HOKK := Lib.hid (show sk.Ok p by rw [hsk]; exact sysAt_ok HOK.out hk1)
    rw [← hsk] at HQ HKEPT
    have HLT8 := Lib.hid (World.ownsRow.lt hown.outer); have HLT9 := Lib.hid (World.ownsRow.lt hsys.outer)
    clear hown hsys hq hkept hbel hsk hlf hls hn
    by_cases hlt : k < xs.length
    · obtain ⟨x, hx⟩ := get_of_lt hlt
      obtain ⟨b, o, rfl, hc⟩ := HX.out.here hlt
      obtain ⟨A', cap', hxc, hin⟩ := hc k x hx
      obtain ⟨x0, x1, x2, x3, x4⟩ : StpAt wr b (o + k * 5) x A' cap' := hxc.ext HBEL.out
      have HRW := Lib.hid (HMS.out x (List.mem_of_getElem? hx))
      have HIN := Lib.hid hin; have HXK := Lib.hid hx
      clear hc hin hx hxc
      go_upto_region 5 with (fail)
      obtain ⟨W2, hW2⟩ : ∃ W2, W2 = wr.alloc (.cells #[.int .i64 x.k, .int .i64 x.a, .int .i64 x.b, .int .i64 x.c, .slice A' x.row.length cap'] 34) := ⟨_, rfl⟩
      rw [← hW2]
      have hA : Below wr.heap.size wr W2 := by rw [hW2]; exact (Below.refl _ _).alloc (Nat.le_refl _) _
      have hq2 : W2.heap[wr.heap.size]? = some (.cells #[.int .i64 x.k, .int .i64 x.a, .int .i64 x.b, .int .i64 x.c, .slice A' x.row.length cap'] 34 (0, 0)) := by rw [hW2]; exact heap_at _ _ rfl
      have HA := Lib.hid hA; have HXB := Lib.hid hq2
      have HB2 := Lib.hid (below_ext HBEL.out hA)
      clear x0 x1 x2 x3 x4
      obtain ⟨d0, d1, d2, _⟩ := cells3 (box_at HQ.out hA)
      obtain ⟨x0, x1, x2, x3, x4⟩ := cells_5 hq2
      clear hA hq2 hW2
      cases ho : okTo p sk x with
      | false =>
        have HO := Lib.hid ho
        clear ho
        have MK := Lib.hid (fun (A cap W XA xcap h1 h2 h3) => mkS_no p sk x A cap W XA xcap h1 h2 h3 HRW.out HOKK.out HO.out)
        go_upto_region 6 with (go_at_call 53; refine (MK.out _ _ _ _ _ (HP.out.ext HB2.out) ((HKEPT.out.rows HBEL.out).ext HA.out) (HIN.out.ext HB2.out)).mono ?_; rintro e w3 ⟨rfl, hb⟩; clear d0 d1 d2 x0 x1 x2 x3 x4; have HB3 := Lib.hid (below_ext HB2.out hb); clear hb)
        go_wp2
        have hfb := bad_here hk1 HXK.out (by rw [← HSK.out]; exact HO.out)
        refine bodyPost_ret (v := .tuple #[.slice none 0 0, .bool false]) (by simp [results, Tryz.results75, go_sem]) rfl ⟨fun _ => rfl, fun h => by omega, HB3.out.alloc HB3.out.size _⟩
      | true =>
        have HO := Lib.hid ho
        clear ho
        obtain ⟨sn, hsn⟩ : ∃ sn, sn = stepTo p sk x := ⟨_, rfl⟩
        have HSN := Lib.hid hsn
        have MK := Lib.hid (fun (A cap W XA xcap h1 h2 h3) => mkS_yes p sk x A cap W XA xcap h1 h2 h3 HRW.out HOKK.out HO.out)
        rw [← hsn] at MK
        have HKB := Lib.hid (bad_step hk1 HXK.out (by rw [← HSK.out]; exact HO.out))
        clear hsn
        go_upto_region 6 with (go_at_call 53; refine (MK.out _ _ _ _ _ (HP.out.ext HB2.out) ((HKEPT.out.rows HBEL.out).ext HA.out) (HIN.out.ext HB2.out)).mono ?_; rintro e w3 ⟨A6, c6, rfl, hu, hb⟩; clear d0 d1 d2 x0 x1 x2 x3 x4; have HB3 := Lib.hid hb; have HU3 := Lib.hid hu; clear hu hb)
        obtain ⟨W4, hW4⟩ : ∃ W4, W4 = w3.alloc (.cells #[.int .i64 sn.v, .int .i64 sn.h, .slice A6 sn.rows.length c6] 30) := ⟨_, rfl⟩
        rw [← hW4]
        have hC : Below w3.heap.size w3 W4 := by rw [hW4]; exact (Below.refl _ _).alloc (Nat.le_refl _) _
        have hq4 : W4.heap[w3.heap.size]? = some (.cells #[.int .i64 sn.v, .int .i64 sn.h, .slice A6 sn.rows.length c6] 30 (0, 0)) := by rw [hW4]; exact heap_at _ _ rfl
        have h24 := below_ext HB3.out hC
        have hr4 := below_ext HA.out h24
        have HX4 := Lib.hid (box_at HXB.out h24); have HQ4 := Lib.hid (box_at HQ.out hr4); have HT4 := Lib.hid hq4
        have HO4 := Lib.hid (HOWN.out.ext hr4); have HK4 := Lib.hid (HSYS.out.ext hr4); have HM4 := Lib.hid (HKEPT.out.ext hr4)
        have hqw := (Array.getElem?_eq_some_iff.1 HQ.out).1
        have HU4 := Lib.hid ((HU3.out.ext hC).mono (B' := w.heap.size + 1) (by have := HA.out.size; omega))
        have HB4 := Lib.hid (below_ext HBEL.out hr4); have HZ4 := Lib.hid hr4.size
        have HBT := Lib.hid (show wr.heap.size ≤ w3.heap.size by have := HB3.out.size; have := HA.out.size; omega)
        have HS := Lib.hid (fun (W : World) (h1 : W.heap[wr.heap.size]? = some (.cells #[.int .i64 x.k, .int .i64 x.a, .int .i64 x.b, .int .i64 x.c, .slice A' x.row.length cap'] 34 (0, 0))) (h2 : W.heap[w.heap.size]? = some (.cells #[.int .i64 sk.v, .int .i64 sk.h, .slice A1 sk.rows.length c1] 30 (0, 0))) => (⟨(cells_5 h1).1, (cells_5 h1).2.1, (cells_5 h1).2.2.1, (cells_5 h1).2.2.2.1, (cells_5 h1).2.2.2.2, (cells_3 h2).1, (cells_3 h2).2.1, (cells_3 h2).2.2⟩ : W.cell? ⟨wr.heap.size, 0, none⟩ = some (.int .i64 x.k) ∧ W.cell? ⟨wr.heap.size, 1, none⟩ = some (.int .i64 x.a) ∧ W.cell? ⟨wr.heap.size, 2, none⟩ = some (.int .i64 x.b) ∧ W.cell? ⟨wr.heap.size, 3, none⟩ = some (.int .i64 x.c) ∧ W.cell? ⟨wr.heap.size, 4, none⟩ = some (.slice A' x.row.length cap') ∧ W.cell? ⟨w.heap.size, 0, none⟩ = some (.int .i64 sk.v) ∧ W.cell? ⟨w.heap.size, 1, none⟩ = some (.int .i64 sk.h) ∧ W.cell? ⟨w.heap.size, 2, none⟩ = some (.slice A1 sk.rows.length c1)))
        clear hC hq4 h24 hr4 hW4 HXB HB3 HU3 MK HOWN HSYS HKEPT HQ HB2 HA
        rcases Nat.eq_zero_or_pos n with rfl | hnp
        · have HNEW := Lib.hid (show cmpL p s xs (k + 1) = cmpL p s xs k ++ [(x, sk)] by
            rw [cmpL_succ HXK.out, List.eq_nil_of_length_eq_zero HN.out.symm, cmpTo_nil, HSK.out]; rfl)
          obtain ⟨W5, hW5⟩ : ∃ W5, W5 = W4 := ⟨_, rfl⟩
          subst hW5
          have HX5 := HX4; have HQ5 := HQ4; have HT5 := HT4; have HO5 := HO4; have HK5 := HK4; have HM5 := HM4; have HU5 := HU4; have HB5 := HB4; have HZ5 := HZ4
          go_wp2
          refine wp_region_held_drew (S := fun W => W.cell? ⟨wr.heap.size, 0, none⟩ = some (.int .i64 x.k) ∧ W.cell? ⟨wr.heap.size, 1, none⟩ = some (.int .i64 x.a) ∧ W.cell? ⟨wr.heap.size, 2, none⟩ = some (.int .i64 x.b) ∧ W.cell? ⟨wr.heap.size, 3, none⟩ = some (.int .i64 x.c) ∧ W.cell? ⟨wr.heap.size, 4, none⟩ = some (.slice A' x.row.length cap') ∧ W.cell? ⟨w.heap.size, 0, none⟩ = some (.int .i64 sk.v) ∧ W.cell? ⟨w.heap.size, 1, none⟩ = some (.int .i64 sk.h) ∧ W.cell? ⟨w.heap.size, 2, none⟩ = some (.slice A1 sk.rows.length c1)) (by kernel_rfl) (HS.out _ (box_at HX5.out (Below.refl _ _).drew) (box_at HQ5.out (Below.refl _ _).drew)) (fun hHeld => ?_)
          obtain ⟨W0, hW0⟩ : ∃ W0, W0 = W5.drew := ⟨_, rfl⟩
          rw [← hW0] at hHeld ⊢
          have hb : Below W5.heap.size W5 W0 := by rw [hW0]; exact (Below.refl _ _).drew
          have HX0 := Lib.hid (box_at HX5.out hb)
          have HQ0 := Lib.hid (box_at HQ5.out hb)
          have HT0 := Lib.hid (box_at HT5.out hb)
          have HO0 := Lib.hid (HO5.out.ext hb)
          have HK0 := Lib.hid (HK5.out.ext hb)
          have HM0 := Lib.hid (HM5.out.ext hb)
          have HU0 := Lib.hid (HU5.out.ext hb)
          have HB0 := Lib.hid (below_ext HB5.out hb)
          have HZ0 := Lib.hid (Nat.le_trans HZ5.out hb.size)
          clear hb hW0
          refine takeH (i := 0) (v := ?_) rfl (by kernel_rfl) (by kernel_rfl) (by kernel_rfl) (Or.inl ⟨by rfl, ?_⟩) (by assumption) ?_
          rotate_left
          · intro w hSw; (try dsimp only at hSw); go_simp; (try with_reducible rfl)
          simp only [Act.put, List.setIfInBounds_toArray, List.set_cons_zero, List.set_cons_succ]
          refine takeH (i := 1) (v := ?_) rfl (by kernel_rfl) (by kernel_rfl) (by kernel_rfl) (Or.inl ⟨by rfl, ?_⟩) (by assumption) ?_
          rotate_left
          · intro w hSw; (try dsimp only at hSw); go_simp; (try with_reducible rfl)
          simp only [Act.put, List.setIfInBounds_toArray, List.set_cons_zero, List.set_cons_succ]
          refine takeH (i := 5) (v := ?_) rfl (by kernel_rfl) (by kernel_rfl) (by kernel_rfl) (Or.inl ⟨by rfl, ?_⟩) (by assumption) ?_
          rotate_left
          · intro w hSw; (try dsimp only at hSw); go_simp; (try with_reducible rfl)
          simp only [Act.put, List.setIfInBounds_toArray, List.set_cons_zero, List.set_cons_succ]
          refine takeH (i := 6) (v := ?_) rfl (by kernel_rfl) (by kernel_rfl) (by kernel_rfl) (Or.inl ⟨by rfl, ?_⟩) (by assumption) ?_
          rotate_left
          · intro w hSw; (try dsimp only at hSw); go_simp; (try with_reducible rfl)
          simp only [Act.put, List.setIfInBounds_toArray, List.set_cons_zero, List.set_cons_succ]
          refine wpAnyH_ready (rs := [2, 7]) (by kernel_rfl) (by simp) ?_
          refine consH rfl (fun K hK => ?_) (consH rfl (fun K hK => ?_) AllReadyH.nil)
          · go_simp
            refine (copyStep_any x A' cap' _ (HIN.out.ext HB0.out) HRW.out).mono ?_
            rintro e W1 ⟨Ac, cc, rfl, hu, hb⟩
            have HX1 := Lib.hid (box_at HX0.out hb)
            have HQ1 := Lib.hid (box_at HQ0.out hb)
            have HT1 := Lib.hid (box_at HT0.out hb)
            have HO1 := Lib.hid (HO0.out.ext hb)
            have HK1 := Lib.hid (HK0.out.ext hb)
            have HM1 := Lib.hid (HM0.out.ext hb)
            have HU1 := Lib.hid (HU0.out.ext hb)
            have HB1 := Lib.hid (below_ext HB0.out hb)
            have HZ1 := Lib.hid (Nat.le_trans HZ0.out (Below.size hb))
            have HC1 := Lib.hid (hu.mono (B' := w.heap.size + 1) (by have := HZ0.out; omega))
            have HFR := Lib.hid (HO0.out.fresh hu)
            clear hu hb
            go_simp
            refine hK.out _ _ (HS.out _ HX1.out HQ1.out) (fun hHeld => ?_)
            clear hK K
            try simp only [Act.put, List.setIfInBounds_toArray, List.set_cons_zero, List.set_cons_succ]
            refine wpAnyH_ready (rs := [3, 7]) (by kernel_rfl) (by simp) ?_
            refine consH rfl (fun K hK => ?_) (consH rfl (fun K hK => ?_) AllReadyH.nil)
            · go_simp
              obtain ⟨W2, hW2⟩ : ∃ W2, W2 = W1.alloc (.cells #[.int .i64 x.k, .int .i64 x.a, .int .i64 x.b, .int .i64 x.c, .slice Ac x.row.length cc] 34) := ⟨_, rfl⟩
              rw [← hW2]
              have hb : Below W1.heap.size W1 W2 := by rw [hW2]; exact (Below.refl _ _).alloc (Nat.le_refl _) _
              have HX2 := Lib.hid (box_at HX1.out hb)
              have HQ2 := Lib.hid (box_at HQ1.out hb)
              have HT2 := Lib.hid (box_at HT1.out hb)
              have HO2 := Lib.hid (HO1.out.ext hb)
              have HK2 := Lib.hid (HK1.out.ext hb)
              have HM2 := Lib.hid (HM1.out.ext hb)
              have HU2 := Lib.hid (HU1.out.ext hb)
              have HB2 := Lib.hid (below_ext HB1.out hb)
              have HZ2 := Lib.hid (Nat.le_trans HZ1.out (Below.size hb))
              have HC2 := Lib.hid (HC1.out.ext hb)
              have HP2 := Lib.hid (show W2.heap[W1.heap.size]? = some (.cells #[.int .i64 x.k, .int .i64 x.a, .int .i64 x.b, .int .i64 x.c, .slice Ac x.row.length cc] 34 (0, 0)) by rw [hW2]; exact heap_at _ _ rfl)
              clear hb hW2
              refine hK.out _ _ (HS.out _ HX2.out HQ2.out) (fun hHeld => ?_)
              clear hK K
              try simp only [Act.put, List.setIfInBounds_toArray, List.set_cons_zero, List.set_cons_succ]
              refine wpAnyH_ready (rs := [4, 7]) (by kernel_rfl) (by simp) ?_
              refine consH rfl (fun K hK => ?_) (consH rfl (fun K hK => ?_) AllReadyH.nil)
              · refine step_appendStpG rfl (.tmp 62) (.tmp 65) rfl (w.heap.size + 1) W2 (.slice A8 0 c8) (.slice Ac x.row.length cc) lf us x W1.heap.size HO2.out HC2.out HFR.out (by rw [HLF.out]; omega) (by have := HZ2.out; omega) rfl rfl HP2.out ?_
                intro g4 cap4 W3 hown hg hb
                rw [HLF.out] at hown ⊢
                have HX3 := Lib.hid (far_block hg HLT8.out HX2.out (Nat.le_refl _))
                have HQ3 := Lib.hid (far_below hb HQ2.out (by omega))
                have HT3 := Lib.hid (far_block hg HLT8.out HT2.out HBT.out)
                have HK3 := Lib.hid (HK2.out.keptT (by decide) (by decide) (by decide) HO2.out.outer hg)
                have HM3 := Lib.hid (HM2.out.keptT (by decide) (by decide) HO2.out.outer hg)
                have HU3 := Lib.hid (HU2.out.keptT (by decide) (by decide) HO2.out.outer hg)
                have HB3 := Lib.hid (HB2.out.trans (hb.mono (by omega)))
                have HZ3 := Lib.hid (Nat.le_trans HZ2.out hb.size)
                have HO3 := Lib.hid hown
                clear hown hg hb
                refine hK.out _ _ (HS.out _ HX3.out HQ3.out) (fun hHeld => ?_)
                clear hK K
                try simp only [Act.put, List.setIfInBounds_toArray, List.set_cons_zero, List.set_cons_succ]
                refine wpAnyH_ready (rs := [7]) (by kernel_rfl) (by simp) ?_
                refine consH rfl (fun K hK => ?_) AllReadyH.nil
                go_simp
                obtain ⟨W4, hW4⟩ : ∃ W4, W4 = W3.alloc (.cells #[.int .i64 sk.v, .int .i64 sk.h, .slice A1 sk.rows.length c1] 30) := ⟨_, rfl⟩
                rw [← hW4]
                have hb : Below W3.heap.size W3 W4 := by rw [hW4]; exact (Below.refl _ _).alloc (Nat.le_refl _) _
                have HX4 := Lib.hid (box_at HX3.out hb)
                have HQ4 := Lib.hid (box_at HQ3.out hb)
                have HT4 := Lib.hid (box_at HT3.out hb)
                have HO4 := Lib.hid (HO3.out.ext hb)
                have HK4 := Lib.hid (HK3.out.ext hb)
                have HM4 := Lib.hid (HM3.out.ext hb)
                have HU4 := Lib.hid (HU3.out.ext hb)
                have HB4 := Lib.hid (below_ext HB3.out hb)
                have HZ4 := Lib.hid (Nat.le_trans HZ3.out (Below.size hb))
                have HY4 := Lib.hid (show W4.heap[W3.heap.size]? = some (.cells #[.int .i64 sk.v, .int .i64 sk.h, .slice A1 sk.rows.length c1] 30 (0, 0)) by rw [hW4]; exact heap_at _ _ rfl)
                have HYB := Lib.hid (show wr.heap.size ≤ W3.heap.size from HZ3.out)
                clear hb hW4
                refine hK.out _ _ (HS.out _ HX4.out HQ4.out) (fun hHeld => ?_)
                clear hK K
                try simp only [Act.put, List.setIfInBounds_toArray, List.set_cons_zero, List.set_cons_succ]
                refine wpAnyH_ready (rs := [8]) (by kernel_rfl) (by simp) ?_
                refine consH rfl (fun K hK => ?_) AllReadyH.nil
                refine step_appendKSy rfl (.tmp 67) (.tmp 69) rfl (w.heap.size + 1) w W4 (.slice A9 0 c9) A1 c1 ls vs sk W3.heap.size HK4.out HM4.out (by rw [HLS.out]; omega) (by have := HZ4.out; omega) rfl rfl HY4.out ?_
                intro g5 cap5 W5 hown hg hb
                rw [HLS.out] at hown ⊢
                have HX5 := Lib.hid (far_block hg HLT9.out HX4.out (Nat.le_refl _))
                have HQ5 := Lib.hid (far_below hb HQ4.out (by omega))
                have HT5 := Lib.hid (far_block hg HLT9.out HT4.out HBT.out)
                have HO5 := Lib.hid (HO4.out.keptT (by decide) (by decide) HK4.out.outer hg)
                have HU5 := Lib.hid (HU4.out.keptT (by decide) (by decide) HK4.out.outer hg)
                have HB5 := Lib.hid (HB4.out.trans (hb.mono (by omega)))
                have HK5 := Lib.hid hown
                clear hown hg hb
                refine hK.out _ _ (HS.out _ HX5.out HQ5.out) (fun hHeld => ?_)
                clear hK K
                try simp only [Act.put, List.setIfInBounds_toArray, List.set_cons_zero, List.set_cons_succ]
                refine wpAnyH_ready (rs := [9]) (by kernel_rfl) (by simp) ?_
                refine consH rfl (fun K hK => ?_) AllReadyH.nil
                go_simp
                refine hK.out _ _ (HS.out _ HX5.out HQ5.out) (fun hHeld => ?_)
                clear hK K
                try simp only [Act.put, List.setIfInBounds_toArray, List.set_cons_zero, List.set_cons_succ]
                refine wpAnyH_ready (rs := [10]) (by kernel_rfl) (by simp) ?_
                refine consH rfl (fun K hK => ?_) AllReadyH.nil
                go_simp
                refine hK.out _ _ (HS.out _ HX5.out HQ5.out) (fun hHeld => ?_)
                clear hK K
                try simp only [Act.put, List.setIfInBounds_toArray, List.set_cons_zero, List.set_cons_succ]
                refine wpAnyH_done (by kernel_rfl) ?_ _
                clear hHeld
                obtain ⟨f0, f1, f2⟩ := cells_3 HT5.out
                obtain ⟨d0, d1, d2, e0, e1, e2⟩ := cells3 HQ5.out
                go_wp2
                have hfin : CRel p s xs w (k + 1) (0 + 1) (.slice (some ⟨g4, 0, none⟩) (0 + 1) cap4) (.slice (some ⟨g5, 0, none⟩) (0 + 1) cap5) (((W5.setCell ⟨w.heap.size, 0, none⟩ (.int .i64 sn.v)).setCell ⟨w.heap.size, 1, none⟩ (.int .i64 sn.h)).setCell ⟨w.heap.size, 2, none⟩ (.slice A6 sn.rows.length c6)) := by
                  have hsame : ∀ j, w.heap.size + 1 ≤ j → (((W5.setCell ⟨w.heap.size, 0, none⟩ (.int .i64 sn.v)).setCell ⟨w.heap.size, 1, none⟩ (.int .i64 sn.h)).setCell ⟨w.heap.size, 2, none⟩ (.slice A6 sn.rows.length c6)).heap[j]? = W5.heap[j]? := fun j hj => by
                    rw [heap_setCell_other _ _ _ _ (by simp <;> omega), heap_setCell_other _ _ _ _ (by simp <;> omega), heap_setCell_other _ _ _ _ (by simp <;> omega)]
                  refine ⟨HKB.out, by rw [HNEW.out, List.length_append, ← HN.out]; rfl, ⟨_, cap4, us ++ [.slice Ac x.row.length cc], rfl, ?_⟩, ⟨_, cap5, vs ++ [.slice A1 sk.rows.length c1], rfl, ?_⟩, ⟨A6, c6, ?_, Or.inr ?_⟩, below_set3' HB5.out (Nat.le_refl _) _ _ _⟩
                  · rw [HNEW.out, List.map_append, ← HLFD.out]; exact HO5.out.same hsame
                  · rw [HNEW.out, List.map_append, ← HLSD.out]; exact HK5.out.same hsame
                  · rw [sysAt_succ HXK.out, ← HSK.out, ← HSN.out]; exact set3_block HQ5.out
                  · rw [sysAt_succ HXK.out, ← HSK.out, ← HSN.out]; exact HU5.out.same hsame
                have HFIN := Lib.hid hfin
                clear hfin
                go_roundw
                case rel => exact ⟨k + 1, 0 + 1, by omega, by go_num, HFIN.out⟩
                case measure => simp [intOf]; omega
              · go_simp
                obtain ⟨W3, hW3⟩ : ∃ W3, W3 = W2.alloc (.cells #[.int .i64 sk.v, .int .i64 sk.h, .slice A1 sk.rows.length c1] 30) := ⟨_, rfl⟩
                rw [← hW3]
                have hb : Below W2.heap.size W2 W3 := by rw [hW3]; exact (Below.refl _ _).alloc (Nat.le_refl _) _
                have HX3 := Lib.hid (box_at HX2.out hb)
                have HQ3 := Lib.hid (box_at HQ2.out hb)
                have HT3 := Lib.hid (box_at HT2.out hb)
                have HO3 := Lib.hid (HO2.out.ext hb)
                have HK3 := Lib.hid (HK2.out.ext hb)
                have HM3 := Lib.hid (HM2.out.ext hb)
                have HU3 := Lib.hid (HU2.out.ext hb)
                have HB3 := Lib.hid (below_ext HB2.out hb)
                have HZ3 := Lib.hid (Nat.le_trans HZ2.out (Below.size hb))
                have HC3 := Lib.hid (HC2.out.ext hb)
                have HP3 := Lib.hid (box_at HP2.out hb)
                have HY3 := Lib.hid (show W3.heap[W2.heap.size]? = some (.cells #[.int .i64 sk.v, .int .i64 sk.h, .slice A1 sk.rows.length c1] 30 (0, 0)) by rw [hW3]; exact heap_at _ _ rfl)
                have HYB := Lib.hid (show wr.heap.size ≤ W2.heap.size from HZ2.out)
                clear hb hW3
                refine hK.out _ _ (HS.out _ HX3.out HQ3.out) (fun hHeld => ?_)
                clear hK K
                try simp only [Act.put, List.setIfInBounds_toArray, List.set_cons_zero, List.set_cons_succ]
                refine wpAnyH_ready (rs := [4]) (by kernel_rfl) (by simp) ?_
                refine consH rfl (fun K hK => ?_) AllReadyH.nil
                refine step_appendStpG rfl (.tmp 62) (.tmp 65) rfl (w.heap.size + 1) W3 (.slice A8 0 c8) (.slice Ac x.row.length cc) lf us x W1.heap.size HO3.out HC3.out HFR.out (by rw [HLF.out]; omega) (by have := HZ3.out; omega) rfl rfl HP3.out ?_
                intro g4 cap4 W4 hown hg hb
                rw [HLF.out] at hown ⊢
                have HX4 := Lib.hid (far_block hg HLT8.out HX3.out (Nat.le_refl _))
                have HQ4 := Lib.hid (far_below hb HQ3.out (by omega))
                have HT4 := Lib.hid (far_block hg HLT8.out HT3.out HBT.out)
                have HK4 := Lib.hid (HK3.out.keptT (by decide) (by decide) (by decide) HO3.out.outer hg)
                have HM4 := Lib.hid (HM3.out.keptT (by decide) (by decide) HO3.out.outer hg)
                have HU4 := Lib.hid (HU3.out.keptT (by decide) (by decide) HO3.out.outer hg)
                have HB4 := Lib.hid (HB3.out.trans (hb.mono (by omega)))
                have HZ4 := Lib.hid (Nat.le_trans HZ3.out hb.size)
                have HO4 := Lib.hid hown
                have HY4 := Lib.hid (far_block hg HLT8.out HY3.out HYB.out)
                clear hown hg hb
                refine hK.out _ _ (HS.out _ HX4.out HQ4.out) (fun hHeld => ?_)
                clear hK K
                try simp only [Act.put, List.setIfInBounds_toArray, List.set_cons_zero, List.set_cons_succ]
                refine wpAnyH_ready (rs := [8]) (by kernel_rfl) (by simp) ?_
                refine consH rfl (fun K hK => ?_) AllReadyH.nil
                refine step_appendKSy rfl (.tmp 67) (.tmp 69) rfl (w.heap.size + 1) w W4 (.slice A9 0 c9) A1 c1 ls vs sk W2.heap.size HK4.out HM4.out (by rw [HLS.out]; omega) (by have := HZ4.out; omega) rfl rfl HY4.out ?_
                intro g5 cap5 W5 hown hg hb
                rw [HLS.out] at hown ⊢
                have HX5 := Lib.hid (far_block hg HLT9.out HX4.out (Nat.le_refl _))
                have HQ5 := Lib.hid (far_below hb HQ4.out (by omega))
                have HT5 := Lib.hid (far_block hg HLT9.out HT4.out HBT.out)
                have HO5 := Lib.hid (HO4.out.keptT (by decide) (by decide) HK4.out.outer hg)
                have HU5 := Lib.hid (HU4.out.keptT (by decide) (by decide) HK4.out.outer hg)
                have HB5 := Lib.hid (HB4.out.trans (hb.mono (by omega)))
                have HK5 := Lib.hid hown
                clear hown hg hb
                refine hK.out _ _ (HS.out _ HX5.out HQ5.out) (fun hHeld => ?_)
                clear hK K
                try simp only [Act.put, List.setIfInBounds_toArray, List.set_cons_zero, List.set_cons_succ]
                refine wpAnyH_ready (rs := [9]) (by kernel_rfl) (by simp) ?_
                refine consH rfl (fun K hK => ?_) AllReadyH.nil
                go_simp
                refine hK.out _ _ (HS.out _ HX5.out HQ5.out) (fun hHeld => ?_)
                clear hK K
                try simp only [Act.put, List.setIfInBounds_toArray, List.set_cons_zero, List.set_cons_succ]
                refine wpAnyH_ready (rs := [10]) (by kernel_rfl) (by simp) ?_
                refine consH rfl (fun K hK => ?_) AllReadyH.nil
                go_simp
                refine hK.out _ _ (HS.out _ HX5.out HQ5.out) (fun hHeld => ?_)
                clear hK K
                try simp only [Act.put, List.setIfInBounds_toArray, List.set_cons_zero, List.set_cons_succ]
                refine wpAnyH_done (by kernel_rfl) ?_ _
                clear hHeld
                obtain ⟨f0, f1, f2⟩ := cells_3 HT5.out
                obtain ⟨d0, d1, d2, e0, e1, e2⟩ := cells3 HQ5.out
                go_wp2
                have hfin : CRel p s xs w (k + 1) (0 + 1) (.slice (some ⟨g4, 0, none⟩) (0 + 1) cap4) (.slice (some ⟨g5, 0, none⟩) (0 + 1) cap5) (((W5.setCell ⟨w.heap.size, 0, none⟩ (.int .i64 sn.v)).setCell ⟨w.heap.size, 1, none⟩ (.int .i64 sn.h)).setCell ⟨w.heap.size, 2, none⟩ (.slice A6 sn.rows.length c6)) := by
                  have hsame : ∀ j, w.heap.size + 1 ≤ j → (((W5.setCell ⟨w.heap.size, 0, none⟩ (.int .i64 sn.v)).setCell ⟨w.heap.size, 1, none⟩ (.int .i64 sn.h)).setCell ⟨w.heap.size, 2, none⟩ (.slice A6 sn.rows.length c6)).heap[j]? = W5.heap[j]? := fun j hj => by
                    rw [heap_setCell_other _ _ _ _ (by simp <;> omega), heap_setCell_other _ _ _ _ (by simp <;> omega), heap_setCell_other _ _ _ _ (by simp <;> omega)]
                  refine ⟨HKB.out, by rw [HNEW.out, List.length_append, ← HN.out]; rfl, ⟨_, cap4, us ++ [.slice Ac x.row.length cc], rfl, ?_⟩, ⟨_, cap5, vs ++ [.slice A1 sk.rows.length c1], rfl, ?_⟩, ⟨A6, c6, ?_, Or.inr ?_⟩, below_set3' HB5.out (Nat.le_refl _) _ _ _⟩
                  · rw [HNEW.out, List.map_append, ← HLFD.out]; exact HO5.out.same hsame
                  · rw [HNEW.out, List.map_append, ← HLSD.out]; exact HK5.out.same hsame
                  · rw [sysAt_succ HXK.out, ← HSK.out, ← HSN.out]; exact set3_block HQ5.out
                  · rw [sysAt_succ HXK.out, ← HSK.out, ← HSN.out]; exact HU5.out.same hsame
                have HFIN := Lib.hid hfin
                clear hfin
                go_roundw
                case rel => exact ⟨k + 1, 0 + 1, by omega, by go_num, HFIN.out⟩
                case measure => simp [intOf]; omega
            · go_simp
              obtain ⟨W2, hW2⟩ : ∃ W2, W2 = W1.alloc (.cells #[.int .i64 sk.v, .int .i64 sk.h, .slice A1 sk.rows.length c1] 30) := ⟨_, rfl⟩
              rw [← hW2]
              have hb : Below W1.heap.size W1 W2 := by rw [hW2]; exact (Below.refl _ _).alloc (Nat.le_refl _) _
              have HX2 := Lib.hid (box_at HX1.out hb)
              have HQ2 := Lib.hid (box_at HQ1.out hb)
              have HT2 := Lib.hid (box_at HT1.out hb)
              have HO2 := Lib.hid (HO1.out.ext hb)
              have HK2 := Lib.hid (HK1.out.ext hb)
              have HM2 := Lib.hid (HM1.out.ext hb)
              have HU2 := Lib.hid (HU1.out.ext hb)
              have HB2 := Lib.hid (below_ext HB1.out hb)
              have HZ2 := Lib.hid (Nat.le_trans HZ1.out (Below.size hb))
              have HC2 := Lib.hid (HC1.out.ext hb)
              have HY2 := Lib.hid (show W2.heap[W1.heap.size]? = some (.cells #[.int .i64 sk.v, .int .i64 sk.h, .slice A1 sk.rows.length c1] 30 (0, 0)) by rw [hW2]; exact heap_at _ _ rfl)
              have HYB := Lib.hid (show wr.heap.size ≤ W1.heap.size from HZ1.out)
              clear hb hW2
              refine hK.out _ _ (HS.out _ HX2.out HQ2.out) (fun hHeld => ?_)
              clear hK K
              try simp only [Act.put, List.setIfInBounds_toArray, List.set_cons_zero, List.set_cons_succ]
              refine wpAnyH_ready (rs := [3]) (by kernel_rfl) (by simp) ?_
              refine consH rfl (fun K hK => ?_) AllReadyH.nil
              go_simp
              obtain ⟨W3, hW3⟩ : ∃ W3, W3 = W2.alloc (.cells #[.int .i64 x.k, .int .i64 x.a, .int .i64 x.b, .int .i64 x.c, .slice Ac x.row.length cc] 34) := ⟨_, rfl⟩
              rw [← hW3]
              have hb : Below W2.heap.size W2 W3 := by rw [hW3]; exact (Below.refl _ _).alloc (Nat.le_refl _) _
              have HX3 := Lib.hid (box_at HX2.out hb)
              have HQ3 := Lib.hid (box_at HQ2.out hb)
              have HT3 := Lib.hid (box_at HT2.out hb)
              have HO3 := Lib.hid (HO2.out.ext hb)
              have HK3 := Lib.hid (HK2.out.ext hb)
              have HM3 := Lib.hid (HM2.out.ext hb)
              have HU3 := Lib.hid (HU2.out.ext hb)
              have HB3 := Lib.hid (below_ext HB2.out hb)
              have HZ3 := Lib.hid (Nat.le_trans HZ2.out (Below.size hb))
              have HC3 := Lib.hid (HC2.out.ext hb)
              have HY3 := Lib.hid (box_at HY2.out hb)
              have HP3 := Lib.hid (show W3.heap[W2.heap.size]? = some (.cells #[.int .i64 x.k, .int .i64 x.a, .int .i64 x.b, .int .i64 x.c, .slice Ac x.row.length cc] 34 (0, 0)) by rw [hW3]; exact heap_at _ _ rfl)
              clear hb hW3
              refine hK.out _ _ (HS.out _ HX3.out HQ3.out) (fun hHeld => ?_)
              clear hK K
              try simp only [Act.put, List.setIfInBounds_toArray, List.set_cons_zero, List.set_cons_succ]
              refine wpAnyH_ready (rs := [4]) (by kernel_rfl) (by simp) ?_
              refine consH rfl (fun K hK => ?_) AllReadyH.nil
              refine step_appendStpG rfl (.tmp 62) (.tmp 65) rfl (w.heap.size + 1) W3 (.slice A8 0 c8) (.slice Ac x.row.length cc) lf us x W2.heap.size HO3.out HC3.out HFR.out (by rw [HLF.out]; omega) (by have := HZ3.out; omega) rfl rfl HP3.out ?_
              intro g4 cap4 W4 hown hg hb
              rw [HLF.out] at hown ⊢
              have HX4 := Lib.hid (far_block hg HLT8.out HX3.out (Nat.le_refl _))
              have HQ4 := Lib.hid (far_below hb HQ3.out (by omega))
              have HT4 := Lib.hid (far_block hg HLT8.out HT3.out HBT.out)
              have HK4 := Lib.hid (HK3.out.keptT (by decide) (by decide) (by decide) HO3.out.outer hg)
              have HM4 := Lib.hid (HM3.out.keptT (by decide) (by decide) HO3.out.outer hg)
              have HU4 := Lib.hid (HU3.out.keptT (by decide) (by decide) HO3.out.outer hg)
              have HB4 := Lib.hid (HB3.out.trans (hb.mono (by omega)))
              have HZ4 := Lib.hid (Nat.le_trans HZ3.out hb.size)
              have HO4 := Lib.hid hown
              have HY4 := Lib.hid (far_block hg HLT8.out HY3.out HYB.out)
              clear hown hg hb
              refine hK.out _ _ (HS.out _ HX4.out HQ4.out) (fun hHeld => ?_)
              clear hK K
              try simp only [Act.put, List.setIfInBounds_toArray, List.set_cons_zero, List.set_cons_succ]
              refine wpAnyH_ready (rs := [8]) (by kernel_rfl) (by simp) ?_
              refine consH rfl (fun K hK => ?_) AllReadyH.nil
              refine step_appendKSy rfl (.tmp 67) (.tmp 69) rfl (w.heap.size + 1) w W4 (.slice A9 0 c9) A1 c1 ls vs sk W1.heap.size HK4.out HM4.out (by rw [HLS.out]; omega) (by have := HZ4.out; omega) rfl rfl HY4.out ?_
              intro g5 cap5 W5 hown hg hb
              rw [HLS.out] at hown ⊢
              have HX5 := Lib.hid (far_block hg HLT9.out HX4.out (Nat.le_refl _))
              have HQ5 := Lib.hid (far_below hb HQ4.out (by omega))
              have HT5 := Lib.hid (far_block hg HLT9.out HT4.out HBT.out)
              have HO5 := Lib.hid (HO4.out.keptT (by decide) (by decide) HK4.out.outer hg)
              have HU5 := Lib.hid (HU4.out.keptT (by decide) (by decide) HK4.out.outer hg)
              have HB5 := Lib.hid (HB4.out.trans (hb.mono (by omega)))
              have HK5 := Lib.hid hown
              clear hown hg hb
              refine hK.out _ _ (HS.out _ HX5.out HQ5.out) (fun hHeld => ?_)
              clear hK K
              try simp only [Act.put, List.setIfInBounds_toArray, List.set_cons_zero, List.set_cons_succ]
              refine wpAnyH_ready (rs := [9]) (by kernel_rfl) (by simp) ?_
              refine consH rfl (fun K hK => ?_) AllReadyH.nil
              go_simp
              refine hK.out _ _ (HS.out _ HX5.out HQ5.out) (fun hHeld => ?_)
              clear hK K
              try simp only [Act.put, List.setIfInBounds_toArray, List.set_cons_zero, List.set_cons_succ]
              refine wpAnyH_ready (rs := [10]) (by kernel_rfl) (by simp) ?_
              refine consH rfl (fun K hK => ?_) AllReadyH.nil
              go_simp
              refine hK.out _ _ (HS.out _ HX5.out HQ5.out) (fun hHeld => ?_)
              clear hK K
              try simp only [Act.put, List.setIfInBounds_toArray, List.set_cons_zero, List.set_cons_succ]
              refine wpAnyH_done (by kernel_rfl) ?_ _
              clear hHeld
              obtain ⟨f0, f1, f2⟩ := cells_3 HT5.out
              obtain ⟨d0, d1, d2, e0, e1, e2⟩ := cells3 HQ5.out
              go_wp2
              have hfin : CRel p s xs w (k + 1) (0 + 1) (.slice (some ⟨g4, 0, none⟩) (0 + 1) cap4) (.slice (some ⟨g5, 0, none⟩) (0 + 1) cap5) (((W5.setCell ⟨w.heap.size, 0, none⟩ (.int .i64 sn.v)).setCell ⟨w.heap.size, 1, none⟩ (.int .i64 sn.h)).setCell ⟨w.heap.size, 2, none⟩ (.slice A6 sn.rows.length c6)) := by
                have hsame : ∀ j, w.heap.size + 1 ≤ j → (((W5.setCell ⟨w.heap.size, 0, none⟩ (.int .i64 sn.v)).setCell ⟨w.heap.size, 1, none⟩ (.int .i64 sn.h)).setCell ⟨w.heap.size, 2, none⟩ (.slice A6 sn.rows.length c6)).heap[j]? = W5.heap[j]? := fun j hj => by
                  rw [heap_setCell_other _ _ _ _ (by simp <;> omega), heap_setCell_other _ _ _ _ (by simp <;> omega), heap_setCell_other _ _ _ _ (by simp <;> omega)]
                refine ⟨HKB.out, by rw [HNEW.out, List.length_append, ← HN.out]; rfl, ⟨_, cap4, us ++ [.slice Ac x.row.length cc], rfl, ?_⟩, ⟨_, cap5, vs ++ [.slice A1 sk.rows.length c1], rfl, ?_⟩, ⟨A6, c6, ?_, Or.inr ?_⟩, below_set3' HB5.out (Nat.le_refl _) _ _ _⟩
                · rw [HNEW.out, List.map_append, ← HLFD.out]; exact HO5.out.same hsame
                · rw [HNEW.out, List.map_append, ← HLSD.out]; exact HK5.out.same hsame
                · rw [sysAt_succ HXK.out, ← HSK.out, ← HSN.out]; exact set3_block HQ5.out
                · rw [sysAt_succ HXK.out, ← HSK.out, ← HSN.out]; exact HU5.out.same hsame
              have HFIN := Lib.hid hfin
              clear hfin
              go_roundw
              case rel => exact ⟨k + 1, 0 + 1, by omega, by go_num, HFIN.out⟩
              case measure => simp [intOf]; omega
          · go_simp
            obtain ⟨W1, hW1⟩ : ∃ W1, W1 = W0.alloc (.cells #[.int .i64 sk.v, .int .i64 sk.h, .slice A1 sk.rows.length c1] 30) := ⟨_, rfl⟩
            rw [← hW1]
            have hb : Below W0.heap.size W0 W1 := by rw [hW1]; exact (Below.refl _ _).alloc (Nat.le_refl _) _
            have HX1 := Lib.hid (box_at HX0.out hb)
            have HQ1 := Lib.hid (box_at HQ0.out hb)
            have HT1 := Lib.hid (box_at HT0.out hb)
            have HO1 := Lib.hid (HO0.out.ext hb)
            have HK1 := Lib.hid (HK0.out.ext hb)
            have HM1 := Lib.hid (HM0.out.ext hb)
            have HU1 := Lib.hid (HU0.out.ext hb)
            have HB1 := Lib.hid (below_ext HB0.out hb)
            have HZ1 := Lib.hid (Nat.le_trans HZ0.out (Below.size hb))
            have HY1 := Lib.hid (show W1.heap[W0.heap.size]? = some (.cells #[.int .i64 sk.v, .int .i64 sk.h, .slice A1 sk.rows.length c1] 30 (0, 0)) by rw [hW1]; exact heap_at _ _ rfl)
            have HYB := Lib.hid (show wr.heap.size ≤ W0.heap.size from HZ0.out)
            clear hb hW1
            refine hK.out _ _ (HS.out _ HX1.out HQ1.out) (fun hHeld => ?_)
            clear hK K
            try simp only [Act.put, List.setIfInBounds_toArray, List.set_cons_zero, List.set_cons_succ]
            refine wpAnyH_ready (rs := [2]) (by kernel_rfl) (by simp) ?_
            refine consH rfl (fun K hK => ?_) AllReadyH.nil
            go_simp
            refine (copyStep_any x A' cap' _ (HIN.out.ext HB1.out) HRW.out).mono ?_
            rintro e W2 ⟨Ac, cc, rfl, hu, hb⟩
            have HX2 := Lib.hid (box_at HX1.out hb)
            have HQ2 := Lib.hid (box_at HQ1.out hb)
            have HT2 := Lib.hid (box_at HT1.out hb)
            have HO2 := Lib.hid (HO1.out.ext hb)
            have HK2 := Lib.hid (HK1.out.ext hb)
            have HM2 := Lib.hid (HM1.out.ext hb)
            have HU2 := Lib.hid (HU1.out.ext hb)
            have HB2 := Lib.hid (below_ext HB1.out hb)
            have HZ2 := Lib.hid (Nat.le_trans HZ1.out (Below.size hb))
            have HY2 := Lib.hid (box_at HY1.out hb)
            have HC2 := Lib.hid (hu.mono (B' := w.heap.size + 1) (by have := HZ1.out; omega))
            have HFR := Lib.hid (HO1.out.fresh hu)
            clear hu hb
            go_simp
            refine hK.out _ _ (HS.out _ HX2.out HQ2.out) (fun hHeld => ?_)
            clear hK K
            try simp only [Act.put, List.setIfInBounds_toArray, List.set_cons_zero, List.set_cons_succ]
            refine wpAnyH_ready (rs := [3]) (by kernel_rfl) (by simp) ?_
            refine consH rfl (fun K hK => ?_) AllReadyH.nil
            go_simp
            obtain ⟨W3, hW3⟩ : ∃ W3, W3 = W2.alloc (.cells #[.int .i64 x.k, .int .i64 x.a, .int .i64 x.b, .int .i64 x.c, .slice Ac x.row.length cc] 34) := ⟨_, rfl⟩
            rw [← hW3]
            have hb : Below W2.heap.size W2 W3 := by rw [hW3]; exact (Below.refl _ _).alloc (Nat.le_refl _) _
            have HX3 := Lib.hid (box_at HX2.out hb)
            have HQ3 := Lib.hid (box_at HQ2.out hb)
            have HT3 := Lib.hid (box_at HT2.out hb)
            have HO3 := Lib.hid (HO2.out.ext hb)
            have HK3 := Lib.hid (HK2.out.ext hb)
            have HM3 := Lib.hid (HM2.out.ext hb)
            have HU3 := Lib.hid (HU2.out.ext hb)
            have HB3 := Lib.hid (below_ext HB2.out hb)
            have HZ3 := Lib.hid (Nat.le_trans HZ2.out (Below.size hb))
            have HC3 := Lib.hid (HC2.out.ext hb)
            have HY3 := Lib.hid (box_at HY2.out hb)
            have HP3 := Lib.hid (show W3.heap[W2.heap.size]? = some (.cells #[.int .i64 x.k, .int .i64 x.a, .int .i64 x.b, .int .i64 x.c, .slice Ac x.row.length cc] 34 (0, 0)) by rw [hW3]; exact heap_at _ _ rfl)
            clear hb hW3
            refine hK.out _ _ (HS.out _ HX3.out HQ3.out) (fun hHeld => ?_)
            clear hK K
            try simp only [Act.put, List.setIfInBounds_toArray, List.set_cons_zero, List.set_cons_succ]
            refine wpAnyH_ready (rs := [4]) (by kernel_rfl) (by simp) ?_
            refine consH rfl (fun K hK => ?_) AllReadyH.nil
            refine step_appendStpG rfl (.tmp 62) (.tmp 65) rfl (w.heap.size + 1) W3 (.slice A8 0 c8) (.slice Ac x.row.length cc) lf us x W2.heap.size HO3.out HC3.out HFR.out (by rw [HLF.out]; omega) (by have := HZ3.out; omega) rfl rfl HP3.out ?_
            intro g4 cap4 W4 hown hg hb
            rw [HLF.out] at hown ⊢
            have HX4 := Lib.hid (far_block hg HLT8.out HX3.out (Nat.le_refl _))
            have HQ4 := Lib.hid (far_below hb HQ3.out (by omega))
            have HT4 := Lib.hid (far_block hg HLT8.out HT3.out HBT.out)
            have HK4 := Lib.hid (HK3.out.keptT (by decide) (by decide) (by decide) HO3.out.outer hg)
            have HM4 := Lib.hid (HM3.out.keptT (by decide) (by decide) HO3.out.outer hg)
            have HU4 := Lib.hid (HU3.out.keptT (by decide) (by decide) HO3.out.outer hg)
            have HB4 := Lib.hid (HB3.out.trans (hb.mono (by omega)))
            have HZ4 := Lib.hid (Nat.le_trans HZ3.out hb.size)
            have HO4 := Lib.hid hown
            have HY4 := Lib.hid (far_block hg HLT8.out HY3.out HYB.out)
            clear hown hg hb
            refine hK.out _ _ (HS.out _ HX4.out HQ4.out) (fun hHeld => ?_)
            clear hK K
            try simp only [Act.put, List.setIfInBounds_toArray, List.set_cons_zero, List.set_cons_succ]
            refine wpAnyH_ready (rs := [8]) (by kernel_rfl) (by simp) ?_
            refine consH rfl (fun K hK => ?_) AllReadyH.nil
            refine step_appendKSy rfl (.tmp 67) (.tmp 69) rfl (w.heap.size + 1) w W4 (.slice A9 0 c9) A1 c1 ls vs sk W0.heap.size HK4.out HM4.out (by rw [HLS.out]; omega) (by have := HZ4.out; omega) rfl rfl HY4.out ?_
            intro g5 cap5 W5 hown hg hb
            rw [HLS.out] at hown ⊢
            have HX5 := Lib.hid (far_block hg HLT9.out HX4.out (Nat.le_refl _))
            have HQ5 := Lib.hid (far_below hb HQ4.out (by omega))
            have HT5 := Lib.hid (far_block hg HLT9.out HT4.out HBT.out)
            have HO5 := Lib.hid (HO4.out.keptT (by decide) (by decide) HK4.out.outer hg)
            have HU5 := Lib.hid (HU4.out.keptT (by decide) (by decide) HK4.out.outer hg)
            have HB5 := Lib.hid (HB4.out.trans (hb.mono (by omega)))
            have HK5 := Lib.hid hown
            clear hown hg hb
            refine hK.out _ _ (HS.out _ HX5.out HQ5.out) (fun hHeld => ?_)
            clear hK K
            try simp only [Act.put, List.setIfInBounds_toArray, List.set_cons_zero, List.set_cons_succ]
            refine wpAnyH_ready (rs := [9]) (by kernel_rfl) (by simp) ?_
            refine consH rfl (fun K hK => ?_) AllReadyH.nil
            go_simp
            refine hK.out _ _ (HS.out _ HX5.out HQ5.out) (fun hHeld => ?_)
            clear hK K
            try simp only [Act.put, List.setIfInBounds_toArray, List.set_cons_zero, List.set_cons_succ]
            refine wpAnyH_ready (rs := [10]) (by kernel_rfl) (by simp) ?_
            refine consH rfl (fun K hK => ?_) AllReadyH.nil
            go_simp
            refine hK.out _ _ (HS.out _ HX5.out HQ5.out) (fun hHeld => ?_)
            clear hK K
            try simp only [Act.put, List.setIfInBounds_toArray, List.set_cons_zero, List.set_cons_succ]
            refine wpAnyH_done (by kernel_rfl) ?_ _
            clear hHeld
            obtain ⟨f0, f1, f2⟩ := cells_3 HT5.out
            obtain ⟨d0, d1, d2, e0, e1, e2⟩ := cells3 HQ5.out
            go_wp2
            have hfin : CRel p s xs w (k + 1) (0 + 1) (.slice (some ⟨g4, 0, none⟩) (0 + 1) cap4) (.slice (some ⟨g5, 0, none⟩) (0 + 1) cap5) (((W5.setCell ⟨w.heap.size, 0, none⟩ (.int .i64 sn.v)).setCell ⟨w.heap.size, 1, none⟩ (.int .i64 sn.h)).setCell ⟨w.heap.size, 2, none⟩ (.slice A6 sn.rows.length c6)) := by
              have hsame : ∀ j, w.heap.size + 1 ≤ j → (((W5.setCell ⟨w.heap.size, 0, none⟩ (.int .i64 sn.v)).setCell ⟨w.heap.size, 1, none⟩ (.int .i64 sn.h)).setCell ⟨w.heap.size, 2, none⟩ (.slice A6 sn.rows.length c6)).heap[j]? = W5.heap[j]? := fun j hj => by
                rw [heap_setCell_other _ _ _ _ (by simp <;> omega), heap_setCell_other _ _ _ _ (by simp <;> omega), heap_setCell_other _ _ _ _ (by simp <;> omega)]
              refine ⟨HKB.out, by rw [HNEW.out, List.length_append, ← HN.out]; rfl, ⟨_, cap4, us ++ [.slice Ac x.row.length cc], rfl, ?_⟩, ⟨_, cap5, vs ++ [.slice A1 sk.rows.length c1], rfl, ?_⟩, ⟨A6, c6, ?_, Or.inr ?_⟩, below_set3' HB5.out (Nat.le_refl _) _ _ _⟩
              · rw [HNEW.out, List.map_append, ← HLFD.out]; exact HO5.out.same hsame
              · rw [HNEW.out, List.map_append, ← HLSD.out]; exact HK5.out.same hsame
              · rw [sysAt_succ HXK.out, ← HSK.out, ← HSN.out]; exact set3_block HQ5.out
              · rw [sysAt_succ HXK.out, ← HSK.out, ← HSN.out]; exact HU5.out.same hsame
            have HFIN := Lib.hid hfin
            clear hfin
            go_roundw
            case rel => exact ⟨k + 1, 0 + 1, by omega, by go_num, HFIN.out⟩
            case measure => simp [intOf]; omega
        · obtain ⟨l, hl⟩ : ∃ l, n = l + 1 := ⟨n - 1, by omega⟩
          have hln : l < n := by omega
          have hnn : n ≤ 3000 := by omega
          have hn1 : (n : Int) - 1 = (l : Int) := by omega
          have hl0 : (0 : Int) ≤ (l : Int) := by omega
          obtain ⟨q, hq⟩ := get_of_lt (show l < (cmpL p s xs k).length by have := HN.out; omega)
          obtain ⟨y, t⟩ := q
          obtain ⟨hy1, hy2, hy3⟩ := cmpL_mem HOK.out k hk1 _ (List.mem_of_getElem? hq)
          have HYW := Lib.hid (HMS.out y hy1); have HTO := Lib.hid hy2; have HYO := Lib.hid hy3
          have hyl : lf[l]? = some y := by rw [HLFD.out, List.getElem?_map, hq]; rfl
          have htl : ls[l]? = some t := by rw [HLSD.out, List.getElem?_map, hq]; rfl
          have HLAST := Lib.hid (show cmpL p s xs (k + 1) = if stpSame (undoTo p t y) x = true then (cmpL p s xs k).take l else cmpL p s xs k ++ [(x, sk)] by
            rw [cmpL_succ HXK.out, cmpTo_last (by rw [← HN.out, hl]) hq, HSK.out])
          obtain ⟨g8, rfl, hc8, hm8, -⟩ := HO4.out.form (by rw [HLF.out]; exact hnp)
          obtain ⟨g9, rfl, hc9, hm9, -⟩ := HK4.out.form (by rw [HLS.out]; exact hnp)
          obtain ⟨Ay, cy, ⟨y0, y1, y2, y3, y4⟩, hyr⟩ := HO4.out.at5 HLF.out.symm hyl
          obtain ⟨At, ct, ⟨t0, t1, t2⟩, htk⟩ := HK4.out.at3 HLS.out.symm htl
          have HYR := Lib.hid hyr; have HTK := Lib.hid htk
          obtain ⟨yn, hyn⟩ : ∃ yn, yn = undoTo p t y := ⟨_, rfl⟩
          have HYNL := Lib.hid (show yn.row.length ≤ 1000 by rw [hyn]; exact uR_len hy2.small)
          have UD := fun (A cap W XA xcap h1 h2 h3) => undS_yes p t y A cap W XA xcap h1 h2 h3 HYW.out HTO.out HYO.out
          rw [← hyn] at UD HLAST
          have UDW := Lib.hid (fun (W : World) (h : Below W4.heap.size W4 W) => UD At ct W Ay cy (HP.out.ext (below_ext HB4.out h)) ((HTK.out.rows HB4.out).ext h) (HYR.out.ext h))
          have HS10 := Lib.hid (fun (W : World) (h : Below W4.heap.size W4 W) => (⟨ext_cell h t0, ext_cell h t1, ext_cell h t2, ext_cell h y0, ext_cell h y1, ext_cell h y2, ext_cell h y3, ext_cell h y4⟩ : W.cell? ⟨g9, l * 3, none⟩ = some (.int .i64 t.v) ∧ W.cell? ⟨g9, l * 3 + 1, none⟩ = some (.int .i64 t.h) ∧ W.cell? ⟨g9, l * 3 + 2, none⟩ = some (.slice At t.rows.length ct) ∧ W.cell? ⟨g8, l * 5, none⟩ = some (.int .i64 y.k) ∧ W.cell? ⟨g8, l * 5 + 1, none⟩ = some (.int .i64 y.a) ∧ W.cell? ⟨g8, l * 5 + 2, none⟩ = some (.int .i64 y.b) ∧ W.cell? ⟨g8, l * 5 + 3, none⟩ = some (.int .i64 y.c) ∧ W.cell? ⟨g8, l * 5 + 4, none⟩ = some (.slice Ay y.row.length cy)))
          have HLN := Lib.hid hl
          clear UD hyr htk hyn hyl htl hy1 hy2 hy3 hq t0 t1 t2 y0 y1 y2 y3 y4 hl
          go_wp2
          have LD := Lib.hid ((Below.refl W4.heap.size W4).drew)
          have LA := Lib.hid (fun o => ((Below.refl W4.heap.size W4).alloc (Nat.le_refl _) o).drew)
          go_cut [15, 16] from 39 to 51 (fun z8 z9 W => ResP W4 yn.k yn.a yn.b yn.c yn.row true z8 z9 W)
          case first =>
            go_region_held3 (fun W => W.cell? ⟨g9, l * 3, none⟩ = some (.int .i64 t.v) ∧ W.cell? ⟨g9, l * 3 + 1, none⟩ = some (.int .i64 t.h) ∧ W.cell? ⟨g9, l * 3 + 2, none⟩ = some (.slice At t.rows.length ct) ∧ W.cell? ⟨g8, l * 5, none⟩ = some (.int .i64 y.k) ∧ W.cell? ⟨g8, l * 5 + 1, none⟩ = some (.int .i64 y.a) ∧ W.cell? ⟨g8, l * 5 + 2, none⟩ = some (.int .i64 y.b) ∧ W.cell? ⟨g8, l * 5 + 3, none⟩ = some (.int .i64 y.c) ∧ W.cell? ⟨g8, l * 5 + 4, none⟩ = some (.slice Ay y.row.length cy)) (first | with_reducible exact HS10.out _ LD.out | with_reducible exact HS10.out _ (LA.out _) | with_reducible exact HS10.out _ HD.out | with_reducible exact HS10.out _ (HD.out.alloc HD.out.size _) | with_reducible exact HS10.out _ (below_set5 HD.out B8.out.1 _ _ _ _ _))
              (first | (go_at_call 64; first | ((with_reducible refine (UDW.out (World.drew (World.alloc W4 _)) (LA.out _)).mono ?_); rintro e w5 ⟨A10, c10, rfl, hu, hb5⟩; have Q8 := Lib.hid (box_at (heapDrew W4 _) hb5); have B8 := Lib.hid (And.intro (Nat.le_refl W4.heap.size) (Nat.le_refl (W4.heap.size + 1))); have HU8 := Lib.hid (ownDrew hu); have HD := Lib.hid (below_ext (LA.out _) hb5); have S5 := Lib.hid (szDrew hb5).2; clear hb5 hu; obtain ⟨⟨g0, g1, g2, g3, g4⟩, f0, f1, f2, f3, f4⟩ := box5 (Below.refl _ _) Q8.out) | ((with_reducible refine (UDW.out (World.drew W4) LD.out).mono ?_); rintro e w5 ⟨A10, c10, rfl, hu, hb5⟩; have HU8 := Lib.hid hu; have HD := Lib.hid (below_ext LD.out hb5); have S5 := Lib.hid hb5.size; clear hb5 hu)))
            all_goals
              go_wp2_with fail
              go_meet
              first | exact ResP.late HD.out HU8.out LD.out.size S5.out | exact ResP.early HD.out HU8.out Q8.out B8.out S5.out
          case rest =>
            obtain ⟨b15, l15, h15, A10, c10, rfl, rfl, hbc, -, hx15, hi15⟩ := hcut
            obtain ⟨A10', c10', e10, hir, _⟩ := hi15.own.view
            cases e10
            have HBC := Lib.hid hbc
            have HIR := Lib.hid hir
            have EQ := Lib.hid (equalSteps_any yn x A10 A' c10 cap' _ HIR.out (HIN.out.ext (below_ext HB4.out HBC.out)) (by have := HYNL.out; unfold maxLen; omega) (len_max HRW.out))
            obtain ⟨z0, z1, z2, z3, z4⟩ := cells_5 hx15
            obtain ⟨x0, x1, x2, x3, x4⟩ := cells_5 (box_at HX4.out hbc)
            clear hbc hx15 hi15 hir LD LA
            cases hs : stpSame yn x with
            | true =>
              rw [hs] at EQ HLAST
              clear hs
              go_wp2_with (go_at_call 106; refine EQ.out.mono ?_; rintro e W5 ⟨rfl, hb⟩; have HR5 := Lib.hid (below_ext HBC.out hb); clear z0 z1 z2 z3 z4 x0 x1 x2 x3 x4 hb)
              refine wp_region_ext_lit (by kernel_rfl) (by kernel_rfl) ?_
              repeat (go_big_quiet_step (fail))
              refine wpQuiet_nil ?_
              rintro _ ⟨W, rfl⟩
              have HR6 := Lib.hid (below_ext HR5.out W.ok)
              obtain ⟨W6, hW6⟩ : ∃ W6, W6 = W.W := ⟨_, rfl⟩
              rw [← hW6] at HR6 ⊢
              clear hW6
              have HT6 := Lib.hid (box_at HT4.out HR6.out); have HQ6 := Lib.hid (box_at HQ4.out HR6.out)
              obtain ⟨f0, f1, f2⟩ := cells_3 HT6.out
              obtain ⟨d0, d1, d2, e0, e1, e2⟩ := cells3 HQ6.out
              have HNEW := Lib.hid (show cmpL p s xs (k + 1) = (cmpL p s xs k).take l by rw [HLAST.out]; first | exact if_pos rfl | exact if_pos trivial)
              go_wp2
              have hfin : CRel p s xs w (k + 1) l (.slice (some ⟨g8, 0, none⟩) l c8) (.slice (some ⟨g9, 0, none⟩) l c9) (((W6.setCell ⟨w.heap.size, 0, none⟩ (.int .i64 sn.v)).setCell ⟨w.heap.size, 1, none⟩ (.int .i64 sn.h)).setCell ⟨w.heap.size, 2, none⟩ (.slice A6 sn.rows.length c6)) := by
                have hsame : ∀ j, w.heap.size + 1 ≤ j → (((W6.setCell ⟨w.heap.size, 0, none⟩ (.int .i64 sn.v)).setCell ⟨w.heap.size, 1, none⟩ (.int .i64 sn.h)).setCell ⟨w.heap.size, 2, none⟩ (.slice A6 sn.rows.length c6)).heap[j]? = W6.heap[j]? := fun j hj => by
                  rw [heap_setCell_other _ _ _ _ (by simp <;> omega), heap_setCell_other _ _ _ _ (by simp <;> omega), heap_setCell_other _ _ _ _ (by simp <;> omega)]
                have ho := (HO4.out.ext HR6.out).pop (n := l) HLF.out.symm (by omega)
                have hv := (HK4.out.ext HR6.out).pop (n := l) HLS.out.symm (by omega)
                rw [HLFD.out] at ho
                rw [HLSD.out] at hv
                refine ⟨HKB.out, by rw [HNEW.out, List.length_take]; have := HN.out; omega, ⟨_, c8, us.take l, rfl, ?_⟩, ⟨_, c9, vs.take l, rfl, ?_⟩, ⟨A6, c6, ?_, Or.inr ?_⟩, below_set3' (below_ext HB4.out HR6.out) (Nat.le_refl _) _ _ _⟩
                · rw [HNEW.out, List.map_take]; exact ho.same hsame
                · rw [HNEW.out, List.map_take]; exact hv.same hsame
                · rw [sysAt_succ HXK.out, ← HSK.out, ← HSN.out]; exact set3_block HQ6.out
                · rw [sysAt_succ HXK.out, ← HSK.out, ← HSN.out]; exact (HU4.out.ext HR6.out).same hsame
              have HFIN := Lib.hid hfin
              clear hfin
              go_roundw
              case rel => exact ⟨k + 1, l, by omega, by go_num, HFIN.out⟩
              case measure => simp [intOf]; omega
            | false =>
              rw [hs] at EQ HLAST
              clear hs
              have HNEW := Lib.hid (show cmpL p s xs (k + 1) = cmpL p s xs k ++ [(x, sk)] by rw [HLAST.out]; first | exact if_neg (by decide) | exact if_neg not_false)
              go_wp2_with (go_at_call 106; refine EQ.out.mono ?_; rintro e W5 ⟨rfl, hb⟩; have HR5 := Lib.hid (below_ext HBC.out hb); clear z0 z1 z2 z3 z4 x0 x1 x2 x3 x4 hb)
              have HX5 := Lib.hid (box_at HX4.out HR5.out); have HQ5 := Lib.hid (box_at HQ4.out HR5.out); have HT5 := Lib.hid (box_at HT4.out HR5.out)
              have HO5 := Lib.hid (HO4.out.ext HR5.out); have HK5 := Lib.hid (HK4.out.ext HR5.out); have HM5 := Lib.hid (HM4.out.ext HR5.out); have HU5 := Lib.hid (HU4.out.ext HR5.out); have HB5 := Lib.hid (below_ext HB4.out HR5.out); have HZ5 := Lib.hid (Nat.le_trans HZ4.out HR5.out.size)
              refine wp_region_held_drew (S := fun W => W.cell? ⟨wr.heap.size, 0, none⟩ = some (.int .i64 x.k) ∧ W.cell? ⟨wr.heap.size, 1, none⟩ = some (.int .i64 x.a) ∧ W.cell? ⟨wr.heap.size, 2, none⟩ = some (.int .i64 x.b) ∧ W.cell? ⟨wr.heap.size, 3, none⟩ = some (.int .i64 x.c) ∧ W.cell? ⟨wr.heap.size, 4, none⟩ = some (.slice A' x.row.length cap') ∧ W.cell? ⟨w.heap.size, 0, none⟩ = some (.int .i64 sk.v) ∧ W.cell? ⟨w.heap.size, 1, none⟩ = some (.int .i64 sk.h) ∧ W.cell? ⟨w.heap.size, 2, none⟩ = some (.slice A1 sk.rows.length c1)) (by kernel_rfl) (HS.out _ (box_at HX5.out (Below.refl _ _).drew) (box_at HQ5.out (Below.refl _ _).drew)) (fun hHeld => ?_)
              obtain ⟨W0, hW0⟩ : ∃ W0, W0 = W5.drew := ⟨_, rfl⟩
              rw [← hW0] at hHeld ⊢
              have hb : Below W5.heap.size W5 W0 := by rw [hW0]; exact (Below.refl _ _).drew
              have HX0 := Lib.hid (box_at HX5.out hb)
              have HQ0 := Lib.hid (box_at HQ5.out hb)
              have HT0 := Lib.hid (box_at HT5.out hb)
              have HO0 := Lib.hid (HO5.out.ext hb)
              have HK0 := Lib.hid (HK5.out.ext hb)
              have HM0 := Lib.hid (HM5.out.ext hb)
              have HU0 := Lib.hid (HU5.out.ext hb)
              have HB0 := Lib.hid (below_ext HB5.out hb)
              have HZ0 := Lib.hid (Nat.le_trans HZ5.out hb.size)
              clear hb hW0
              refine takeH (i := 0) (v := ?_) rfl (by kernel_rfl) (by kernel_rfl) (by kernel_rfl) (Or.inl ⟨by rfl, ?_⟩) (by assumption) ?_
              rotate_left
              · intro w hSw; (try dsimp only at hSw); go_simp; (try with_reducible rfl)
              simp only [Act.put, List.setIfInBounds_toArray, List.set_cons_zero, List.set_cons_succ]
              refine takeH (i := 1) (v := ?_) rfl (by kernel_rfl) (by kernel_rfl) (by kernel_rfl) (Or.inl ⟨by rfl, ?_⟩) (by assumption) ?_
              rotate_left
              · intro w hSw; (try dsimp only at hSw); go_simp; (try with_reducible rfl)
              simp only [Act.put, List.setIfInBounds_toArray, List.set_cons_zero, List.set_cons_succ]
              refine takeH (i := 5) (v := ?_) rfl (by kernel_rfl) (by kernel_rfl) (by kernel_rfl) (Or.inl ⟨by rfl, ?_⟩) (by assumption) ?_
              rotate_left
              · intro w hSw; (try dsimp only at hSw); go_simp; (try with_reducible rfl)
              simp only [Act.put, List.setIfInBounds_toArray, List.set_cons_zero, List.set_cons_succ]
              refine takeH (i := 6) (v := ?_) rfl (by kernel_rfl) (by kernel_rfl) (by kernel_rfl) (Or.inl ⟨by rfl, ?_⟩) (by assumption) ?_
              rotate_left
              · intro w hSw; (try dsimp only at hSw); go_simp; (try with_reducible rfl)
              simp only [Act.put, List.setIfInBounds_toArray, List.set_cons_zero, List.set_cons_succ]
              refine wpAnyH_ready (rs := [2, 7]) (by kernel_rfl) (by simp) ?_
              refine consH rfl (fun K hK => ?_) (consH rfl (fun K hK => ?_) AllReadyH.nil)
              · go_simp
                refine (copyStep_any x A' cap' _ (HIN.out.ext HB0.out) HRW.out).mono ?_
                rintro e W1 ⟨Ac, cc, rfl, hu, hb⟩
                have HX1 := Lib.hid (box_at HX0.out hb)
                have HQ1 := Lib.hid (box_at HQ0.out hb)
                have HT1 := Lib.hid (box_at HT0.out hb)
                have HO1 := Lib.hid (HO0.out.ext hb)
                have HK1 := Lib.hid (HK0.out.ext hb)
                have HM1 := Lib.hid (HM0.out.ext hb)
                have HU1 := Lib.hid (HU0.out.ext hb)
                have HB1 := Lib.hid (below_ext HB0.out hb)
                have HZ1 := Lib.hid (Nat.le_trans HZ0.out (Below.size hb))
                have HC1 := Lib.hid (hu.mono (B' := w.heap.size + 1) (by have := HZ0.out; omega))
                have HFR := Lib.hid (HO0.out.fresh hu)
                clear hu hb
                go_simp
                refine hK.out _ _ (HS.out _ HX1.out HQ1.out) (fun hHeld => ?_)
                clear hK K
                try simp only [Act.put, List.setIfInBounds_toArray, List.set_cons_zero, List.set_cons_succ]
                refine wpAnyH_ready (rs := [3, 7]) (by kernel_rfl) (by simp) ?_
                refine consH rfl (fun K hK => ?_) (consH rfl (fun K hK => ?_) AllReadyH.nil)
                · go_simp
                  obtain ⟨W2, hW2⟩ : ∃ W2, W2 = W1.alloc (.cells #[.int .i64 x.k, .int .i64 x.a, .int .i64 x.b, .int .i64 x.c, .slice Ac x.row.length cc] 34) := ⟨_, rfl⟩
                  rw [← hW2]
                  have hb : Below W1.heap.size W1 W2 := by rw [hW2]; exact (Below.refl _ _).alloc (Nat.le_refl _) _
                  have HX2 := Lib.hid (box_at HX1.out hb)
                  have HQ2 := Lib.hid (box_at HQ1.out hb)
                  have HT2 := Lib.hid (box_at HT1.out hb)
                  have HO2 := Lib.hid (HO1.out.ext hb)
                  have HK2 := Lib.hid (HK1.out.ext hb)
                  have HM2 := Lib.hid (HM1.out.ext hb)
                  have HU2 := Lib.hid (HU1.out.ext hb)
                  have HB2 := Lib.hid (below_ext HB1.out hb)
                  have HZ2 := Lib.hid (Nat.le_trans HZ1.out (Below.size hb))
                  have HC2 := Lib.hid (HC1.out.ext hb)
                  have HP2 := Lib.hid (show W2.heap[W1.heap.size]? = some (.cells #[.int .i64 x.k, .int .i64 x.a, .int .i64 x.b, .int .i64 x.c, .slice Ac x.row.length cc] 34 (0, 0)) by rw [hW2]; exact heap_at _ _ rfl)
                  clear hb hW2
                  refine hK.out _ _ (HS.out _ HX2.out HQ2.out) (fun hHeld => ?_)
                  clear hK K
                  try simp only [Act.put, List.setIfInBounds_toArray, List.set_cons_zero, List.set_cons_succ]
                  refine wpAnyH_ready (rs := [4, 7]) (by kernel_rfl) (by simp) ?_
                  refine consH rfl (fun K hK => ?_) (consH rfl (fun K hK => ?_) AllReadyH.nil)
                  · refine step_appendStpG rfl (.tmp 62) (.tmp 65) rfl (w.heap.size + 1) W2 (.slice (some ⟨g8, 0, none⟩) n c8) (.slice Ac x.row.length cc) lf us x W1.heap.size HO2.out HC2.out HFR.out (by rw [HLF.out]; omega) (by have := HZ2.out; omega) rfl rfl HP2.out ?_
                    intro g4 cap4 W3 hown hg hb
                    rw [HLF.out] at hown ⊢
                    have HX3 := Lib.hid (far_block hg HLT8.out HX2.out (Nat.le_refl _))
                    have HQ3 := Lib.hid (far_below hb HQ2.out (by omega))
                    have HT3 := Lib.hid (far_block hg HLT8.out HT2.out HBT.out)
                    have HK3 := Lib.hid (HK2.out.keptT (by decide) (by decide) (by decide) HO2.out.outer hg)
                    have HM3 := Lib.hid (HM2.out.keptT (by decide) (by decide) HO2.out.outer hg)
                    have HU3 := Lib.hid (HU2.out.keptT (by decide) (by decide) HO2.out.outer hg)
                    have HB3 := Lib.hid (HB2.out.trans (hb.mono (by omega)))
                    have HZ3 := Lib.hid (Nat.le_trans HZ2.out hb.size)
                    have HO3 := Lib.hid hown
                    clear hown hg hb
                    refine hK.out _ _ (HS.out _ HX3.out HQ3.out) (fun hHeld => ?_)
                    clear hK K
                    try simp only [Act.put, List.setIfInBounds_toArray, List.set_cons_zero, List.set_cons_succ]
                    refine wpAnyH_ready (rs := [7]) (by kernel_rfl) (by simp) ?_
                    refine consH rfl (fun K hK => ?_) AllReadyH.nil
                    go_simp
                    obtain ⟨W4, hW4⟩ : ∃ W4, W4 = W3.alloc (.cells #[.int .i64 sk.v, .int .i64 sk.h, .slice A1 sk.rows.length c1] 30) := ⟨_, rfl⟩
                    rw [← hW4]
                    have hb : Below W3.heap.size W3 W4 := by rw [hW4]; exact (Below.refl _ _).alloc (Nat.le_refl _) _
                    have HX4 := Lib.hid (box_at HX3.out hb)
                    have HQ4 := Lib.hid (box_at HQ3.out hb)
                    have HT4 := Lib.hid (box_at HT3.out hb)
                    have HO4 := Lib.hid (HO3.out.ext hb)
                    have HK4 := Lib.hid (HK3.out.ext hb)
                    have HM4 := Lib.hid (HM3.out.ext hb)
                    have HU4 := Lib.hid (HU3.out.ext hb)
                    have HB4 := Lib.hid (below_ext HB3.out hb)
                    have HZ4 := Lib.hid (Nat.le_trans HZ3.out (Below.size hb))
                    have HY4 := Lib.hid (show W4.heap[W3.heap.size]? = some (.cells #[.int .i64 sk.v, .int .i64 sk.h, .slice A1 sk.rows.length c1] 30 (0, 0)) by rw [hW4]; exact heap_at _ _ rfl)
                    have HYB := Lib.hid (show wr.heap.size ≤ W3.heap.size from HZ3.out)
                    clear hb hW4
                    refine hK.out _ _ (HS.out _ HX4.out HQ4.out) (fun hHeld => ?_)
                    clear hK K
                    try simp only [Act.put, List.setIfInBounds_toArray, List.set_cons_zero, List.set_cons_succ]
                    refine wpAnyH_ready (rs := [8]) (by kernel_rfl) (by simp) ?_
                    refine consH rfl (fun K hK => ?_) AllReadyH.nil
                    refine step_appendKSy rfl (.tmp 67) (.tmp 69) rfl (w.heap.size + 1) w W4 (.slice (some ⟨g9, 0, none⟩) n c9) A1 c1 ls vs sk W3.heap.size HK4.out HM4.out (by rw [HLS.out]; omega) (by have := HZ4.out; omega) rfl rfl HY4.out ?_
                    intro g5 cap5 W5 hown hg hb
                    rw [HLS.out] at hown ⊢
                    have HX5 := Lib.hid (far_block hg HLT9.out HX4.out (Nat.le_refl _))
                    have HQ5 := Lib.hid (far_below hb HQ4.out (by omega))
                    have HT5 := Lib.hid (far_block hg HLT9.out HT4.out HBT.out)
                    have HO5 := Lib.hid (HO4.out.keptT (by decide) (by decide) HK4.out.outer hg)
                    have HU5 := Lib.hid (HU4.out.keptT (by decide) (by decide) HK4.out.outer hg)
                    have HB5 := Lib.hid (HB4.out.trans (hb.mono (by omega)))
                    have HK5 := Lib.hid hown
                    clear hown hg hb
                    refine hK.out _ _ (HS.out _ HX5.out HQ5.out) (fun hHeld => ?_)
                    clear hK K
                    try simp only [Act.put, List.setIfInBounds_toArray, List.set_cons_zero, List.set_cons_succ]
                    refine wpAnyH_ready (rs := [9]) (by kernel_rfl) (by simp) ?_
                    refine consH rfl (fun K hK => ?_) AllReadyH.nil
                    go_simp
                    refine hK.out _ _ (HS.out _ HX5.out HQ5.out) (fun hHeld => ?_)
                    clear hK K
                    try simp only [Act.put, List.setIfInBounds_toArray, List.set_cons_zero, List.set_cons_succ]
                    refine wpAnyH_ready (rs := [10]) (by kernel_rfl) (by simp) ?_
                    refine consH rfl (fun K hK => ?_) AllReadyH.nil
                    go_simp
                    refine hK.out _ _ (HS.out _ HX5.out HQ5.out) (fun hHeld => ?_)
                    clear hK K
                    try simp only [Act.put, List.setIfInBounds_toArray, List.set_cons_zero, List.set_cons_succ]
                    refine wpAnyH_done (by kernel_rfl) ?_ _
                    clear hHeld
                    obtain ⟨f0, f1, f2⟩ := cells_3 HT5.out
                    obtain ⟨d0, d1, d2, e0, e1, e2⟩ := cells3 HQ5.out
                    go_wp2
                    have hfin : CRel p s xs w (k + 1) (n + 1) (.slice (some ⟨g4, 0, none⟩) (n + 1) cap4) (.slice (some ⟨g5, 0, none⟩) (n + 1) cap5) (((W5.setCell ⟨w.heap.size, 0, none⟩ (.int .i64 sn.v)).setCell ⟨w.heap.size, 1, none⟩ (.int .i64 sn.h)).setCell ⟨w.heap.size, 2, none⟩ (.slice A6 sn.rows.length c6)) := by
                      have hsame : ∀ j, w.heap.size + 1 ≤ j → (((W5.setCell ⟨w.heap.size, 0, none⟩ (.int .i64 sn.v)).setCell ⟨w.heap.size, 1, none⟩ (.int .i64 sn.h)).setCell ⟨w.heap.size, 2, none⟩ (.slice A6 sn.rows.length c6)).heap[j]? = W5.heap[j]? := fun j hj => by
                        rw [heap_setCell_other _ _ _ _ (by simp <;> omega), heap_setCell_other _ _ _ _ (by simp <;> omega), heap_setCell_other _ _ _ _ (by simp <;> omega)]
                      refine ⟨HKB.out, by rw [HNEW.out, List.length_append, ← HN.out]; rfl, ⟨_, cap4, us ++ [.slice Ac x.row.length cc], rfl, ?_⟩, ⟨_, cap5, vs ++ [.slice A1 sk.rows.length c1], rfl, ?_⟩, ⟨A6, c6, ?_, Or.inr ?_⟩, below_set3' HB5.out (Nat.le_refl _) _ _ _⟩
                      · rw [HNEW.out, List.map_append, ← HLFD.out]; exact HO5.out.same hsame
                      · rw [HNEW.out, List.map_append, ← HLSD.out]; exact HK5.out.same hsame
                      · rw [sysAt_succ HXK.out, ← HSK.out, ← HSN.out]; exact set3_block HQ5.out
                      · rw [sysAt_succ HXK.out, ← HSK.out, ← HSN.out]; exact HU5.out.same hsame
                    have HFIN := Lib.hid hfin
                    clear hfin
                    go_roundw
                    case rel => exact ⟨k + 1, n + 1, by omega, by go_num, HFIN.out⟩
                    case measure => simp [intOf]; omega
                  · go_simp
                    obtain ⟨W3, hW3⟩ : ∃ W3, W3 = W2.alloc (.cells #[.int .i64 sk.v, .int .i64 sk.h, .slice A1 sk.rows.length c1] 30) := ⟨_, rfl⟩
                    rw [← hW3]
                    have hb : Below W2.heap.size W2 W3 := by rw [hW3]; exact (Below.refl _ _).alloc (Nat.le_refl _) _
                    have HX3 := Lib.hid (box_at HX2.out hb)
                    have HQ3 := Lib.hid (box_at HQ2.out hb)
                    have HT3 := Lib.hid (box_at HT2.out hb)
                    have HO3 := Lib.hid (HO2.out.ext hb)
                    have HK3 := Lib.hid (HK2.out.ext hb)
                    have HM3 := Lib.hid (HM2.out.ext hb)
                    have HU3 := Lib.hid (HU2.out.ext hb)
                    have HB3 := Lib.hid (below_ext HB2.out hb)
                    have HZ3 := Lib.hid (Nat.le_trans HZ2.out (Below.size hb))
                    have HC3 := Lib.hid (HC2.out.ext hb)
                    have HP3 := Lib.hid (box_at HP2.out hb)
                    have HY3 := Lib.hid (show W3.heap[W2.heap.size]? = some (.cells #[.int .i64 sk.v, .int .i64 sk.h, .slice A1 sk.rows.length c1] 30 (0, 0)) by rw [hW3]; exact heap_at _ _ rfl)
                    have HYB := Lib.hid (show wr.heap.size ≤ W2.heap.size from HZ2.out)
                    clear hb hW3
                    refine hK.out _ _ (HS.out _ HX3.out HQ3.out) (fun hHeld => ?_)
                    clear hK K
                    try simp only [Act.put, List.setIfInBounds_toArray, List.set_cons_zero, List.set_cons_succ]
                    refine wpAnyH_ready (rs := [4]) (by kernel_rfl) (by simp) ?_
                    refine consH rfl (fun K hK => ?_) AllReadyH.nil
                    refine step_appendStpG rfl (.tmp 62) (.tmp 65) rfl (w.heap.size + 1) W3 (.slice (some ⟨g8, 0, none⟩) n c8) (.slice Ac x.row.length cc) lf us x W1.heap.size HO3.out HC3.out HFR.out (by rw [HLF.out]; omega) (by have := HZ3.out; omega) rfl rfl HP3.out ?_
                    intro g4 cap4 W4 hown hg hb
                    rw [HLF.out] at hown ⊢
                    have HX4 := Lib.hid (far_block hg HLT8.out HX3.out (Nat.le_refl _))
                    have HQ4 := Lib.hid (far_below hb HQ3.out (by omega))
                    have HT4 := Lib.hid (far_block hg HLT8.out HT3.out HBT.out)
                    have HK4 := Lib.hid (HK3.out.keptT (by decide) (by decide) (by decide) HO3.out.outer hg)
                    have HM4 := Lib.hid (HM3.out.keptT (by decide) (by decide) HO3.out.outer hg)
                    have HU4 := Lib.hid (HU3.out.keptT (by decide) (by decide) HO3.out.outer hg)
                    have HB4 := Lib.hid (HB3.out.trans (hb.mono (by omega)))
                    have HZ4 := Lib.hid (Nat.le_trans HZ3.out hb.size)
                    have HO4 := Lib.hid hown
                    have HY4 := Lib.hid (far_block hg HLT8.out HY3.out HYB.out)
                    clear hown hg hb
                    refine hK.out _ _ (HS.out _ HX4.out HQ4.out) (fun hHeld => ?_)
                    clear hK K
                    try simp only [Act.put, List.setIfInBounds_toArray, List.set_cons_zero, List.set_cons_succ]
                    refine wpAnyH_ready (rs := [8]) (by kernel_rfl) (by simp) ?_
                    refine consH rfl (fun K hK => ?_) AllReadyH.nil
                    refine step_appendKSy rfl (.tmp 67) (.tmp 69) rfl (w.heap.size + 1) w W4 (.slice (some ⟨g9, 0, none⟩) n c9) A1 c1 ls vs sk W2.heap.size HK4.out HM4.out (by rw [HLS.out]; omega) (by have := HZ4.out; omega) rfl rfl HY4.out ?_
                    intro g5 cap5 W5 hown hg hb
                    rw [HLS.out] at hown ⊢
                    have HX5 := Lib.hid (far_block hg HLT9.out HX4.out (Nat.le_refl _))
                    have HQ5 := Lib.hid (far_below hb HQ4.out (by omega))
                    have HT5 := Lib.hid (far_block hg HLT9.out HT4.out HBT.out)
                    have HO5 := Lib.hid (HO4.out.keptT (by decide) (by decide) HK4.out.outer hg)
                    have HU5 := Lib.hid (HU4.out.keptT (by decide) (by decide) HK4.out.outer hg)
                    have HB5 := Lib.hid (HB4.out.trans (hb.mono (by omega)))
                    have HK5 := Lib.hid hown
                    clear hown hg hb
                    refine hK.out _ _ (HS.out _ HX5.out HQ5.out) (fun hHeld => ?_)
                    clear hK K
                    try simp only [Act.put, List.setIfInBounds_toArray, List.set_cons_zero, List.set_cons_succ]
                    refine wpAnyH_ready (rs := [9]) (by kernel_rfl) (by simp) ?_
                    refine consH rfl (fun K hK => ?_) AllReadyH.nil
                    go_simp
                    refine hK.out _ _ (HS.out _ HX5.out HQ5.out) (fun hHeld => ?_)
                    clear hK K
                    try simp only [Act.put, List.setIfInBounds_toArray, List.set_cons_zero, List.set_cons_succ]
                    refine wpAnyH_ready (rs := [10]) (by kernel_rfl) (by simp) ?_
                    refine consH rfl (fun K hK => ?_) AllReadyH.nil
                    go_simp
                    refine hK.out _ _ (HS.out _ HX5.out HQ5.out) (fun hHeld => ?_)
                    clear hK K
                    try simp only [Act.put, List.setIfInBounds_toArray, List.set_cons_zero, List.set_cons_succ]
                    refine wpAnyH_done (by kernel_rfl) ?_ _
                    clear hHeld
                    obtain ⟨f0, f1, f2⟩ := cells_3 HT5.out
                    obtain ⟨d0, d1, d2, e0, e1, e2⟩ := cells3 HQ5.out
                    go_wp2
                    have hfin : CRel p s xs w (k + 1) (n + 1) (.slice (some ⟨g4, 0, none⟩) (n + 1) cap4) (.slice (some ⟨g5, 0, none⟩) (n + 1) cap5) (((W5.setCell ⟨w.heap.size, 0, none⟩ (.int .i64 sn.v)).setCell ⟨w.heap.size, 1, none⟩ (.int .i64 sn.h)).setCell ⟨w.heap.size, 2, none⟩ (.slice A6 sn.rows.length c6)) := by
                      have hsame : ∀ j, w.heap.size + 1 ≤ j → (((W5.setCell ⟨w.heap.size, 0, none⟩ (.int .i64 sn.v)).setCell ⟨w.heap.size, 1, none⟩ (.int .i64 sn.h)).setCell ⟨w.heap.size, 2, none⟩ (.slice A6 sn.rows.length c6)).heap[j]? = W5.heap[j]? := fun j hj => by
                        rw [heap_setCell_other _ _ _ _ (by simp <;> omega), heap_setCell_other _ _ _ _ (by simp <;> omega), heap_setCell_other _ _ _ _ (by simp <;> omega)]
                      refine ⟨HKB.out, by rw [HNEW.out, List.length_append, ← HN.out]; rfl, ⟨_, cap4, us ++ [.slice Ac x.row.length cc], rfl, ?_⟩, ⟨_, cap5, vs ++ [.slice A1 sk.rows.length c1], rfl, ?_⟩, ⟨A6, c6, ?_, Or.inr ?_⟩, below_set3' HB5.out (Nat.le_refl _) _ _ _⟩
                      · rw [HNEW.out, List.map_append, ← HLFD.out]; exact HO5.out.same hsame
                      · rw [HNEW.out, List.map_append, ← HLSD.out]; exact HK5.out.same hsame
                      · rw [sysAt_succ HXK.out, ← HSK.out, ← HSN.out]; exact set3_block HQ5.out
                      · rw [sysAt_succ HXK.out, ← HSK.out, ← HSN.out]; exact HU5.out.same hsame
                    have HFIN := Lib.hid hfin
                    clear hfin
                    go_roundw
                    case rel => exact ⟨k + 1, n + 1, by omega, by go_num, HFIN.out⟩
                    case measure => simp [intOf]; omega
                · go_simp
                  obtain ⟨W2, hW2⟩ : ∃ W2, W2 = W1.alloc (.cells #[.int .i64 sk.v, .int .i64 sk.h, .slice A1 sk.rows.length c1] 30) := ⟨_, rfl⟩
                  rw [← hW2]
                  have hb : Below W1.heap.size W1 W2 := by rw [hW2]; exact (Below.refl _ _).alloc (Nat.le_refl _) _
                  have HX2 := Lib.hid (box_at HX1.out hb)
                  have HQ2 := Lib.hid (box_at HQ1.out hb)
                  have HT2 := Lib.hid (box_at HT1.out hb)
                  have HO2 := Lib.hid (HO1.out.ext hb)
                  have HK2 := Lib.hid (HK1.out.ext hb)
                  have HM2 := Lib.hid (HM1.out.ext hb)
                  have HU2 := Lib.hid (HU1.out.ext hb)
                  have HB2 := Lib.hid (below_ext HB1.out hb)
                  have HZ2 := Lib.hid (Nat.le_trans HZ1.out (Below.size hb))
                  have HC2 := Lib.hid (HC1.out.ext hb)
                  have HY2 := Lib.hid (show W2.heap[W1.heap.size]? = some (.cells #[.int .i64 sk.v, .int .i64 sk.h, .slice A1 sk.rows.length c1] 30 (0, 0)) by rw [hW2]; exact heap_at _ _ rfl)
                  have HYB := Lib.hid (show wr.heap.size ≤ W1.heap.size from HZ1.out)
                  clear hb hW2
                  refine hK.out _ _ (HS.out _ HX2.out HQ2.out) (fun hHeld => ?_)
                  clear hK K
                  try simp only [Act.put, List.setIfInBounds_toArray, List.set_cons_zero, List.set_cons_succ]
                  refine wpAnyH_ready (rs := [3]) (by kernel_rfl) (by simp) ?_
                  refine consH rfl (fun K hK => ?_) AllReadyH.nil
                  go_simp
                  obtain ⟨W3, hW3⟩ : ∃ W3, W3 = W2.alloc (.cells #[.int .i64 x.k, .int .i64 x.a, .int .i64 x.b, .int .i64 x.c, .slice Ac x.row.length cc] 34) := ⟨_, rfl⟩
                  rw [← hW3]
                  have hb : Below W2.heap.size W2 W3 := by rw [hW3]; exact (Below.refl _ _).alloc (Nat.le_refl _) _
                  have HX3 := Lib.hid (box_at HX2.out hb)
                  have HQ3 := Lib.hid (box_at HQ2.out hb)
                  have HT3 := Lib.hid (box_at HT2.out hb)
                  have HO3 := Lib.hid (HO2.out.ext hb)
                  have HK3 := Lib.hid (HK2.out.ext hb)
                  have HM3 := Lib.hid (HM2.out.ext hb)
                  have HU3 := Lib.hid (HU2.out.ext hb)
                  have HB3 := Lib.hid (below_ext HB2.out hb)
                  have HZ3 := Lib.hid (Nat.le_trans HZ2.out (Below.size hb))
                  have HC3 := Lib.hid (HC2.out.ext hb)
                  have HY3 := Lib.hid (box_at HY2.out hb)
                  have HP3 := Lib.hid (show W3.heap[W2.heap.size]? = some (.cells #[.int .i64 x.k, .int .i64 x.a, .int .i64 x.b, .int .i64 x.c, .slice Ac x.row.length cc] 34 (0, 0)) by rw [hW3]; exact heap_at _ _ rfl)
                  clear hb hW3
                  refine hK.out _ _ (HS.out _ HX3.out HQ3.out) (fun hHeld => ?_)
                  clear hK K
                  try simp only [Act.put, List.setIfInBounds_toArray, List.set_cons_zero, List.set_cons_succ]
                  refine wpAnyH_ready (rs := [4]) (by kernel_rfl) (by simp) ?_
                  refine consH rfl (fun K hK => ?_) AllReadyH.nil
                  refine step_appendStpG rfl (.tmp 62) (.tmp 65) rfl (w.heap.size + 1) W3 (.slice (some ⟨g8, 0, none⟩) n c8) (.slice Ac x.row.length cc) lf us x W2.heap.size HO3.out HC3.out HFR.out (by rw [HLF.out]; omega) (by have := HZ3.out; omega) rfl rfl HP3.out ?_
                  intro g4 cap4 W4 hown hg hb
                  rw [HLF.out] at hown ⊢
                  have HX4 := Lib.hid (far_block hg HLT8.out HX3.out (Nat.le_refl _))
                  have HQ4 := Lib.hid (far_below hb HQ3.out (by omega))
                  have HT4 := Lib.hid (far_block hg HLT8.out HT3.out HBT.out)
                  have HK4 := Lib.hid (HK3.out.keptT (by decide) (by decide) (by decide) HO3.out.outer hg)
                  have HM4 := Lib.hid (HM3.out.keptT (by decide) (by decide) HO3.out.outer hg)
                  have HU4 := Lib.hid (HU3.out.keptT (by decide) (by decide) HO3.out.outer hg)
                  have HB4 := Lib.hid (HB3.out.trans (hb.mono (by omega)))
                  have HZ4 := Lib.hid (Nat.le_trans HZ3.out hb.size)
                  have HO4 := Lib.hid hown
                  have HY4 := Lib.hid (far_block hg HLT8.out HY3.out HYB.out)
                  clear hown hg hb
                  refine hK.out _ _ (HS.out _ HX4.out HQ4.out) (fun hHeld => ?_)
                  clear hK K
                  try simp only [Act.put, List.setIfInBounds_toArray, List.set_cons_zero, List.set_cons_succ]
                  refine wpAnyH_ready (rs := [8]) (by kernel_rfl) (by simp) ?_
                  refine consH rfl (fun K hK => ?_) AllReadyH.nil
                  refine step_appendKSy rfl (.tmp 67) (.tmp 69) rfl (w.heap.size + 1) w W4 (.slice (some ⟨g9, 0, none⟩) n c9) A1 c1 ls vs sk W1.heap.size HK4.out HM4.out (by rw [HLS.out]; omega) (by have := HZ4.out; omega) rfl rfl HY4.out ?_
                  intro g5 cap5 W5 hown hg hb
                  rw [HLS.out] at hown ⊢
                  have HX5 := Lib.hid (far_block hg HLT9.out HX4.out (Nat.le_refl _))
                  have HQ5 := Lib.hid (far_below hb HQ4.out (by omega))
                  have HT5 := Lib.hid (far_block hg HLT9.out HT4.out HBT.out)
                  have HO5 := Lib.hid (HO4.out.keptT (by decide) (by decide) HK4.out.outer hg)
                  have HU5 := Lib.hid (HU4.out.keptT (by decide) (by decide) HK4.out.outer hg)
                  have HB5 := Lib.hid (HB4.out.trans (hb.mono (by omega)))
                  have HK5 := Lib.hid hown
                  clear hown hg hb
                  refine hK.out _ _ (HS.out _ HX5.out HQ5.out) (fun hHeld => ?_)
                  clear hK K
                  try simp only [Act.put, List.setIfInBounds_toArray, List.set_cons_zero, List.set_cons_succ]
                  refine wpAnyH_ready (rs := [9]) (by kernel_rfl) (by simp) ?_
                  refine consH rfl (fun K hK => ?_) AllReadyH.nil
                  go_simp
                  refine hK.out _ _ (HS.out _ HX5.out HQ5.out) (fun hHeld => ?_)
                  clear hK K
                  try simp only [Act.put, List.setIfInBounds_toArray, List.set_cons_zero, List.set_cons_succ]
                  refine wpAnyH_ready (rs := [10]) (by kernel_rfl) (by simp) ?_
                  refine consH rfl (fun K hK => ?_) AllReadyH.nil
                  go_simp
                  refine hK.out _ _ (HS.out _ HX5.out HQ5.out) (fun hHeld => ?_)
                  clear hK K
                  try simp only [Act.put, List.setIfInBounds_toArray, List.set_cons_zero, List.set_cons_succ]
                  refine wpAnyH_done (by kernel_rfl) ?_ _
                  clear hHeld
                  obtain ⟨f0, f1, f2⟩ := cells_3 HT5.out
                  obtain ⟨d0, d1, d2, e0, e1, e2⟩ := cells3 HQ5.out
                  go_wp2
                  have hfin : CRel p s xs w (k + 1) (n + 1) (.slice (some ⟨g4, 0, none⟩) (n + 1) cap4) (.slice (some ⟨g5, 0, none⟩) (n + 1) cap5) (((W5.setCell ⟨w.heap.size, 0, none⟩ (.int .i64 sn.v)).setCell ⟨w.heap.size, 1, none⟩ (.int .i64 sn.h)).setCell ⟨w.heap.size, 2, none⟩ (.slice A6 sn.rows.length c6)) := by
                    have hsame : ∀ j, w.heap.size + 1 ≤ j → (((W5.setCell ⟨w.heap.size, 0, none⟩ (.int .i64 sn.v)).setCell ⟨w.heap.size, 1, none⟩ (.int .i64 sn.h)).setCell ⟨w.heap.size, 2, none⟩ (.slice A6 sn.rows.length c6)).heap[j]? = W5.heap[j]? := fun j hj => by
                      rw [heap_setCell_other _ _ _ _ (by simp <;> omega), heap_setCell_other _ _ _ _ (by simp <;> omega), heap_setCell_other _ _ _ _ (by simp <;> omega)]
                    refine ⟨HKB.out, by rw [HNEW.out, List.length_append, ← HN.out]; rfl, ⟨_, cap4, us ++ [.slice Ac x.row.length cc], rfl, ?_⟩, ⟨_, cap5, vs ++ [.slice A1 sk.rows.length c1], rfl, ?_⟩, ⟨A6, c6, ?_, Or.inr ?_⟩, below_set3' HB5.out (Nat.le_refl _) _ _ _⟩
                    · rw [HNEW.out, List.map_append, ← HLFD.out]; exact HO5.out.same hsame
                    · rw [HNEW.out, List.map_append, ← HLSD.out]; exact HK5.out.same hsame
                    · rw [sysAt_succ HXK.out, ← HSK.out, ← HSN.out]; exact set3_block HQ5.out
                    · rw [sysAt_succ HXK.out, ← HSK.out, ← HSN.out]; exact HU5.out.same hsame
                  have HFIN := Lib.hid hfin
                  clear hfin
                  go_roundw
                  case rel => exact ⟨k + 1, n + 1, by omega, by go_num, HFIN.out⟩
                  case measure => simp [intOf]; omega
              · go_simp
                obtain ⟨W1, hW1⟩ : ∃ W1, W1 = W0.alloc (.cells #[.int .i64 sk.v, .int .i64 sk.h, .slice A1 sk.rows.length c1] 30) := ⟨_, rfl⟩
                rw [← hW1]
                have hb : Below W0.heap.size W0 W1 := by rw [hW1]; exact (Below.refl _ _).alloc (Nat.le_refl _) _
                have HX1 := Lib.hid (box_at HX0.out hb)
                have HQ1 := Lib.hid (box_at HQ0.out hb)
                have HT1 := Lib.hid (box_at HT0.out hb)
                have HO1 := Lib.hid (HO0.out.ext hb)
                have HK1 := Lib.hid (HK0.out.ext hb)
                have HM1 := Lib.hid (HM0.out.ext hb)
                have HU1 := Lib.hid (HU0.out.ext hb)
                have HB1 := Lib.hid (below_ext HB0.out hb)
                have HZ1 := Lib.hid (Nat.le_trans HZ0.out (Below.size hb))
                have HY1 := Lib.hid (show W1.heap[W0.heap.size]? = some (.cells #[.int .i64 sk.v, .int .i64 sk.h, .slice A1 sk.rows.length c1] 30 (0, 0)) by rw [hW1]; exact heap_at _ _ rfl)
                have HYB := Lib.hid (show wr.heap.size ≤ W0.heap.size from HZ0.out)
                clear hb hW1
                refine hK.out _ _ (HS.out _ HX1.out HQ1.out) (fun hHeld => ?_)
                clear hK K
                try simp only [Act.put, List.setIfInBounds_toArray, List.set_cons_zero, List.set_cons_succ]
                refine wpAnyH_ready (rs := [2]) (by kernel_rfl) (by simp) ?_
                refine consH rfl (fun K hK => ?_) AllReadyH.nil
                go_simp
                refine (copyStep_any x A' cap' _ (HIN.out.ext HB1.out) HRW.out).mono ?_
                rintro e W2 ⟨Ac, cc, rfl, hu, hb⟩
                have HX2 := Lib.hid (box_at HX1.out hb)
                have HQ2 := Lib.hid (box_at HQ1.out hb)
                have HT2 := Lib.hid (box_at HT1.out hb)
                have HO2 := Lib.hid (HO1.out.ext hb)
                have HK2 := Lib.hid (HK1.out.ext hb)
                have HM2 := Lib.hid (HM1.out.ext hb)
                have HU2 := Lib.hid (HU1.out.ext hb)
                have HB2 := Lib.hid (below_ext HB1.out hb)
                have HZ2 := Lib.hid (Nat.le_trans HZ1.out (Below.size hb))
                have HY2 := Lib.hid (box_at HY1.out hb)
                have HC2 := Lib.hid (hu.mono (B' := w.heap.size + 1) (by have := HZ1.out; omega))
                have HFR := Lib.hid (HO1.out.fresh hu)
                clear hu hb
                go_simp
                refine hK.out _ _ (HS.out _ HX2.out HQ2.out) (fun hHeld => ?_)
                clear hK K
                try simp only [Act.put, List.setIfInBounds_toArray, List.set_cons_zero, List.set_cons_succ]
                refine wpAnyH_ready (rs := [3]) (by kernel_rfl) (by simp) ?_
                refine consH rfl (fun K hK => ?_) AllReadyH.nil
                go_simp
                obtain ⟨W3, hW3⟩ : ∃ W3, W3 = W2.alloc (.cells #[.int .i64 x.k, .int .i64 x.a, .int .i64 x.b, .int .i64 x.c, .slice Ac x.row.length cc] 34) := ⟨_, rfl⟩
                rw [← hW3]
                have hb : Below W2.heap.size W2 W3 := by rw [hW3]; exact (Below.refl _ _).alloc (Nat.le_refl _) _
                have HX3 := Lib.hid (box_at HX2.out hb)
                have HQ3 := Lib.hid (box_at HQ2.out hb)
                have HT3 := Lib.hid (box_at HT2.out hb)
                have HO3 := Lib.hid (HO2.out.ext hb)
                have HK3 := Lib.hid (HK2.out.ext hb)
                have HM3 := Lib.hid (HM2.out.ext hb)
                have HU3 := Lib.hid (HU2.out.ext hb)
                have HB3 := Lib.hid (below_ext HB2.out hb)
                have HZ3 := Lib.hid (Nat.le_trans HZ2.out (Below.size hb))
                have HC3 := Lib.hid (HC2.out.ext hb)
                have HY3 := Lib.hid (box_at HY2.out hb)
                have HP3 := Lib.hid (show W3.heap[W2.heap.size]? = some (.cells #[.int .i64 x.k, .int .i64 x.a, .int .i64 x.b, .int .i64 x.c, .slice Ac x.row.length cc] 34 (0, 0)) by rw [hW3]; exact heap_at _ _ rfl)
                clear hb hW3
                refine hK.out _ _ (HS.out _ HX3.out HQ3.out) (fun hHeld => ?_)
                clear hK K
                try simp only [Act.put, List.setIfInBounds_toArray, List.set_cons_zero, List.set_cons_succ]
                refine wpAnyH_ready (rs := [4]) (by kernel_rfl) (by simp) ?_
                refine consH rfl (fun K hK => ?_) AllReadyH.nil
                refine step_appendStpG rfl (.tmp 62) (.tmp 65) rfl (w.heap.size + 1) W3 (.slice (some ⟨g8, 0, none⟩) n c8) (.slice Ac x.row.length cc) lf us x W2.heap.size HO3.out HC3.out HFR.out (by rw [HLF.out]; omega) (by have := HZ3.out; omega) rfl rfl HP3.out ?_
                intro g4 cap4 W4 hown hg hb
                rw [HLF.out] at hown ⊢
                have HX4 := Lib.hid (far_block hg HLT8.out HX3.out (Nat.le_refl _))
                have HQ4 := Lib.hid (far_below hb HQ3.out (by omega))
                have HT4 := Lib.hid (far_block hg HLT8.out HT3.out HBT.out)
                have HK4 := Lib.hid (HK3.out.keptT (by decide) (by decide) (by decide) HO3.out.outer hg)
                have HM4 := Lib.hid (HM3.out.keptT (by decide) (by decide) HO3.out.outer hg)
                have HU4 := Lib.hid (HU3.out.keptT (by decide) (by decide) HO3.out.outer hg)
                have HB4 := Lib.hid (HB3.out.trans (hb.mono (by omega)))
                have HZ4 := Lib.hid (Nat.le_trans HZ3.out hb.size)
                have HO4 := Lib.hid hown
                have HY4 := Lib.hid (far_block hg HLT8.out HY3.out HYB.out)
                clear hown hg hb
                refine hK.out _ _ (HS.out _ HX4.out HQ4.out) (fun hHeld => ?_)
                clear hK K
                try simp only [Act.put, List.setIfInBounds_toArray, List.set_cons_zero, List.set_cons_succ]
                refine wpAnyH_ready (rs := [8]) (by kernel_rfl) (by simp) ?_
                refine consH rfl (fun K hK => ?_) AllReadyH.nil
                refine step_appendKSy rfl (.tmp 67) (.tmp 69) rfl (w.heap.size + 1) w W4 (.slice (some ⟨g9, 0, none⟩) n c9) A1 c1 ls vs sk W0.heap.size HK4.out HM4.out (by rw [HLS.out]; omega) (by have := HZ4.out; omega) rfl rfl HY4.out ?_
                intro g5 cap5 W5 hown hg hb
                rw [HLS.out] at hown ⊢
                have HX5 := Lib.hid (far_block hg HLT9.out HX4.out (Nat.le_refl _))
                have HQ5 := Lib.hid (far_below hb HQ4.out (by omega))
                have HT5 := Lib.hid (far_block hg HLT9.out HT4.out HBT.out)
                have HO5 := Lib.hid (HO4.out.keptT (by decide) (by decide) HK4.out.outer hg)
                have HU5 := Lib.hid (HU4.out.keptT (by decide) (by decide) HK4.out.outer hg)
                have HB5 := Lib.hid (HB4.out.trans (hb.mono (by omega)))
                have HK5 := Lib.hid hown
                clear hown hg hb
                refine hK.out _ _ (HS.out _ HX5.out HQ5.out) (fun hHeld => ?_)
                clear hK K
                try simp only [Act.put, List.setIfInBounds_toArray, List.set_cons_zero, List.set_cons_succ]
                refine wpAnyH_ready (rs := [9]) (by kernel_rfl) (by simp) ?_
                refine consH rfl (fun K hK => ?_) AllReadyH.nil
                go_simp
                refine hK.out _ _ (HS.out _ HX5.out HQ5.out) (fun hHeld => ?_)
                clear hK K
                try simp only [Act.put, List.setIfInBounds_toArray, List.set_cons_zero, List.set_cons_succ]
                refine wpAnyH_ready (rs := [10]) (by kernel_rfl) (by simp) ?_
                refine consH rfl (fun K hK => ?_) AllReadyH.nil
                go_simp
                refine hK.out _ _ (HS.out _ HX5.out HQ5.out) (fun hHeld => ?_)
                clear hK K
                try simp only [Act.put, List.setIfInBounds_toArray, List.set_cons_zero, List.set_cons_succ]
                refine wpAnyH_done (by kernel_rfl) ?_ _
                clear hHeld
                obtain ⟨f0, f1, f2⟩ := cells_3 HT5.out
                obtain ⟨d0, d1, d2, e0, e1, e2⟩ := cells3 HQ5.out
                go_wp2
                have hfin : CRel p s xs w (k + 1) (n + 1) (.slice (some ⟨g4, 0, none⟩) (n + 1) cap4) (.slice (some ⟨g5, 0, none⟩) (n + 1) cap5) (((W5.setCell ⟨w.heap.size, 0, none⟩ (.int .i64 sn.v)).setCell ⟨w.heap.size, 1, none⟩ (.int .i64 sn.h)).setCell ⟨w.heap.size, 2, none⟩ (.slice A6 sn.rows.length c6)) := by
                  have hsame : ∀ j, w.heap.size + 1 ≤ j → (((W5.setCell ⟨w.heap.size, 0, none⟩ (.int .i64 sn.v)).setCell ⟨w.heap.size, 1, none⟩ (.int .i64 sn.h)).setCell ⟨w.heap.size, 2, none⟩ (.slice A6 sn.rows.length c6)).heap[j]? = W5.heap[j]? := fun j hj => by
                    rw [heap_setCell_other _ _ _ _ (by simp <;> omega), heap_setCell_other _ _ _ _ (by simp <;> omega), heap_setCell_other _ _ _ _ (by simp <;> omega)]
                  refine ⟨HKB.out, by rw [HNEW.out, List.length_append, ← HN.out]; rfl, ⟨_, cap4, us ++ [.slice Ac x.row.length cc], rfl, ?_⟩, ⟨_, cap5, vs ++ [.slice A1 sk.rows.length c1], rfl, ?_⟩, ⟨A6, c6, ?_, Or.inr ?_⟩, below_set3' HB5.out (Nat.le_refl _) _ _ _⟩
                  · rw [HNEW.out, List.map_append, ← HLFD.out]; exact HO5.out.same hsame
                  · rw [HNEW.out, List.map_append, ← HLSD.out]; exact HK5.out.same hsame
                  · rw [sysAt_succ HXK.out, ← HSK.out, ← HSN.out]; exact set3_block HQ5.out
                  · rw [sysAt_succ HXK.out, ← HSK.out, ← HSN.out]; exact HU5.out.same hsame
                have HFIN := Lib.hid hfin
                clear hfin
                go_roundw
                case rel => exact ⟨k + 1, n + 1, by omega, by go_num, HFIN.out⟩
                case measure => simp [intOf]; omega
    · have hkn : k = xs.length := by omega
      have hfb : firstBad p s xs = xs.length := by have := firstBad_le p xs s; omega
      have HKN := Lib.hid hkn; have HFB := Lib.hid hfb
      clear hkn hfb
      go_wp2
      refine bodyPost_ret (v := .tuple #[.slice A8 n c8, .bool true]) (by simp [results, Tryz.results75, go_sem]) rfl ⟨fun h => by have := HFB.out; omega, fun _ => ⟨A8, c8, ?_, ?_⟩, HBEL.out⟩
      · rw [← HKN.out, ← HN.out]
      · have := HOWN.out
        rw [HLFD.out] at this
        rw [← HKN.out, ← HN.out]
        exact ⟨us, this.mono (by omega)⟩
end Go.Proofs.YtjdbfokbgmbphaaGreatDoor
