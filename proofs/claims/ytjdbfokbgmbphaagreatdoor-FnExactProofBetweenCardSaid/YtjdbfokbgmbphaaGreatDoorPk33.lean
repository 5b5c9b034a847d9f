/- The steps that undo steps, on both sides. Conditions: the system is valid, at most 3000 steps, lines of at most 2^20; the table of primes is laid. | Both UndoSteps. Conditions: lengths of at most 2^20; the table of primes is laid. -/
import Derived.Test.YtjdbfokbgmbphaaGreatDoorPk28
import Derived.Test.YtjdbfokbgmbphaaGreatDoorPk30
import Derived.Test.YtjdbfokbgmbphaaGreatDoorPk31
import Derived.Test.YtjdbfokbgmbphaaGreatDoorPk32
namespace Go.Proofs.YtjdbfokbgmbphaaGreatDoor
set_option linter.unusedVariables false
set_option linter.unusedSimpArgs false
open Go.RowKit
def undoTo (p : Int) (s : Sy) (x : Stp) : Stp := ⟨uK true x.k, uA true x.k x.a, uB true x.k x.b, uC true p x.k x.c, uR true s.rows x.k x.a⟩
def undL (p : Int) (s : Sy) (xs : List Stp) (n : Nat) : List Stp := (List.range n).map fun i => undoTo p (sysAt p s xs i) (xs.getD i stp0)
theorem undL_len (p : Int) (s : Sy) (xs : List Stp) (n : Nat) : (undL p s xs n).length = n := by simp [undL]
theorem undL_succ {p : Int} {s : Sy} {xs : List Stp} {n : Nat} {x : Stp} (h : xs[n]? = some x) : undL p s xs (n + 1) = undL p s xs n ++ [undoTo p (sysAt p s xs n) x] := by
 simp [undL, List.range_succ, List.getD_eq_getElem?_getD, h]
theorem undL_get {p : Int} {s : Sy} {xs : List Stp} {n i : Nat} {x : Stp} (h : xs[i]? = some x) (hi : i < n) : (undL p s xs n)[i]? = some (undoTo p (sysAt p s xs i) x) := by
 simp [undL, hi, List.getD_eq_getElem?_getD, h]
theorem uR_len {p : Int} {s : Sy} {x : Stp} (h : Small s) : (undoTo p s x).row.length ≤ 1000 := by
 unfold undoTo uR
 dsimp only
 rw [if_pos rfl]
 split
 ·by_cases hk : x.a.toNat < s.rows.length
  ·exact h.len _ (getD_mem hk)
  ·rw [List.getD_eq_getElem?_getD, List.getElem?_eq_none (by omega)]; simp
 ·simp
theorem undL_rows {p : Int} {s : Sy} {xs : List Stp} (hs : s.Ok p) (h : xs.length ≤ firstBad p s xs) : ∀ r ∈ undL p s xs xs.length, r.row.length ≤ 1000 := by
 intro r hr
 obtain ⟨i, hi, rfl⟩ := List.mem_map.1 hr
 exact uR_len (sysAt_ok hs (by have := List.mem_range.1 hi; omega)).small
def SteppedTo (X : List Stp) (ok : Bool) (w : World) (e : Ending) (w' : World) : Prop :=
 ∃ u, e = .returned (.tuple #[u, .bool ok]) ∧ OwnSteps w' w.heap.size u X ∧ Below w.heap.size w w'
theorem SteppedTo.mk {X : List Stp} {ok : Bool} {u : Value} {w w' : World} {e : Ending} (he : e = .returned (.tuple #[u, .bool ok])) (hu : OwnSteps w' w.heap.size u X) (hb : Below w.heap.size w w') : SteppedTo X ok w e w' := ⟨u, he, hu, hb⟩
theorem undS_yes (p : Int) (s : Sy) (x : Stp) (A : Option Addr) (cap : Nat) (w : World) (XA : Option Addr) (xcap : Nat) (hP : Primes w) (hR : RowsAt w A s.rows) (hX : IntsAt w XA x.row) (hrow : x.row.length ≤ 1048576) (hs : s.Ok p) (ho : okTo p s x = true) :
  Calls Tryz.prog 64 #[.int .i64 p, .agg #[.int .i64 s.v, .int .i64 s.h, .slice A s.rows.length cap], .agg #[.int .i64 x.k, .int .i64 x.a, .int .i64 x.b, .int .i64 x.c, .slice XA x.row.length xcap]] w fun e w' =>
   ∃ A2 c2, e = .returned (.tuple #[.agg #[.int .i64 (undoTo p s x).k, .int .i64 (undoTo p s x).a, .int .i64 (undoTo p s x).b, .int .i64 (undoTo p s x).c, .slice A2 (undoTo p s x).row.length c2], .bool true]) ∧ OwnInts w' w.heap.size (.slice A2 (undoTo p s x).row.length c2) (undoTo p s x).row ∧ Below w.heap.size w w' := by
 refine (undoStep_any p s.v s.h x.k x.a x.b x.c A cap s.rows w XA x.row xcap hP hR hX hrow hs true ho).mono fun e w' he => ?_
 obtain ⟨u, e1, e2, e3⟩ := he
 obtain ⟨A2, c2, rfl, _⟩ := e2.view
 exact ⟨A2, c2, e1, e2, e3⟩
theorem undS_no (p : Int) (s : Sy) (x : Stp) (A : Option Addr) (cap : Nat) (w : World) (XA : Option Addr) (xcap : Nat) (hP : Primes w) (hR : RowsAt w A s.rows) (hX : IntsAt w XA x.row) (hrow : x.row.length ≤ 1048576) (hs : s.Ok p) (ho : okTo p s x = false) :
  Calls Tryz.prog 64 #[.int .i64 p, .agg #[.int .i64 s.v, .int .i64 s.h, .slice A s.rows.length cap], .agg #[.int .i64 x.k, .int .i64 x.a, .int .i64 x.b, .int .i64 x.c, .slice XA x.row.length xcap]] w fun e w' =>
   ∃ (a b c d : Int) (A2 : Option Addr) (n2 c2 : Nat), e = .returned (.tuple #[.agg #[.int .i64 a, .int .i64 b, .int .i64 c, .int .i64 d, .slice A2 n2 c2], .bool false]) ∧ Below w.heap.size w w' := by
 refine (undoStep_any p s.v s.h x.k x.a x.b x.c A cap s.rows w XA x.row xcap hP hR hX hrow hs false ho).mono fun e w' he => ?_
 obtain ⟨u, e1, e2, e3⟩ := he
 obtain ⟨A2, c2, rfl, _⟩ := e2.view
 exact ⟨_, _, _, _, A2, _, c2, e1, e3⟩
theorem stUndoS (p : Int) (s : Sy) (x : Stp) (A : Option Addr) (cap : Nat) (w : World) (XA : Option Addr) (xcap : Nat) (hR : RowsAt w A s.rows) (hs : s.Ok p) (ho : okTo p s x = true) :
  Calls Tryz.prog 63 #[.int .i64 p, .agg #[.int .i64 s.v, .int .i64 s.h, .slice A s.rows.length cap], .agg #[.int .i64 x.k, .int .i64 x.a, .int .i64 x.b, .int .i64 x.c, .slice XA x.row.length xcap]] w fun e w' =>
   ∃ A2 c2, e = .returned (.agg #[.int .i64 (undoTo p s x).k, .int .i64 (undoTo p s x).a, .int .i64 (undoTo p s x).b, .int .i64 (undoTo p s x).c, .slice A2 (undoTo p s x).row.length c2]) ∧ OwnInts w' w.heap.size (.slice A2 (undoTo p s x).row.length c2) (undoTo p s x).row ∧ Below w.heap.size w w' := by
 refine (stUndo_any p s.v s.h x.k x.a x.b x.c A cap s.rows w XA x.row xcap hR hs ho).mono fun e w' he => ?_
 obtain ⟨u, e1, e2, e3⟩ := he
 obtain ⟨A2, c2, rfl, _⟩ := e2.view
 exact ⟨A2, c2, e1, e2, e3⟩
/-- Rows that lie where they lay at the start, or in memory of the call's own. -/
def Kept (w wr : World) (B : Nat) (A : Option Addr) (c : Nat) (rows : List (List Int)) : Prop := RowsAt w A rows ∨ OwnRows wr B (.slice A rows.length c) rows
theorem Kept.rows {w wr : World} {B : Nat} {A : Option Addr} {c : Nat} {rows : List (List Int)} (h : Kept w wr B A c rows) (hb : Below w.heap.size w wr) : RowsAt wr A rows := by
 rcases h with h | h
 ·exact h.ext hb
 ·exact rows_at h
theorem Kept.ext {w wr wr' : World} {B : Nat} {A : Option Addr} {c : Nat} {rows : List (List Int)} (h : Kept w wr B A c rows) (hb : Below wr.heap.size wr wr') : Kept w wr' B A c rows := h.imp id fun h => h.ext hb
theorem Kept.grown {w wr wr' : World} {B B' n : Nat} {A : Option Addr} {c : Nat} {rows : List (List Int)} {v : Value} {xs : List Value} (h : Kept w wr B A c rows) (hv : wr.ownsRow B' 34 5 v n xs) (hg : wr.grownBy wr' v.ownBlock) : Kept w wr' B A c rows :=
 h.imp id fun h => h.keptT (by decide) (by decide) hv hg
def UndTo (p : Int) (s : Sy) (xs : List Stp) (w : World) (e : Ending) (w' : World) : Prop :=
 (firstBad p s xs < xs.length → e = .returned (.tuple #[.slice none 0 0, .bool false])) ∧
 (firstBad p s xs = xs.length → ∃ A c, e = .returned (.tuple #[.slice A xs.length c, .bool true]) ∧ OwnSteps w' w.heap.size (.slice A xs.length c) (undL p s xs xs.length).reverse) ∧ Below w.heap.size w w'
def URel (p : Int) (s : Sy) (xs : List Stp) (w : World) (k : Nat) (u8 : Value) (wr : World) : Prop :=
 k ≤ firstBad p s xs ∧ (∃ A8 c8 us, u8 = .slice A8 k c8 ∧ OwnStepsW wr (w.heap.size + 1) (.slice A8 k c8) (undL p s xs k) us) ∧
 (∃ A1 c1, wr.heap[w.heap.size]? = some (.cells #[.int .i64 (sysAt p s xs k).v, .int .i64 (sysAt p s xs k).h, .slice A1 (sysAt p s xs k).rows.length c1] 30 (0, 0)) ∧ Kept w wr (w.heap.size + 1) A1 c1 (sysAt p s xs k).rows) ∧ Below w.heap.size w wr
set_option maxRecDepth 100000 in
set_option maxHeartbeats 8000000 in
theorem undoSteps_any (p : Int) (s : Sy) (A : Option Addr) (cap : Nat) (xs : List Stp) (w : World) (XA : Option Addr) (xcap : Nat) (hP : Primes w) (hR : RowsAt w A s.rows) (hX : StepsAt w XA xs) (hok : s.Ok p) (hm : xs.length ≤ 3000) (hms : ∀ x ∈ xs, x.row.length ≤ 1048576) :
  Calls Tryz.prog 71 #[.int .i64 p, .agg #[.int .i64 s.v, .int .i64 s.h, .slice A s.rows.length cap], .slice XA xs.length xcap] w (UndTo p s xs w) := by
 have HX := Lib.hid hX; have HP := Lib.hid hP; have HOK := Lib.hid hok; have HMS := Lib.hid hms
 have hst : URel p s xs w 0 (.slice (some ⟨w.heap.size + 1, 0, none⟩) 0 0) ((w.alloc (.cells #[.int .i64 s.v, .int .i64 s.h, .slice A s.rows.length cap] 30)).alloc (.cells #[] 34)) := by
  have hB : Below w.heap.size w (w.alloc (.cells #[.int .i64 s.v, .int .i64 s.h, .slice A s.rows.length cap] 30)) := (Below.refl w.heap.size w).alloc (by simp) _
  obtain ⟨us, h1⟩ := OwnSteps.lit (w.alloc (.cells #[.int .i64 s.v, .int .i64 s.h, .slice A s.rows.length cap] 30)) (w.heap.size + 1) (by simp)
  simp only [World.size_alloc] at h1
  refine ⟨Nat.zero_le _, ⟨_, 0, us, rfl, h1⟩, ⟨A, cap, ?_, Or.inl ?_⟩, hB.alloc hB.size _⟩
  ·rw [sysAt_zero]; exact (heap_past _ _ (by simp)).trans (heap_at _ _ rfl)
  ·rw [sysAt_zero]; exact hR
 have HST := Lib.hid hst
 clear hR hX hP hok hms hst
 go_enter Tryz.func71, Tryz.ntmps71
 go_wp2
 go_loopw [8, 16] (fun u i wr => ∃ k : Nat, k ≤ xs.length ∧ i = .int .i64 k ∧ URel p s xs w k u wr)
  (fun _ i _ => xs.length - (intOf i).toNat)
 case atStart => exact ⟨0, Nat.zero_le _, rfl, HST.out⟩
 case round =>
  obtain ⟨k, hk, rfl, hk1, ⟨A8, c8, us, rfl, hown⟩, ⟨A1, c1, hq, hkept⟩, hbel⟩ := hrel
  clear HST
  have HOWN := Lib.hid hown; have HQ := Lib.hid hq; have HKEPT := Lib.hid hkept; have HBEL := Lib.hid hbel
  obtain ⟨sk, hsk⟩ : ∃ sk, sk = sysAt p s xs k := ⟨_, rfl⟩
  have HSK := Lib.hid hsk
  have HOKK := Lib.hid (show sk.Ok p by rw [hsk]; exact sysAt_ok HOK.out hk1)
  rw [← hsk] at HQ HKEPT
  clear hown hq hkept hbel hsk
  by_cases hlt : k < xs.length
  ·obtain ⟨x, hx⟩ := get_of_lt hlt
   obtain ⟨b, o, rfl, hc⟩ := HX.out.here hlt
   obtain ⟨A', cap', hxc, hin⟩ := hc k x hx
   obtain ⟨x0, x1, x2, x3, x4⟩ : StpAt wr b (o + k * 5) x A' cap' := hxc.ext HBEL.out
   have HRW := Lib.hid (HMS.out x (List.mem_of_getElem? hx))
   have HIN := Lib.hid hin; have HXK := Lib.hid hx
   clear hc hin hx hxc
   go_upto_region 5 with (fail)
   obtain ⟨W2, hW2⟩ : ∃ W2, W2 = wr.alloc (.cells #[.int .i64 x.k, .int .i64 x.a, .int .i64 x.b, .int .i64 x.c, .slice A' x.row.length cap'] 34) := ⟨_, rfl⟩
   rw [← hW2]
   have hA : Below wr.heap.size wr W2 := by rw [hW2]; exact (Below.refl _ _).alloc (Nat.le_refl _) _
   have hq2 : W2.heap[wr.heap.size]? = some (.cells #[.int .i64 x.k, .int .i64 x.a, .int .i64 x.b, .int .i64 x.c, .slice A' x.row.length cap'] 34 (0, 0)) := by rw [hW2]; exact heap_at _ _ rfl
   have HA := Lib.hid hA; have HXB := Lib.hid hq2
   have HB2 := Lib.hid (below_ext HBEL.out hA)
   clear x0 x1 x2 x3 x4
   obtain ⟨d0, d1, d2, _⟩ := cells3 (box_at HQ.out hA)
   obtain ⟨x0, x1, x2, x3, x4⟩ := cells_5 hq2
   clear hA hq2 hW2
   cases ho : okTo p sk x with
   | false =>
    have HO := Lib.hid ho
    clear ho
    have UD := Lib.hid (fun (A cap W XA xcap h1 h2 h3) => undS_no p sk x A cap W XA xcap h1 h2 h3 HRW.out HOKK.out HO.out)
    go_upto_region 6 with (go_at_call 64; refine (UD.out _ _ _ _ _ (HP.out.ext HB2.out) ((HKEPT.out.rows HBEL.out).ext HA.out) (HIN.out.ext HB2.out)).mono ?_; rintro e w3 ⟨r1, r2, r3, r4, A3, n3, c3, rfl, hb⟩; clear d0 d1 d2 x0 x1 x2 x3 x4; have HB3 := Lib.hid (below_ext HB2.out hb); clear hb)
    go_wp2
    have hfb := bad_here hk1 HXK.out (by rw [← HSK.out]; exact HO.out)
    refine bodyPost_ret (v := .tuple #[.slice none 0 0, .bool false]) (by simp [results, Tryz.results71, go_sem]) rfl ⟨fun _ => rfl, fun h => by omega, HB3.out.alloc HB3.out.size _⟩
   | true =>
    have HO := Lib.hid ho
    clear ho
    obtain ⟨yn, hyn⟩ : ∃ yn, yn = undoTo p sk x := ⟨_, rfl⟩
    have HYN := Lib.hid hyn
    have UD := Lib.hid (fun (A cap W XA xcap h1 h2 h3) => undS_yes p sk x A cap W XA xcap h1 h2 h3 HRW.out HOKK.out HO.out)
    rw [← hyn] at UD
    clear hyn
    obtain ⟨sn, hsn⟩ : ∃ sn, sn = stepTo p sk x := ⟨_, rfl⟩
    have HSN := Lib.hid hsn
    have MK := Lib.hid (fun (A cap W XA xcap h1 h2 h3) => mkS_yes p sk x A cap W XA xcap h1 h2 h3 HRW.out HOKK.out HO.out)
    rw [← hsn] at MK
    clear hsn
    go_upto_region 6 with (go_at_call 64; refine (UD.out _ _ _ _ _ (HP.out.ext HB2.out) ((HKEPT.out.rows HBEL.out).ext HA.out) (HIN.out.ext HB2.out)).mono ?_; rintro e w3 ⟨A3, c3, rfl, hu, hb⟩; clear d0 d1 d2 x0 x1 x2 x3 x4; have HB3 := Lib.hid hb; have HU3 := Lib.hid hu; clear hu hb)
    obtain ⟨W4, hW4⟩ : ∃ W4, W4 = w3.alloc (.cells #[.int .i64 yn.k, .int .i64 yn.a, .int .i64 yn.b, .int .i64 yn.c, .slice A3 yn.row.length c3] 34) := ⟨_, rfl⟩
    rw [← hW4]
    have hC : Below w3.heap.size w3 W4 := by rw [hW4]; exact (Below.refl _ _).alloc (Nat.le_refl _) _
    have hq4 : W4.heap[w3.heap.size]? = some (.cells #[.int .i64 yn.k, .int .i64 yn.a, .int .i64 yn.b, .int .i64 yn.c, .slice A3 yn.row.length c3] 34 (0, 0)) := by rw [hW4]; exact heap_at _ _ rfl
    have h24 := below_ext HB3.out hC
    have hr4 := below_ext HA.out h24
    have HR4 := Lib.hid hr4
    have HB4 := Lib.hid (below_ext HBEL.out hr4)
    have HOW4 := Lib.hid (HOWN.out.ext hr4)
    have hu4 := HU3.out.ext hC
    have HFR := Lib.hid ((HOWN.out.ext HA.out).fresh hu4)
    have hs4 := hr4.size
    have hsr := HBEL.out.size
    have hqw := (Array.getElem?_eq_some_iff.1 HQ.out).1
    have HU4 := Lib.hid (hu4.mono (B' := w.heap.size + 1) (by have := HA.out.size; omega))
    have HXB4 := Lib.hid (box_at HXB.out h24)
    have HQ4 := Lib.hid (box_at HQ.out hr4)
    have HK4 := Lib.hid (HKEPT.out.ext hr4)
    obtain ⟨y0, y1, y2, y3, y4⟩ := cells_5 hq4
    clear hC hq4 h24 hr4 hu4 hW4
    have HLL := Lib.hid (undL_len p s xs k)
    go_upto_region 9 with (at_builtin; refine wp_appendStp rfl (.tmp 29) (.tmp 31) rfl (w.heap.size + 1) W4 (.slice A8 k c8) (.slice A3 yn.row.length c3) (undL p s xs k) us yn HOW4.out HU4.out HFR.out (by rw [HLL.out]; omega) (by omega) rfl rfl ?_; intro g5 cap5 w5 hown5 hg5 hb5; rw [HLL.out] at hown5 ⊢; have HO5 := Lib.hid hown5; have HG5 := Lib.hid hg5; have HB5 := Lib.hid hb5; clear hown5 hg5 hb5 y0 y1 y2 y3 y4)
    have hq5 := (HB5.out.block w.heap.size (by omega)).trans HQ4.out
    have hx5 := (HG5.out.block wr.heap.size (by have := (Array.getElem?_eq_some_iff.1 HXB4.out).1; exact this) (fun e => by have := (HOWN.out.lt _ e.symm).2; omega)).trans HXB4.out
    have HQ5 := Lib.hid hq5
    have HK5 := Lib.hid (HK4.out.grown HOW4.out.outer HG5.out)
    have HB5w := Lib.hid (HB4.out.trans (HB5.out.mono (by omega)))
    obtain ⟨d0, d1, d2⟩ := cells_3 hq5
    obtain ⟨x0, x1, x2, x3, x4⟩ := cells_5 hx5
    clear hq5 hx5
    go_wp2_with (go_at_call 53; refine (MK.out _ _ _ _ _ (HP.out.ext HB5w.out) (HK5.out.rows HB5w.out) (HIN.out.ext HB5w.out)).mono ?_; rintro e w6 ⟨A6, c6, rfl, hu, hb⟩; clear d0 d1 d2 x0 x1 x2 x3 x4; have HB6 := Lib.hid hb; have HU6 := Lib.hid hu; obtain ⟨d0, d1, d2, f0, f1, f2⟩ := cells3 (box_at HQ5.out hb); clear hu hb)
    have hfin : URel p s xs w (k + 1) (.slice (some ⟨g5, 0, none⟩) (k + 1) cap5) (((w6.setCell ⟨w.heap.size, 0, none⟩ (.int .i64 sn.v)).setCell ⟨w.heap.size, 1, none⟩ (.int .i64 sn.h)).setCell ⟨w.heap.size, 2, none⟩ (.slice A6 sn.rows.length c6)) := by
     have hs5 := HB5w.out.size
     have hs6 := HB5.out.size
     have hsame : ∀ j, w.heap.size + 1 ≤ j → (((w6.setCell ⟨w.heap.size, 0, none⟩ (.int .i64 sn.v)).setCell ⟨w.heap.size, 1, none⟩ (.int .i64 sn.h)).setCell ⟨w.heap.size, 2, none⟩ (.slice A6 sn.rows.length c6)).heap[j]? = w6.heap[j]? := fun j hj => by
      rw [heap_setCell_other _ _ _ _ (by simp <;> omega), heap_setCell_other _ _ _ _ (by simp <;> omega), heap_setCell_other _ _ _ _ (by simp <;> omega)]
     refine ⟨bad_step hk1 HXK.out (by rw [← HSK.out]; exact HO.out), ⟨_, cap5, us ++ [.slice A3 yn.row.length c3], rfl, ?_⟩, ⟨A6, c6, ?_, Or.inr ?_⟩, below_set3' (below_ext HB5w.out HB6.out) (Nat.le_refl _) _ _ _⟩
     ·rw [undL_succ HXK.out, ← HSK.out, ← HYN.out]
      exact (HO5.out.ext HB6.out).same hsame
     ·rw [sysAt_succ HXK.out, ← HSK.out, ← HSN.out]
      exact set3_block (box_at HQ5.out HB6.out)
     ·rw [sysAt_succ HXK.out, ← HSK.out, ← HSN.out]
      exact (HU6.out.mono (by omega)).same hsame
    have HFIN := Lib.hid hfin
    clear hfin
    go_roundw
    case rel => exact ⟨k + 1, by omega, by go_num, HFIN.out⟩
    case measure => simp [intOf]; omega
  ·have hkn : k = xs.length := by omega
   have hfb : firstBad p s xs = xs.length := by have := firstBad_le p xs s; omega
   have hrev := reverseS_any (w.heap.size + 1) A8 c8 (undL p s xs k) wr (by rw [undL_len]; exact ⟨us, HOWN.out⟩) (by rw [undL_len]; omega)
   unfold RevPost at hrev
   rw [undL_len] at hrev
   have HREV := Lib.hid hrev
   have HKN := Lib.hid hkn; have HFB := Lib.hid hfb
   clear hkn hfb hrev
   go_wp2_with (go_at_call 104; refine HREV.out.mono ?_; rintro e w2 ⟨rfl, ho2, hg2⟩; have HO2 := Lib.hid ho2; have HG2 := Lib.hid hg2; clear ho2 hg2)
   have hb2 : Below w.heap.size w w2 := Below.grown HBEL.out HG2.out (by have := HBEL.out.size; omega) (fun b hb => by have := (HOWN.out.lt _ hb).1; omega)
   refine bodyPost_ret (v := .tuple #[.slice A8 k c8, .bool true]) (by simp [results, Tryz.results71, go_sem]) rfl ⟨fun h => by have := HFB.out; omega, fun _ => ⟨A8, c8, ?_, ?_⟩, hb2⟩
   ·rw [← HKN.out]
   ·rw [← HKN.out]; exact HO2.out.mono (by omega)
theorem OwnSyW.keptT {w w' : World} {B B' s n : Nat} {T : TypeId} {u v : Value} {ys : List Sy} {us xs : List Value} (h : OwnSyW w B u ys us) (h0 : 30 ≠ T) (h1 : 25 ≠ T) (h2 : 3 ≠ T) (hv : w.ownsRow B' T s v n xs) (hg : w.grownBy w' v.ownBlock) : OwnSyW w' B u ys us :=
 ⟨h.len, World.ownsRow.kept h.outer hg (apart_ty h0 h.outer hv), fun k u' r hu hr => (h.each k u' r hu hr).keptT h1 h2 hv hg⟩
theorem OwnSyW.at3 {w : World} {B g n cap k : Nat} {ys : List Sy} {us : List Value} {y : Sy} (hn : n = ys.length) (h : OwnSyW w B (.slice (some ⟨g, 0, none⟩) n cap) ys us) (hy : ys[k]? = some y) :
  ∃ A c, (w.cell? ⟨g, k * 3, none⟩ = some (.int .i64 y.v) ∧ w.cell? ⟨g, k * 3 + 1, none⟩ = some (.int .i64 y.h) ∧ w.cell? ⟨g, k * 3 + 2, none⟩ = some (.slice A y.rows.length c)) ∧ RowsAt w A y.rows := by
 subst hn
 have hk := (List.getElem?_eq_some_iff.1 hy).1
 obtain ⟨u, hu, ho⟩ := h.get hy
 obtain ⟨A, c, rfl, hr, _⟩ := ho.view
 have hj : ∀ j, j < 3 → w.cell? ⟨g, k * 3 + j, none⟩ = (syCells y (.slice A y.rows.length c))[j]? := fun j h5 => by rw [h.outer.cellAt _ (by omega), flatY_get h5 hy hu]
 exact ⟨A, c, ⟨hj 0 (by decide), hj 1 (by decide), hj 2 (by decide)⟩, hr⟩
def BackTo (X : List Stp) (w : World) (e : Ending) (w' : World) : Prop := ∃ u, e = .returned u ∧ OwnSteps w' w.heap.size u X ∧ Below w.heap.size w w'
def BRel (p : Int) (s : Sy) (xs : List Stp) (w : World) (g m gc k : Nat) (u8 : Value) (wr : World) : Prop :=
 k ≤ xs.length ∧ (∃ A8 c8 us, u8 = .slice A8 k c8 ∧ OwnStepsW wr (w.heap.size + 1) (.slice A8 k c8) ((undL p s xs xs.length).reverse.take k) us) ∧
 (∃ vs, OwnSyW wr (w.heap.size + 1) (.slice (some ⟨g, 0, none⟩) m gc) (sysL p s xs (xs.length + 1)) vs) ∧ Below w.heap.size w wr
set_option maxRecDepth 100000 in
set_option maxHeartbeats 8000000 in
theorem stBack_any (p : Int) (s : Sy) (A : Option Addr) (cap : Nat) (xs : List Stp) (w : World) (XA : Option Addr) (xcap : Nat) (hR : RowsAt w A s.rows) (hX : StepsAt w XA xs) (hok : s.Ok p) (hfb : firstBad p s xs = xs.length) (hm : xs.length ≤ 3000) (hms : ∀ x ∈ xs, x.row.length ≤ 1048576) :
  Calls Tryz.prog 70 #[.int .i64 p, .agg #[.int .i64 s.v, .int .i64 s.h, .slice A s.rows.length cap], .slice XA xs.length xcap] w (BackTo (undL p s xs xs.length).reverse w) := by
 have hB : Below w.heap.size w (w.alloc (.cells #[.int .i64 s.v, .int .i64 s.h, .slice A s.rows.length cap] 30)) := (Below.refl w.heap.size w).alloc (by simp) _
 have HB := Lib.hid hB
 have HRUN := Lib.hid (stRun_any p s A cap xs _ XA xcap (hR.ext hB) (hX.ext hB) hok hm hms)
 have HX := Lib.hid hX; have HOK := Lib.hid hok; have HMS := Lib.hid hms; have HFB := Lib.hid hfb
 obtain ⟨m, hmm⟩ : ∃ m : Nat, m = xs.length + 1 := ⟨_, rfl⟩
 have HF := Lib.hid (show ∀ W e w', RanTo p s xs W e w' → ∃ (g c : Nat), e = .returned (.slice (some ⟨g, 0, none⟩) m c) ∧ (∃ vs, OwnSyW w' W.heap.size (.slice (some ⟨g, 0, none⟩) m c) (sysL p s xs (xs.length + 1)) vs) ∧ Below W.heap.size W w' from fun W e w' h => by
  obtain ⟨g, c, h1, h2, h3⟩ := h
  rw [hfb] at h1 h2
  rw [hmm]
  exact ⟨g, c, h1, h2, h3⟩)
 have HMM := Lib.hid hmm
 have hmn : xs.length < m := by omega
 have hm2 : m ≤ 3001 := by omega
 clear hB hR hX hok hms hfb hmm
 go_enter Tryz.func70, Tryz.ntmps70
 go_wp2_with (go_at_call 60; refine HRUN.out.mono ?_; rintro e w1 hr; obtain ⟨g, gc, rfl, hvs, hb1⟩ := HF.out _ _ _ hr; have HV1 := Lib.hid hvs; have HS1 := Lib.hid hb1.size; have HB1 := Lib.hid (below_ext HB.out hb1); clear hvs hb1 hr)
 have hst : BRel p s xs w g m gc 0 (.slice none 0 0) w1 := by
  obtain ⟨us, h1⟩ := OwnSteps.nil w1 (w.heap.size + 1)
  obtain ⟨vs, h2⟩ := HV1.out
  exact ⟨Nat.zero_le _, ⟨none, 0, us, rfl, by simpa using h1⟩, ⟨vs, h2.mono (by simp)⟩, HB1.out⟩
 have HST := Lib.hid hst
 clear hst HV1 HB1 HRUN HF HB
 go_loopw [8, 9] (fun u i wr => ∃ (k : Nat) (q : Int), i = .int .i64 q ∧ Hid (q = (xs.length : Int) - 1 - k) ∧ -1 ≤ q ∧ q ≤ 3000 ∧ BRel p s xs w g m gc k u wr)
  (fun _ i _ => (intOf i + 1).toNat)
 case atStart => exact ⟨0, _, rfl, Lib.hid (by simp), by omega, by omega, HST.out⟩
 case round =>
  obtain ⟨k, q, rfl, HQ, hq1, hq2, hk, ⟨A8, c8, us, rfl, hown⟩, ⟨vs, hvs⟩, hbel⟩ := hrel
  clear HST
  have HOWN := Lib.hid hown; have HVS := Lib.hid hvs; have HBEL := Lib.hid hbel
  clear hown hvs hbel
  by_cases hlt : 0 ≤ q
  ·obtain ⟨j, hj⟩ : ∃ j : Nat, (j : Int) = q := ⟨q.toNat, by omega⟩
   subst hj
   have hjn : j < xs.length := by have := HQ.out; omega
   have hjm : j < m := by omega
   obtain ⟨x, hx⟩ := get_of_lt hjn
   obtain ⟨b, o, rfl, hc⟩ := HX.out.here hjn
   obtain ⟨A', cap', hxc, hin⟩ := hc j x hx
   obtain ⟨x0, x1, x2, x3, x4⟩ : StpAt wr b (o + j * 5) x A' cap' := hxc.ext HBEL.out
   have HRW := Lib.hid (HMS.out x (List.mem_of_getElem? hx))
   have HXK := Lib.hid hx
   obtain ⟨sj, hsj⟩ : ∃ sj, sj = sysAt p s xs j := ⟨_, rfl⟩
   have HSJ := Lib.hid hsj
   have hle : j ≤ firstBad p s xs := by have := HFB.out; omega
   have HOKJ := Lib.hid (show sj.Ok p by rw [hsj]; exact sysAt_ok HOK.out hle)
   have HO := Lib.hid (show okTo p sj x = true by rw [hsj]; exact bad_ok (by have := HFB.out; omega) hx)
   obtain ⟨Aj, cj, ⟨y0, y1, y2⟩, hrj⟩ := HVS.out.at3 (by rw [sysL_len]; exact HMM.out) (show (sysL p s xs (xs.length + 1))[j]? = some sj by rw [hsj]; exact sysL_get _ _ _ _ _ (by omega))
   have HRJ := Lib.hid hrj
   obtain ⟨yn, hyn⟩ : ∃ yn, yn = undoTo p sj x := ⟨_, rfl⟩
   have HYN := Lib.hid hyn
   have UD := Lib.hid (fun (A cap W XA xcap h1) => stUndoS p sj x A cap W XA xcap h1 HOKJ.out HO.out)
   rw [← hyn] at UD
   have hjk : j + k + 1 = xs.length := by have := HQ.out; omega
   have HTK := Lib.hid (show (undL p s xs xs.length).reverse.take (k + 1) = (undL p s xs xs.length).reverse.take k ++ [yn] by
    rw [List.take_add_one, List.getElem?_reverse (by rw [undL_len]; omega), undL_len, show xs.length - 1 - k = j by omega, undL_get hx (by omega), hyn, hsj]; rfl)
   have HTL := Lib.hid (show ((undL p s xs xs.length).reverse.take k).length = k by rw [List.length_take, List.length_reverse, undL_len]; omega)
   have HJK := Lib.hid hjk
   clear hc hin hx hxc hle hsj hyn hrj hjk
   go_upto_region 6 with (fail)
   refine wp_region_T (S := fun W => W.cell? ⟨b, o + j * 5, none⟩ = some (.int .i64 x.k) ∧ W.cell? ⟨b, o + j * 5 + 1, none⟩ = some (.int .i64 x.a) ∧ W.cell? ⟨b, o + j * 5 + 2, none⟩ = some (.int .i64 x.b) ∧ W.cell? ⟨b, o + j * 5 + 3, none⟩ = some (.int .i64 x.c) ∧ W.cell? ⟨b, o + j * 5 + 4, none⟩ = some (.slice A' x.row.length cap') ∧ W.cell? ⟨g, j * 3, none⟩ = some (.int .i64 sj.v) ∧ W.cell? ⟨g, j * 3 + 1, none⟩ = some (.int .i64 sj.h) ∧ W.cell? ⟨g, j * 3 + 2, none⟩ = some (.slice Aj sj.rows.length cj)) 12 (by kernel_rfl) ⟨x0, x1, x2, x3, x4, y0, y1, y2⟩ (fun hHeld => ?_)
   refine takeQ 0 (v := ?_) rfl (Or.inl ⟨by rfl, ?_⟩) ?_
   rotate_left
   ·intro w h; (try dsimp only at h); go_simp; (try with_reducible rfl)
   simp only [Act.put, List.setIfInBounds_toArray, List.set_cons_zero, List.set_cons_succ]
   refine takeQ 1 (v := ?_) rfl (Or.inl ⟨by rfl, ?_⟩) ?_
   rotate_left
   ·intro w h; (try dsimp only at h); go_simp; (try with_reducible rfl)
   simp only [Act.put, List.setIfInBounds_toArray, List.set_cons_zero, List.set_cons_succ]
   refine takeQ 2 (v := ?_) rfl (Or.inl ⟨by rfl, ?_⟩) ?_
   rotate_left
   ·intro w h; (try dsimp only at h); go_simp; (try with_reducible rfl)
   simp only [Act.put, List.setIfInBounds_toArray, List.set_cons_zero, List.set_cons_succ]
   refine takeQ 3 (v := ?_) rfl (Or.inl ⟨by rfl, ?_⟩) ?_
   rotate_left
   ·intro w h; (try dsimp only at h); go_simp; (try with_reducible rfl)
   simp only [Act.put, List.setIfInBounds_toArray, List.set_cons_zero, List.set_cons_succ]
   refine takeQ 4 (v := ?_) rfl (Or.inl ⟨by rfl, ?_⟩) ?_
   rotate_left
   ·intro w h; (try dsimp only at h); go_simp; (try with_reducible rfl)
   simp only [Act.put, List.setIfInBounds_toArray, List.set_cons_zero, List.set_cons_succ]
   refine takeQ 5 (v := ?_) rfl (Or.inl ⟨by rfl, ?_⟩) ?_
   rotate_left
   ·intro w h; (try dsimp only at h); go_simp; (try with_reducible rfl)
   simp only [Act.put, List.setIfInBounds_toArray, List.set_cons_zero, List.set_cons_succ]
   refine takeQ 6 (v := ?_) rfl (Or.inl ⟨by rfl, ?_⟩) ?_
   rotate_left
   ·intro w h; (try dsimp only at h); go_simp; (try with_reducible rfl)
   simp only [Act.put, List.setIfInBounds_toArray, List.set_cons_zero, List.set_cons_succ]
   refine takeQ 7 (v := ?_) rfl (Or.inl ⟨by rfl, ?_⟩) ?_
   rotate_left
   ·intro w h; (try dsimp only at h); go_simp; (try with_reducible rfl)
   simp only [Act.put, List.setIfInBounds_toArray, List.set_cons_zero, List.set_cons_succ]
   refine takeQ 8 (v := ?_) rfl (Or.inl ⟨by rfl, ?_⟩) ?_
   rotate_left
   ·intro w h; (try dsimp only at h); go_simp; (try with_reducible rfl)
   simp only [Act.put, List.setIfInBounds_toArray, List.set_cons_zero, List.set_cons_succ]
   refine takeQ 9 (v := ?_) rfl (Or.inl ⟨by rfl, ?_⟩) ?_
   rotate_left
   ·intro w h; (try dsimp only at h); go_simp; (try with_reducible rfl)
   simp only [Act.put, List.setIfInBounds_toArray, List.set_cons_zero, List.set_cons_succ]
   refine oneT (i := 10) (by kernel_rfl) rfl (fun K hK => ?_)
   go_simp
   refine (UD.out _ _ _ _ _ (HRJ.out.ext (Below.refl _ _).drew)).mono ?_
   rintro e w2 ⟨A2, c2, rfl, hu2, hb2⟩
   have H2 := Lib.hid ((Below.refl wr.heap.size wr).drew.trans hb2)
   have HU2 := Lib.hid hu2
   have HS := Lib.hid (fun w' (h : Below wr.heap.size wr w') => (⟨ext_cell h x0, ext_cell h x1, ext_cell h x2, ext_cell h x3, ext_cell h x4, ext_cell h y0, ext_cell h y1, ext_cell h y2⟩ : w'.cell? ⟨b, o + j * 5, none⟩ = some (.int .i64 x.k) ∧ w'.cell? ⟨b, o + j * 5 + 1, none⟩ = some (.int .i64 x.a) ∧ w'.cell? ⟨b, o + j * 5 + 2, none⟩ = some (.int .i64 x.b) ∧ w'.cell? ⟨b, o + j * 5 + 3, none⟩ = some (.int .i64 x.c) ∧ w'.cell? ⟨b, o + j * 5 + 4, none⟩ = some (.slice A' x.row.length cap') ∧ w'.cell? ⟨g, j * 3, none⟩ = some (.int .i64 sj.v) ∧ w'.cell? ⟨g, j * 3 + 1, none⟩ = some (.int .i64 sj.h) ∧ w'.cell? ⟨g, j * 3 + 2, none⟩ = some (.slice Aj sj.rows.length cj)))
   clear hu2 hb2 x0 x1 x2 x3 x4 y0 y1 y2
   go_simp
   refine hK.out _ _ (fun _ => HS.out _ H2.out) (fun hHeld => ?_)
   clear hK K
   try simp only [Act.put, List.setIfInBounds_toArray, List.set_cons_zero, List.set_cons_succ]
   have hHeld := hHeld (by decide)
   refine oneT (i := 11) (by kernel_rfl) rfl (fun K hK => ?_)
   go_simp
   refine hK.out _ _ (fun _ => HS.out _ (H2.out.alloc H2.out.size _)) (fun hHeld => ?_)
   clear hK K
   try simp only [Act.put, List.setIfInBounds_toArray, List.set_cons_zero, List.set_cons_succ]
   have hHeld := hHeld (by decide)
   refine oneT (i := 12) (by kernel_rfl) rfl (fun K hK => ?_)
   have HOW2 := Lib.hid (HOWN.out.ext H2.out)
   have HFR := Lib.hid (HOWN.out.fresh (HU2.out))
   have hsr := HBEL.out.size
   have hs2 := H2.out.size
   have hsw : w.heap.size + 1 ≤ wr.heap.size := by
    have h1 := (HVS.out.outer)
    have := World.ownsRow.lt h1 g rfl
    omega
   refine step_appendStp rfl (.tmp 21) (.tmp 32) rfl (w.heap.size + 1) w2 (.slice A8 k c8) (.slice A2 yn.row.length c2) ((undL p s xs xs.length).reverse.take k) us yn HOW2.out (HU2.out.mono (by simpa using hsw)) HFR.out (by rw [HTL.out]; omega) (by omega) rfl rfl ?_
   intro g3 cap3 w3 hown3 hg3 hb3
   rw [HTL.out] at hown3 ⊢
   have HO3 := Lib.hid hown3; have HB3 := Lib.hid hb3; have HG3 := Lib.hid hg3
   clear hown3 hg3 hb3
   refine hK.out _ _ (fun h => absurd h (by decide)) (fun _ => ?_)
   clear hK K
   try simp only [Act.put, List.setIfInBounds_toArray, List.set_cons_zero, List.set_cons_succ]
   refine oneT (i := 13) (by kernel_rfl) rfl (fun K hK => ?_)
   go_simp
   refine hK.out _ _ (fun h => absurd h (by decide)) (fun _ => ?_)
   clear hK K hHeld
   try simp only [Act.put, List.setIfInBounds_toArray, List.set_cons_zero, List.set_cons_succ]
   refine doneT (by kernel_rfl) ?_ _
   have hnew : BRel p s xs w g m gc (k + 1) (.slice (some ⟨g3, 0, none⟩) (k + 1) cap3) w3 := by
    refine ⟨by have := HJK.out; omega, ⟨_, cap3, us ++ [.slice A2 yn.row.length c2], rfl, by rw [HTK.out]; exact HO3.out⟩, ⟨vs, (HVS.out.ext H2.out).keptT (by decide) (by decide) (by decide) HOW2.out.outer HG3.out⟩, (below_ext HBEL.out H2.out).trans (HB3.out.mono (by omega))⟩
   have HNEW := Lib.hid hnew
   clear hnew
   go_wp2
   go_roundw
   case rel => exact ⟨k + 1, _, rfl, Lib.hid (by have := HQ.out; omega), by omega, by omega, HNEW.out⟩
   case measure => simp [intOf] <;> omega
  ·have HKN := Lib.hid (show k = xs.length by have := HQ.out; omega)
   go_wp2
   go_ret
   refine ⟨_, rfl, ?_, HBEL.out⟩
   have := HOWN.out
   rw [List.take_of_length_le (by rw [List.length_reverse, undL_len]; have := HKN.out; omega)] at this
   exact ⟨us, this.mono (by omega)⟩
end Go.Proofs.YtjdbfokbgmbphaaGreatDoor
