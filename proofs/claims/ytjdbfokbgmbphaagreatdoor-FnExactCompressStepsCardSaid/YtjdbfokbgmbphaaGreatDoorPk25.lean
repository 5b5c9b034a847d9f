/- impl.run: it makes steps up to the first one that is not possible. Conditions: the system is valid, there are at most 3000 steps, the table of primes is laid. | Slices of systems that a call makes, and appends of steps and of systems. Conditions: lengths of at most 2^20. -/
import Derived.Test.YtjdbfokbgmbphaaGreatDoorPk22
import Derived.Test.YtjdbfokbgmbphaaGreatDoorPk24
import Derived.Deep.AppendLies
namespace Go.Proofs.YtjdbfokbgmbphaaGreatDoor
set_option linter.unusedVariables false
set_option linter.unusedSimpArgs false
open Go.RowKit

abbrev syV (s : Sy) (A : Option Addr) (c : Nat) : Value := .agg #[.int .i64 s.v, .int .i64 s.h, .slice A s.rows.length c]
abbrev stpV (x : Stp) (A : Option Addr) (c : Nat) : Value := .agg #[.int .i64 x.k, .int .i64 x.a, .int .i64 x.b, .int .i64 x.c, .slice A x.row.length c]
abbrev syBox (s : Sy) (A : Option Addr) (c : Nat) : Obj := .cells #[.int .i64 s.v, .int .i64 s.h, .slice A s.rows.length c] 30 (0, 0)

/-- makeStep where the step is possible, and where it is not. -/
theorem mkS_yes (p : Int) (s : Sy) (x : Stp) (A : Option Addr) (cap : Nat) (w : World) (XA : Option Addr) (xcap : Nat) (hP : Primes w) (hR : RowsAt w A s.rows) (hX : IntsAt w XA x.row) (hrow : x.row.length ≤ 1048576) (hs : s.Ok p) (ho : okTo p s x = true) :
    Calls Tryz.prog 53 #[.int .i64 p, .agg #[.int .i64 s.v, .int .i64 s.h, .slice A s.rows.length cap], .agg #[.int .i64 x.k, .int .i64 x.a, .int .i64 x.b, .int .i64 x.c, .slice XA x.row.length xcap]] w fun e w' =>
      ∃ A2 c2, e = .returned (.tuple #[.agg #[.int .i64 (stepTo p s x).v, .int .i64 (stepTo p s x).h, .slice A2 (stepTo p s x).rows.length c2], .bool true]) ∧ OwnRows w' w.heap.size (.slice A2 (stepTo p s x).rows.length c2) (stepTo p s x).rows ∧ Below w.heap.size w w' := by
  have := mk_any p s.v s.h x.k x.a x.b x.c A cap s.rows w XA x.row xcap hP hR hX hrow hs
  refine this.mono fun e w' he => ?_
  obtain ⟨v2, h2, A2, n2, c2, e1, e2, e3, e4⟩ := he
  unfold okTo at ho
  rw [ho] at e1
  obtain ⟨a1, a2, a3⟩ := e2 ho
  obtain ⟨A3, c3, e5, _⟩ := a3.view
  simp only [Value.slice.injEq] at e5
  obtain ⟨rfl, rfl, rfl⟩ := e5
  subst a1 a2
  exact ⟨A2, c2, e1, a3, e4⟩
theorem mkS_no (p : Int) (s : Sy) (x : Stp) (A : Option Addr) (cap : Nat) (w : World) (XA : Option Addr) (xcap : Nat) (hP : Primes w) (hR : RowsAt w A s.rows) (hX : IntsAt w XA x.row) (hrow : x.row.length ≤ 1048576) (hs : s.Ok p) (ho : okTo p s x = false) :
    Calls Tryz.prog 53 #[.int .i64 p, .agg #[.int .i64 s.v, .int .i64 s.h, .slice A s.rows.length cap], .agg #[.int .i64 x.k, .int .i64 x.a, .int .i64 x.b, .int .i64 x.c, .slice XA x.row.length xcap]] w fun e w' =>
      e = .returned (.tuple #[.agg #[.int .i64 0, .int .i64 0, .slice none 0 0], .bool false]) ∧ Below w.heap.size w w' := by
  have := mk_any p s.v s.h x.k x.a x.b x.c A cap s.rows w XA x.row xcap hP hR hX hrow hs
  refine this.mono fun e w' he => ?_
  obtain ⟨v2, h2, A2, n2, c2, e1, e2, e3, e4⟩ := he
  unfold okTo at ho
  rw [ho] at e1
  obtain ⟨rfl, rfl, rfl, rfl, rfl⟩ := e3 ho
  exact ⟨e1, e4⟩

def RunTo (p : Int) (s : Sy) (xs : List Stp) (w : World) (e : Ending) (w' : World) : Prop :=
  (firstBad p s xs < xs.length → e = .returned (.tuple #[.agg #[.int .i64 0, .int .i64 0, .slice none 0 0], .int .i64 (firstBad p s xs : Nat)])) ∧
  (firstBad p s xs = xs.length → ∃ A2 c2, e = .returned (.tuple #[.agg #[.int .i64 (sysAt p s xs xs.length).v, .int .i64 (sysAt p s xs xs.length).h, .slice A2 (sysAt p s xs xs.length).rows.length c2], .int .i64 (-1)]) ∧ OwnRows w' w.heap.size (.slice A2 (sysAt p s xs xs.length).rows.length c2) (sysAt p s xs xs.length).rows) ∧
  Below w.heap.size w w'

/-- Behind k rounds. -/
def RunRel (p : Int) (s : Sy) (xs : List Stp) (w : World) (b8 k : Nat) (wr : World) : Prop :=
  k ≤ firstBad p s xs ∧ (∃ A2 c2, wr.heap[b8]? = some (.cells #[.int .i64 (sysAt p s xs k).v, .int .i64 (sysAt p s xs k).h, .slice A2 (sysAt p s xs k).rows.length c2] 30 (0, 0)) ∧ OwnRows wr (w.heap.size + 2) (.slice A2 (sysAt p s xs k).rows.length c2) (sysAt p s xs k).rows) ∧
  wr.heap[w.heap.size + 1]? = some (.cells #[.int .i64 0, .int .i64 0, .slice none 0 0] 30 (0, 0)) ∧ Below w.heap.size w wr
theorem RunRel.next {p : Int} {s : Sy} {xs : List Stp} {w wr w2 : World} {b8 k : Nat} {x : Stp} {o : Obj} {A2 : Option Addr} {c2 : Nat} (h : RunRel p s xs w b8 k wr) (h8 : w.heap.size + 2 ≤ b8) (hx : xs[k]? = some x) (ho : okTo p (sysAt p s xs k) x = true)
    (hb : Below wr.heap.size wr w2) (hu : OwnRows w2 wr.heap.size (.slice A2 (stepTo p (sysAt p s xs k) x).rows.length c2) (stepTo p (sysAt p s xs k) x).rows) :
    RunRel p s xs w b8 (k + 1) ((((w2.alloc o).setCell ⟨b8, 0, none⟩ (.int .i64 (stepTo p (sysAt p s xs k) x).v)).setCell ⟨b8, 1, none⟩ (.int .i64 (stepTo p (sysAt p s xs k) x).h)).setCell ⟨b8, 2, none⟩ (.slice A2 (stepTo p (sysAt p s xs k) x).rows.length c2)) := by
  obtain ⟨h1, ⟨A1, c1, hq, hown⟩, h6, hbel⟩ := h
  have hlt : b8 < wr.heap.size := (Array.getElem?_eq_some_iff.1 hq).1
  have hB : Below w.heap.size w (w2.alloc o) := (below_ext hbel hb).alloc (below_ext hbel hb).size _
  have hb2 : Below wr.heap.size wr (w2.alloc o) := hb.alloc hb.size _
  refine ⟨bad_step h1 hx ho, ⟨A2, c2, ?_, ?_⟩, ?_, below_set3' hB (by omega) _ _ _⟩
  · rw [sysAt_succ hx]
    exact set3_block (box_at hq hb2)
  · rw [sysAt_succ hx]
    exact ((((hu.ext ((Below.refl _ _).alloc (Nat.le_refl _) o)).setCell (by simp <;> omega) _).setCell (by simp <;> omega) _).setCell (by simp <;> omega) _).mono (by have := hbel.size; omega)
  · have := box_at h6 hb2
    rw [heap_setCell_other _ _ _ _ (by simp <;> omega), heap_setCell_other _ _ _ _ (by simp <;> omega), heap_setCell_other _ _ _ _ (by simp <;> omega)]
    exact this

set_option maxRecDepth 100000 in
set_option maxHeartbeats 4000000 in
theorem run_any (p : Int) (s : Sy) (A : Option Addr) (cap : Nat) (xs : List Stp) (w : World) (XA : Option Addr) (xcap : Nat) (hP : Primes w) (hR : RowsAt w A s.rows) (hX : StepsAt w XA xs) (hok : s.Ok p) (hm : xs.length ≤ 3000) (hms : ∀ x ∈ xs, x.row.length ≤ 1048576) :
    Calls Tryz.prog 62 #[.int .i64 p, .agg #[.int .i64 s.v, .int .i64 s.h, .slice A s.rows.length cap], .slice XA xs.length xcap] w (RunTo p s xs w) := by
  have hs := hok.small
  have HR := Lib.hid hR; have HX := Lib.hid hX; have HP := Lib.hid hP; have HOK := Lib.hid hok; have HMS := Lib.hid hms
  have HN := Lib.hid (show s.rows.length ≤ 1048576 by have := hs.n; omega)
  have HL := Lib.hid (show ∀ r ∈ s.rows, r.length ≤ 1048576 from fun r hr => by have := hs.len r hr; omega)
  clear hR hX hP hok hms hs
  have hB2 : Below w.heap.size w ((w.alloc (.cells #[.int .i64 s.v, .int .i64 s.h, .slice A s.rows.length cap] 30)).alloc (.cells #[.int .i64 0, .int .i64 0, .slice none 0 0] 30)) := ((Below.refl w.heap.size w).alloc (by simp) _).alloc (by simp) _
  have q2 : ((w.alloc (.cells #[.int .i64 s.v, .int .i64 s.h, .slice A s.rows.length cap] 30)).alloc (.cells #[.int .i64 0, .int .i64 0, .slice none 0 0] 30)).heap[w.heap.size + 1]? = some (.cells #[.int .i64 0, .int .i64 0, .slice none 0 0] 30 (0, 0)) := heap_at _ _ (by simp)
  have HB2 := Lib.hid hB2; have Q2 := Lib.hid q2
  clear hB2 q2
  go_enter Tryz.func62, Tryz.ntmps62
  go_wp2_with (go_at_call 95; refine (copy_any _ _ _ _ _ _ (HR.out.ext HB2.out) HN.out HL.out).mono ?_; rintro e w1 ⟨u, rfl, hu, hb1⟩; obtain ⟨A1, c1, rfl, _⟩ := hu.view; have HU1 := Lib.hid hu; have HB1 := Lib.hid hb1; clear hu hb1)
  have hsz1 := HB1.out.size
  simp only [World.size_alloc] at hsz1
  have hst : RunRel p s xs w w1.heap.size 0 (w1.alloc (.cells #[.int .i64 s.v, .int .i64 s.h, .slice A1 s.rows.length c1] 30)) := by
    have hB3 := HB2.out.trans (HB1.out.mono (B' := w.heap.size) (by simp <;> omega))
    refine ⟨Nat.zero_le _, ⟨A1, c1, ?_, ?_⟩, ?_, hB3.alloc hB3.size _⟩
    · rw [sysAt_zero]; exact heap_at _ _ rfl
    · rw [sysAt_zero]; exact (HU1.out.ext ((Below.refl _ _).alloc (Nat.le_refl _) _)).mono (by simp)
    · exact box_at (box_at Q2.out HB1.out) ((Below.refl _ _).alloc (Nat.le_refl _) _)
  have HST := Lib.hid hst
  clear hst HU1 HB1 Q2 HB2 HR HN HL
  go_loopw [17] (fun i wr => ∃ k : Nat, k ≤ xs.length ∧ i = .int .i64 k ∧ RunRel p s xs w w1.heap.size k wr)
    (fun i _ => xs.length - (intOf i).toNat)
  case atStart => exact ⟨0, Nat.zero_le _, rfl, HST.out⟩
  case round =>
    obtain ⟨k, hk, rfl, hrel⟩ := hrel
    clear HST
    have HREL := Lib.hid hrel
    obtain ⟨hk1, ⟨A2, c2, hq, hown⟩, h6, hbel⟩ := hrel
    have HOWN := Lib.hid hown; have HQ := Lib.hid hq; have H6 := Lib.hid h6; have HBEL := Lib.hid hbel
    obtain ⟨sk, hsk⟩ : ∃ sk, sk = sysAt p s xs k := ⟨_, rfl⟩
    have HSK := Lib.hid hsk
    have HOKK := Lib.hid (show sk.Ok p by rw [hsk]; exact sysAt_ok HOK.out hk1)
    rw [← hsk] at HOWN HQ
    clear hq hown h6 hbel hsk
    by_cases hlt : k < xs.length
    · obtain ⟨x, hx⟩ := get_of_lt hlt
      obtain ⟨b, o, rfl, hc⟩ := (HX.out.ext HBEL.out).here hlt
      obtain ⟨A', cap', ⟨x0, x1, x2, x3, x4⟩, hin⟩ := hc k x hx
      have HRW := Lib.hid (HMS.out x (List.mem_of_getElem? hx))
      have HIN := Lib.hid hin; have HXK := Lib.hid hx
      clear hc hin hx
      go_upto_region 5 with (fail)
      obtain ⟨W2, hW2⟩ : ∃ W2, W2 = wr.alloc (.cells #[.int .i64 x.k, .int .i64 x.a, .int .i64 x.b, .int .i64 x.c, .slice A' x.row.length cap'] 34) := ⟨_, rfl⟩
      rw [← hW2]
      have hA : Below wr.heap.size wr W2 := by rw [hW2]; exact (Below.refl _ _).alloc (Nat.le_refl _) _
      have hq2 : W2.heap[wr.heap.size]? = some (.cells #[.int .i64 x.k, .int .i64 x.a, .int .i64 x.b, .int .i64 x.c, .slice A' x.row.length cap'] 34 (0, 0)) := by rw [hW2]; exact heap_at _ _ rfl
      have HA := Lib.hid hA
      clear x0 x1 x2 x3 x4
      obtain ⟨d0, d1, d2, _⟩ := cells3 (box_at HQ.out hA)
      obtain ⟨x0, x1, x2, x3, x4⟩ := cells_5 hq2
      clear hA hq2 hW2
      cases ho : okTo p sk x with
      | true =>
        have HO := Lib.hid ho
        clear ho
        obtain ⟨sn, hsn⟩ : ∃ sn, sn = stepTo p sk x := ⟨_, rfl⟩
        have HSN := Lib.hid hsn
        have MK := Lib.hid (fun (A cap W XA xcap h1 h2 h3) => mkS_yes p sk x A cap W XA xcap h1 h2 h3 HRW.out HOKK.out HO.out)
        rw [← hsn] at MK
        clear hsn
        go_upto_region 6 with (go_at_call 53; refine (MK.out _ _ _ _ _ (HP.out.ext (below_ext HBEL.out HA.out)) ((rows_at HOWN.out).ext HA.out) (HIN.out.ext HA.out)).mono ?_; rintro e w2 ⟨A3, c3', rfl, hu, hb⟩; clear d0 d1 d2 x0 x1 x2 x3 x4; have HB := Lib.hid (HA.out.trans (hb.mono HA.out.size)); have HU := Lib.hid (hu.mono HA.out.size); clear hu hb)
        obtain ⟨W3, hW3⟩ : ∃ W3, W3 = w2.alloc (.cells #[.int .i64 sn.v, .int .i64 sn.h, .slice A3 sn.rows.length c3'] 30) := ⟨_, rfl⟩
        rw [← hW3]
        have hC : Below w2.heap.size w2 W3 := by rw [hW3]; exact (Below.refl _ _).alloc (Nat.le_refl _) _
        have hq3 : W3.heap[w2.heap.size]? = some (.cells #[.int .i64 sn.v, .int .i64 sn.h, .slice A3 sn.rows.length c3'] 30 (0, 0)) := by rw [hW3]; exact heap_at _ _ rfl
        obtain ⟨d0, d1, d2, f0, f1, f2⟩ := cells3 (box_at (box_at HQ.out HB.out) hC)
        obtain ⟨x0, x1, x2⟩ := cells_3 hq3
        have HW3 := Lib.hid hW3
        clear hC hq3 hW3
        go_wp2
        go_roundw
        case rel =>
          have hn := HREL.out.next (o := .cells #[.int .i64 sn.v, .int .i64 sn.h, .slice A3 sn.rows.length c3'] 30) (x := x) (by omega) HXK.out (by rw [← HSK.out]; exact HO.out) HB.out (by rw [← HSK.out, ← HSN.out]; exact HU.out)
          rw [← HSK.out, ← HSN.out, ← HW3.out] at hn
          exact ⟨k + 1, by omega, by go_num, hn⟩
        case measure => simp [intOf]; omega
      | false =>
        have HO := Lib.hid ho
        clear ho
        have MK := Lib.hid (fun (A cap W XA xcap h1 h2 h3) => mkS_no p sk x A cap W XA xcap h1 h2 h3 HRW.out HOKK.out HO.out)
        go_upto_region 6 with (go_at_call 53; refine (MK.out _ _ _ _ _ (HP.out.ext (below_ext HBEL.out HA.out)) ((rows_at HOWN.out).ext HA.out) (HIN.out.ext HA.out)).mono ?_; rintro e w2 ⟨rfl, hb⟩; clear d0 d1 d2 x0 x1 x2 x3 x4; have HB := Lib.hid (HA.out.trans (hb.mono HA.out.size)); clear hb)
        obtain ⟨W3, hW3⟩ : ∃ W3, W3 = w2.alloc (.cells #[.int .i64 0, .int .i64 0, .slice none 0 0] 30) := ⟨_, rfl⟩
        rw [← hW3]
        have hC : Below w2.heap.size w2 W3 := by rw [hW3]; exact (Below.refl _ _).alloc (Nat.le_refl _) _
        obtain ⟨d0, d1, d2, f0, f1, f2⟩ := cells3 (box_at (box_at H6.out HB.out) hC)
        have HC := Lib.hid (below_ext (below_ext HBEL.out HB.out) hC)
        clear hC hW3
        go_wp2
        have hfb := bad_here hk1 HXK.out (by rw [← HSK.out]; exact HO.out)
        refine bodyPost_ret (v := .tuple #[.agg #[.int .i64 0, .int .i64 0, .slice none 0 0], .int .i64 k]) (by simp [results, Tryz.results62, go_sem, *]) rfl ⟨fun _ => by rw [hfb], fun h => by omega, ?_⟩
        exact below_set3' HC.out (by omega) _ _ _
    · have hkn : k = xs.length := by omega
      have HKN := Lib.hid hkn
      obtain ⟨d0, d1, d2, _⟩ := cells3 HQ.out
      obtain ⟨g0, g1, g2, f0, f1, f2⟩ := cells3 H6.out
      clear hkn
      go_wp2
      refine bodyPost_ret (v := .tuple #[.agg #[.int .i64 sk.v, .int .i64 sk.h, .slice A2 sk.rows.length c2], .int .i64 (-1)]) (by simp [results, Tryz.results62, go_sem, *]) rfl ⟨fun h => by have := HKN.out; omega, fun _ => ⟨A2, c2, ?_, ?_⟩, ?_⟩
      · rw [← HKN.out, ← HSK.out]
      · rw [← HKN.out, ← HSK.out]
        exact (((HOWN.out.setCell (by simp <;> omega) _).setCell (by simp <;> omega) _).setCell (by simp <;> omega) _).mono (by omega)
      · exact below_set3' HBEL.out (by omega) _ _ _
end Go.Proofs.YtjdbfokbgmbphaaGreatDoor

namespace Go.Proofs.YtjdbfokbgmbphaaGreatDoor
set_option linter.unusedVariables false
set_option linter.unusedSimpArgs false
open Go.RowKit

theorem infoSy : (Tryz.prog.info? 30).map (fun i => (i.zero, i.size, i.bytes)) = some (some (.agg #[.int .i64 0, .int .i64 0, .slice none 0 0]), 3, 40) := by kernel_rfl

theorem OwnRows.keptT {w w' : World} {B B' s n : Nat} {T : TypeId} {u v : Value} {rows : List (List Int)} {xs : List Value} (h : OwnRows w B u rows) (h1 : 25 ≠ T) (h2 : 3 ≠ T) (hv : w.ownsRow B' T s v n xs) (hg : w.grownBy w' v.ownBlock) : OwnRows w' B u rows := by
  obtain ⟨us, h⟩ := h
  exact ⟨us, World.ownsRow.kept h.outer hg (apart_ty h1 h.outer hv), fun k u' r hu hr => OwnInts.kept (h.each k u' r hu hr) hg (apart_ty h2 (h.each k u' r hu hr) hv), h.apart⟩

def syCells (x : Sy) (u : Value) : List Value := [.int .i64 x.v, .int .i64 x.h, u]
def flatY : List Sy → List Value → List Value
  | x :: xs, u :: us => syCells x u ++ flatY xs us
  | _, _ => []
theorem flatY_len : ∀ {xs : List Sy} {us : List Value}, us.length = xs.length → (flatY xs us).length = xs.length * 3
  | [], us, _ => by simp [flatY]
  | x :: xs, [], h => by simp at h
  | x :: xs, u :: us, h => by
    have := flatY_len (xs := xs) (us := us) (by simpa using h)
    simp [flatY, syCells, this]; omega
theorem flatY_get {j : Nat} (hj : j < 3) : ∀ {xs : List Sy} {us : List Value} {k : Nat} {x : Sy} {u : Value}, xs[k]? = some x → us[k]? = some u → (flatY xs us)[k * 3 + j]? = (syCells x u)[j]?
  | [], us, k, x, u, h, _ => by simp at h
  | x :: xs, [], k, _, _, _, h => by simp at h
  | x :: xs, u :: us, 0, y, t, h, h2 => by
    simp at h h2; subst h h2
    rw [flatY, List.getElem?_append_left (by simp [syCells]; omega)]; simp
  | x :: xs, u :: us, k + 1, y, t, h, h2 => by
    simp only [List.getElem?_cons_succ] at h h2
    have := flatY_get hj h h2
    rw [flatY, List.getElem?_append_right (by simp [syCells]; omega)]
    rw [← this]; congr 1; simp [syCells]; omega
theorem flatY_snoc : ∀ {xs : List Sy} {us : List Value} (x : Sy) (u : Value), us.length = xs.length → flatY (xs ++ [x]) (us ++ [u]) = flatY xs us ++ syCells x u
  | [], us, x, u, h => by
    have : us = [] := List.eq_nil_of_length_eq_zero (by simpa using h)
    subst this; simp [flatY]
  | x :: xs, [], _, _, h => by simp at h
  | x :: xs, u :: us, y, t, h => by
    have := flatY_snoc (xs := xs) (us := us) y t (by simpa using h)
    simp [flatY, this]

structure OwnSyW (w : World) (B : Nat) (v : Value) (xs : List Sy) (us : List Value) : Prop where
  len : us.length = xs.length
  outer : w.ownsRow B 30 3 v xs.length (flatY xs us)
  each : ∀ (k : Nat) (u : Value) (x : Sy), us[k]? = some u → xs[k]? = some x → OwnRows w B u x.rows
def OwnSy (w : World) (B : Nat) (v : Value) (xs : List Sy) : Prop := ∃ us, OwnSyW w B v xs us

/-- The address A holds systems that read as xs. -/
def SysAt (w : World) (A : Option Addr) (xs : List Sy) : Prop :=
  xs = [] ∨ ∃ b o, A = some ⟨b, o, none⟩ ∧ ∀ (k : Nat) (x : Sy), xs[k]? = some x → ∃ A' cap, (w.cell? ⟨b, o + k * 3, none⟩ = some (.int .i64 x.v) ∧ w.cell? ⟨b, o + k * 3 + 1, none⟩ = some (.int .i64 x.h) ∧ w.cell? ⟨b, o + k * 3 + 2, none⟩ = some (.slice A' x.rows.length cap)) ∧ RowsAt w A' x.rows

section
variable {w w' : World} {B : Nat} {v : Value} {xs : List Sy} {us : List Value}
theorem OwnSyW.get (h : OwnSyW w B v xs us) {k : Nat} {x : Sy} (hx : xs[k]? = some x) : ∃ u, us[k]? = some u ∧ OwnRows w B u x.rows := by
  have : k < us.length := by rw [h.len]; exact (List.getElem?_eq_some_iff.1 hx).1
  obtain ⟨u, hu⟩ := get_of_lt this
  exact ⟨u, hu, h.each k u x hu hx⟩
theorem OwnSy.view (h : OwnSy w B v xs) : ∃ A cap, v = .slice A xs.length cap ∧ SysAt w A xs ∧ xs.length ≤ cap ∧ cap ≤ maxLen := by
  obtain ⟨us, h⟩ := h
  have hc := fun g => World.ownsRow.cells h.outer (g := g)
  rcases h.outer.2 with ⟨rfl, hn⟩ | ⟨g, cap, cur, rfl, hb, hg, hn, hm, hr⟩
  · exact ⟨none, 0, by rw [hn], Or.inl (List.eq_nil_of_length_eq_zero hn), by omega, by decide⟩
  · refine ⟨_, cap, rfl, Or.inr ⟨g, 0, rfl, fun k x hk => ?_⟩, hn, hm⟩
    obtain ⟨u, hu, ho⟩ := h.get hk
    obtain ⟨A', c', rfl, hi, _⟩ := ho.view
    have hj : ∀ (j : Nat) (y : Value), j < 3 → (syCells x (.slice A' x.rows.length c'))[j]? = some y → w.cell? ⟨g, 0 + k * 3 + j, none⟩ = some y := fun j y h5 hy => by
      have := hc g rfl (k * 3 + j) y (by rw [flatY_get h5 hk hu]; exact hy)
      rwa [addr_add, ← Nat.add_assoc] at this
    exact ⟨A', c', ⟨hj 0 _ (by decide) rfl, hj 1 _ (by decide) rfl, hj 2 _ (by decide) rfl⟩, hi⟩
theorem OwnSyW.ext (h : OwnSyW w B v xs us) (hb : Below w.heap.size w w') : OwnSyW w' B v xs us :=
  ⟨h.len, World.ownsRow.kept h.outer (row := none) ⟨hb.os, hb.tape, hb.output, hb.size, fun k hk _ => hb.block k hk⟩ (by cases v.ownBlock <;> simp), fun k u r hu hr => (h.each k u r hu hr).ext hb⟩
theorem OwnSy.ext (h : OwnSy w B v xs) (hb : Below w.heap.size w w') : OwnSy w' B v xs := by
  obtain ⟨us, h⟩ := h
  exact ⟨us, h.ext hb⟩
theorem OwnSyW.mono {B' : Nat} (h : OwnSyW w B v xs us) (hB : B' ≤ B) : OwnSyW w B' v xs us :=
  ⟨h.len, ⟨h.outer.1, h.outer.2.imp id fun ⟨g, cap, cur, a1, a2, a3⟩ => ⟨g, cap, cur, a1, by omega, a3⟩⟩, fun k u r hu hr => (h.each k u r hu hr).mono hB⟩
theorem OwnSy.mono {B' : Nat} (h : OwnSy w B v xs) (hB : B' ≤ B) : OwnSy w B' v xs := by
  obtain ⟨us, h⟩ := h
  exact ⟨us, h.mono hB⟩
theorem OwnSy.nil (w : World) (B : Nat) : OwnSy w B (.slice none 0 0) [] := ⟨[], rfl, World.ownsRow_nil _ _ _ _, fun k u r hu => by simp at hu⟩
theorem OwnSy.lit (W : World) (B : Nat) (hB : B ≤ W.heap.size) : OwnSy (W.alloc (.cells #[] 30)) B (.slice (some ⟨W.heap.size, 0, none⟩) 0 0) [] :=
  ⟨[], rfl, World.ownsRow_lit W #[] 0 hB (by decide) rfl, fun k u r hu => by simp at hu⟩
theorem OwnSy.one (W : World) (B : Nat) (x : Sy) (u : Value) (hB : B ≤ W.heap.size) (hu : OwnRows W B u x.rows) : OwnSy (W.alloc (.cells #[.int .i64 x.v, .int .i64 x.h, u] 30)) B (.slice (some ⟨W.heap.size, 0, none⟩) 1 1) [x] := by
  refine ⟨[u], rfl, ?_, fun k u' x' hu' hx' => ?_⟩
  · exact ⟨rfl, Or.inr ⟨W.heap.size, 1, #[.int .i64 x.v, .int .i64 x.h, u], rfl, hB, heap_at _ _ rfl, Nat.le_refl _, by decide, rfl, rfl⟩⟩
  · cases k with
    | zero => simp at hu' hx'; subst hu' hx'; exact hu.ext ((Below.refl _ _).alloc (Nat.le_refl _) _)
    | succ k => simp at hu'
theorem OwnSyW.snoc {v' u : Value} {x : Sy} (h : OwnSyW w B v xs us) (hu : OwnRows w B u x.rows)
    (hown : w'.ownsRow B 30 3 v' (xs.length + 1) (flatY xs us ++ syCells x u)) (hg : w.grownBy w' v.ownBlock) : OwnSyW w' B v' (xs ++ [x]) (us ++ [u]) := by
  refine ⟨by simp [h.len], by rw [flatY_snoc _ _ h.len]; simpa using hown, ?_⟩
  intro k u' x' hu' hx'
  by_cases hk : k < us.length
  · rw [List.getElem?_append_left hk] at hu'
    rw [List.getElem?_append_left (by rw [← h.len]; exact hk)] at hx'
    exact OwnRows.keptT (h.each k u' x' hu' hx') (by decide) (by decide) h.outer hg
  · have hk' : k = us.length := by
      have := (List.getElem?_eq_some_iff.1 hu').1
      simp at this; omega
    subst hk'
    simp at hu'
    rw [h.len] at hx'
    simp at hx'
    subst hu' hx'
    exact OwnRows.keptT hu (by decide) (by decide) h.outer hg
end

/-- 'append(out, x)' of one system that lies in a block just made, as one step of a region that draws. -/
theorem step_appendSy {ops : Array Oper} {o : Oper} {a : Act} {K : Act → World → Prop} {Q : Exit → Act → World → Prop} {E : Prop} (hgd : o.guard = none) (s x : Operand)
    (ho : o.op = .call { callee := .builtin .append, args := #[s, x], argTypes := #[72, 72] }) (B : Nat) (W : World) (v u : Value) (xs : List Sy) (y : Sy)
    (hown : OwnSy W B v xs) (hu : OwnRows W B u y.rows) (hlen : xs.length + 1 ≤ 1048576) (hB : B ≤ W.heap.size) (hs : a.eval s = v) (hx : a.eval x = .slice (some ⟨W.heap.size, 0, none⟩) 1 1)
    (h : ∀ g cap w', OwnSy w' B (.slice (some ⟨g, 0, none⟩) (xs.length + 1) cap) (xs ++ [y]) → W.grownBy w' v.ownBlock → Below B W w' → K (a.put o.dst (.slice (some ⟨g, 0, none⟩) (xs.length + 1) cap)) w') :
    if Region.wanted o (yielded ops a.tmps) = true then Oper.wp Tryz.prog o a (W.alloc (.cells #[.int .i64 y.v, .int .i64 y.h, u] 30)) K Q else E := by
  obtain ⟨i0, hi, hz0, hz1, hz2⟩ := info_parts infoSy
  obtain ⟨us, hW⟩ := hown
  obtain ⟨A', c', rfl, _⟩ := hu.view
  have ho1 := World.ownsRow.alloc hW.outer (.cells #[.int .i64 y.v, .int .i64 y.h, .slice A' y.rows.length c'] 30)
  refine step_append_lies _ hgd s x 72 ho B 30 i0 (.agg #[.int .i64 0, .int .i64 0, .slice none 0 0]) 3 40 Tryz.underlying72 hi hz0 hz1 hz2 rfl (by decide) v _ _ hs ho1 ⟨W.heap.size, 0, none⟩ 1 1 (syCells y (.slice A' y.rows.length c')) hx rfl ?_ ?_ (by decide) ?_ ?_ ?_ _ rfl ?_
  · intro j u' hj
    match j, hj with
    | 0, hj => simp [syCells] at hj; subst hj; simp [Addr.add]
    | 1, hj => simp [syCells] at hj; subst hj; simp [Addr.add]
    | 2, hj => simp [syCells] at hj; subst hj; simp [Addr.add]
    | j + 3, hj => simp [syCells] at hj
  · intro u' hu'; simp [syCells] at hu'; rcases hu' with rfl | rfl | rfl <;> rfl
  · unfold maxLen; omega
  · omega
  · simp; omega
  · intro g cap w' hown' hgrow _ _
    have hg : W.grownBy w' v.ownBlock := ⟨hgrow.os, hgrow.tape, hgrow.output, by have := hgrow.size; simp at this; omega, fun k hk hne => (hgrow.block k (by simp; omega) hne).trans (heap_alloc_old W _ hk)⟩
    exact h g cap w' ⟨_, hW.snoc hu hown' hg⟩ hg ((Below.refl _ _).grown hg hB fun k hk => (World.ownsRow.lt hW.outer k hk).1)

/-- The same of a step. -/
theorem step_appendStp {ops : Array Oper} {o : Oper} {a : Act} {K : Act → World → Prop} {Q : Exit → Act → World → Prop} {E : Prop} (hgd : o.guard = none) (s x : Operand)
    (ho : o.op = .call { callee := .builtin .append, args := #[s, x], argTypes := #[45, 45] }) (B : Nat) (W : World) (v u : Value) (xs : List Stp) (us : List Value) (y : Stp)
    (hW : OwnStepsW W B v xs us) (hu : OwnInts W B u y.row) (hd : ∀ b, u.ownBlock = some b → ∀ u' ∈ us, u'.ownBlock ≠ some b) (hlen : xs.length + 1 ≤ 1048576) (hB : B ≤ W.heap.size) (hs : a.eval s = v) (hx : a.eval x = .slice (some ⟨W.heap.size, 0, none⟩) 1 1)
    (h : ∀ g cap w', OwnStepsW w' B (.slice (some ⟨g, 0, none⟩) (xs.length + 1) cap) (xs ++ [y]) (us ++ [u]) → W.grownBy w' v.ownBlock → Below B W w' → K (a.put o.dst (.slice (some ⟨g, 0, none⟩) (xs.length + 1) cap)) w') :
    if Region.wanted o (yielded ops a.tmps) = true then Oper.wp Tryz.prog o a (W.alloc (.cells #[.int .i64 y.k, .int .i64 y.a, .int .i64 y.b, .int .i64 y.c, u] 34)) K Q else E := by
  obtain ⟨i0, hi, hz0, hz1, hz2⟩ := info_parts infoStp
  obtain ⟨A', c', rfl, _⟩ := hu.view
  have ho1 := World.ownsRow.alloc hW.outer (.cells #[.int .i64 y.k, .int .i64 y.a, .int .i64 y.b, .int .i64 y.c, .slice A' y.row.length c'] 34)
  refine step_append_lies _ hgd s x 45 ho B 34 i0 (.agg #[.int .i64 0, .int .i64 0, .int .i64 0, .int .i64 0, .slice none 0 0]) 5 56 Tryz.underlying45 hi hz0 hz1 hz2 rfl (by decide) v _ _ hs ho1 ⟨W.heap.size, 0, none⟩ 1 1 (stpCells y (.slice A' y.row.length c')) hx rfl ?_ ?_ (by decide) ?_ ?_ ?_ _ rfl ?_
  · intro j u' hj
    match j, hj with
    | 0, hj => simp [stpCells] at hj; subst hj; simp [Addr.add]
    | 1, hj => simp [stpCells] at hj; subst hj; simp [Addr.add]
    | 2, hj => simp [stpCells] at hj; subst hj; simp [Addr.add]
    | 3, hj => simp [stpCells] at hj; subst hj; simp [Addr.add]
    | 4, hj => simp [stpCells] at hj; subst hj; simp [Addr.add]
    | j + 5, hj => simp [stpCells] at hj
  · intro u' hu'; simp [stpCells] at hu'; rcases hu' with rfl | rfl | rfl | rfl | rfl <;> rfl
  · unfold maxLen; omega
  · omega
  · simp; omega
  · intro g cap w' hown' hgrow _ _
    have hg : W.grownBy w' v.ownBlock := ⟨hgrow.os, hgrow.tape, hgrow.output, by have := hgrow.size; simp at this; omega, fun k hk hne => (hgrow.block k (by simp; omega) hne).trans (heap_alloc_old W _ hk)⟩
    exact h g cap w' (hW.snoc hu hd hown' hg) hg ((Below.refl _ _).grown hg hB fun k hk => (World.ownsRow.lt hW.outer k hk).1)
/-- The same in a region of the text's own order. -/
theorem wp_appendStp {ops : Array Oper} {rest : List Oper} {o : Oper} {a : Act} {Q : Exit → Act → World → Prop} (hgd : o.guard = none) (s x : Operand)
    (ho : o.op = .call { callee := .builtin .append, args := #[s, x], argTypes := #[45, 45] }) (B : Nat) (W : World) (v u : Value) (xs : List Stp) (us : List Value) (y : Stp)
    (hW : OwnStepsW W B v xs us) (hu : OwnInts W B u y.row) (hd : ∀ b, u.ownBlock = some b → ∀ u' ∈ us, u'.ownBlock ≠ some b) (hlen : xs.length + 1 ≤ 1048576) (hB : B ≤ W.heap.size) (hs : a.eval s = v) (hx : a.eval x = .slice (some ⟨W.heap.size, 0, none⟩) 1 1)
    (h : ∀ g cap w', OwnStepsW w' B (.slice (some ⟨g, 0, none⟩) (xs.length + 1) cap) (xs ++ [y]) (us ++ [u]) → W.grownBy w' v.ownBlock → Below B W w' → wpList Tryz.prog ops Q rest (a.put o.dst (.slice (some ⟨g, 0, none⟩) (xs.length + 1) cap)) w') :
    wpList Tryz.prog ops Q (o :: rest) a (W.alloc (.cells #[.int .i64 y.k, .int .i64 y.a, .int .i64 y.b, .int .i64 y.c, u] 34)) := by
  obtain ⟨i0, hi, hz0, hz1, hz2⟩ := info_parts infoStp
  obtain ⟨A', c', rfl, _⟩ := hu.view
  have ho1 := World.ownsRow.alloc hW.outer (.cells #[.int .i64 y.k, .int .i64 y.a, .int .i64 y.b, .int .i64 y.c, .slice A' y.row.length c'] 34)
  refine wpList_append_lies _ hgd s x 45 ho B 34 i0 (.agg #[.int .i64 0, .int .i64 0, .int .i64 0, .int .i64 0, .slice none 0 0]) 5 56 Tryz.underlying45 hi hz0 hz1 hz2 rfl (by decide) v _ _ hs ho1 ⟨W.heap.size, 0, none⟩ 1 1 (stpCells y (.slice A' y.row.length c')) hx rfl ?_ ?_ (by decide) ?_ ?_ ?_ _ rfl ?_
  · intro j u' hj
    match j, hj with
    | 0, hj => simp [stpCells] at hj; subst hj; simp [Addr.add]
    | 1, hj => simp [stpCells] at hj; subst hj; simp [Addr.add]
    | 2, hj => simp [stpCells] at hj; subst hj; simp [Addr.add]
    | 3, hj => simp [stpCells] at hj; subst hj; simp [Addr.add]
    | 4, hj => simp [stpCells] at hj; subst hj; simp [Addr.add]
    | j + 5, hj => simp [stpCells] at hj
  · intro u' hu'; simp [stpCells] at hu'; rcases hu' with rfl | rfl | rfl | rfl | rfl <;> rfl
  · unfold maxLen; omega
  · omega
  · simp; omega
  · intro g cap w' hown' hgrow _ _
    have hg : W.grownBy w' v.ownBlock := ⟨hgrow.os, hgrow.tape, hgrow.output, by have := hgrow.size; simp at this; omega, fun k hk hne => (hgrow.block k (by simp; omega) hne).trans (heap_alloc_old W _ hk)⟩
    exact h g cap w' (hW.snoc hu hd hown' hg) hg ((Below.refl _ _).grown hg hB fun k hk => (World.ownsRow.lt hW.outer k hk).1)
end Go.Proofs.YtjdbfokbgmbphaaGreatDoor
