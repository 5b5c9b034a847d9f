/- Both ReduceSteps. Conditions: lengths of at most 2^20; the table of primes is laid. -/
import Derived.Test.YtjdbfokbgmbphaaGreatDoorPk36
namespace Go.Proofs.YtjdbfokbgmbphaaGreatDoor
set_option linter.unusedVariables false
set_option linter.unusedSimpArgs false
open Go.RowKit

/-- No step of a reduction has a line. -/
def NoRows (X : List Stp) : Prop := ∀ x ∈ X, x.row = []
theorem NoRows.push {p : Int} {q : Sy × List Stp} {x : Stp} (h : NoRows q.2) (hx : x.row = []) : NoRows (push p q x).2 := by
  intro y hy
  simp only [Go.Proofs.YtjdbfokbgmbphaaGreatDoor.push, List.mem_append, List.mem_singleton] at hy
  rcases hy with hy | rfl
  · exact h y hy
  · exact hx
theorem NoRows.clr {p : Int} {a c : Nat} {iv : Int} {q : Sy × List Stp} (h : NoRows q.2) : ∀ i, NoRows (clr p a c iv i q).2
  | 0 => h
  | i + 1 => by
    have ih := NoRows.clr (p := p) (a := a) (c := c) (iv := iv) h i
    unfold Go.Proofs.YtjdbfokbgmbphaaGreatDoor.clr
    split
    · exact ih.push rfl
    · exact ih
theorem NoRows.red1 {p : Int} : ∀ (b : Nat) {q : Sy × List Stp}, NoRows q.2 → NoRows (red1 p b q).2
  | 0, _, h => h
  | b + 1, q, h => by
    unfold Go.Proofs.YtjdbfokbgmbphaaGreatDoor.red1
    refine NoRows.red1 b ?_
    split
    · exact h.push rfl
    · exact (h.clr _).push rfl
theorem NoRows.red2 {p : Int} : ∀ (m c : Nat) {z : Nat × (Sy × List Stp)}, NoRows z.2.2 → NoRows (red2 p m c z).2.2
  | 0, _, _, h => h
  | m + 1, c, z, h => by
    unfold Go.Proofs.YtjdbfokbgmbphaaGreatDoor.red2
    refine NoRows.red2 m (c + 1) ?_
    split
    · exact h
    · have ha : NoRows (red2a p c z.1 z.2).2 := by
        unfold red2a
        split
        · exact h.push rfl
        · exact h
      have hb : NoRows (red2b p c z.1 (red2a p c z.1 z.2)).2 := by
        unfold red2b
        split
        · exact ha.push rfl
        · exact ha
      exact hb.clr _
theorem NoRows.red3 {p : Int} {r : Nat} : ∀ (n : Nat) {q : Sy × List Stp}, NoRows q.2 → NoRows (red3 p r n q).2
  | 0, _, h => h
  | i + 1, q, h => by
    unfold Go.Proofs.YtjdbfokbgmbphaaGreatDoor.red3
    split
    · exact NoRows.red3 i (h.push rfl)
    · exact h
theorem redQ_rows (p : Int) (s : Sy) : NoRows (redQ p s).2 := by
  unfold redQ
  exact NoRows.red3 _ (NoRows.red2 _ _ (NoRows.red1 _ (fun x hx => by cases hx)))

def reOk (p : Int) (s : Sy) : Bool := sysB p s.v s.h s.rows && decide ((redQ p s).2.length ≤ 3000)
def reX (p : Int) (s : Sy) : List Stp := if reOk p s = true then (redQ p s).2 else []
theorem reX_le (p : Int) (s : Sy) : (reX p s).length ≤ 1048576 ∧ ∀ r ∈ reX p s, r.row.length ≤ 1048576 := by
  unfold reX
  split
  · rename_i h
    unfold reOk at h
    rw [Bool.and_eq_true, decide_eq_true_eq] at h
    exact ⟨by omega, fun r hr => by rw [redQ_rows p s r hr]; simp⟩
  · simp

set_option maxRecDepth 100000 in
set_option maxHeartbeats 4000000 in
theorem reduceSteps_any (p : Int) (s : Sy) (A : Option Addr) (cap : Nat) (w : World) (hP : Primes w) (hR : RowsAt w A s.rows) (hok : s.Ok p) :
    Calls Tryz.prog 67 #[.int .i64 p, .agg #[.int .i64 s.v, .int .i64 s.h, .slice A s.rows.length cap]] w fun e w' => ∃ u, e = .returned u ∧ OwnSteps w' w.heap.size u (redQ p s).2 ∧ Below w.heap.size w w' := by
  obtain ⟨w1, hw1⟩ : ∃ w1, w1 = w.alloc (.cells #[.int .i64 s.v, .int .i64 s.h, .slice A s.rows.length cap] 30) := ⟨_, rfl⟩
  have hb1 : Below w.heap.size w w1 := by rw [hw1]; exact (Below.refl _ _).alloc (Nat.le_refl _) _
  have hz1 : w1.heap.size = w.heap.size + 1 := by rw [hw1]; simp
  obtain ⟨w0, hw0⟩ : ∃ w0, w0 = w1.alloc (.cells #[.int .i64 p, .int .i64 s.v, .int .i64 s.h, .slice A s.rows.length cap, .slice none 0 0] 109) := ⟨_, rfl⟩
  have hb0 : Below w1.heap.size w1 w0 := by rw [hw0]; exact (Below.refl _ _).alloc (Nat.le_refl _) _
  have hqb : w0.heap[w.heap.size + 1]? = some (.cells #[.int .i64 p, .int .i64 s.v, .int .i64 s.h, .slice A s.rows.length cap, .slice none 0 0] 109 (0, 0)) := by rw [hw0]; exact heap_at _ _ hz1.symm
  have HH := (show RedAt 109 w1 w0 (w.heap.size + 1) p s [] from ⟨by omega, hb0, A, cap, none, 0, [], hqb, Or.inl (hR.ext hb1), by
    obtain ⟨us, h1⟩ := OwnSteps.nil w0 (w.heap.size + 1 + 1)
    have : us = [] := List.eq_nil_of_length_eq_zero (by have := h1.len; simpa using this)
    subst this
    exact h1⟩)
  have HRD := Lib.hid (implReduce w1 w0 (w.heap.size + 1) p s (hP.ext hb1) HH hok)
  have HB0 := Lib.hid (below_ext hb1 hb0)
  have HW0 := Lib.hid hw0; have HW1 := Lib.hid hw1
  clear hb1 hz1 hb0 hqb HH hP hR hok hw0 hw1
  go_enter Tryz.func67, Tryz.ntmps67
  go_upto_region 2 with (fail)
  rw [← HW1.out, ← HW0.out]
  go_wp2_with (go_at_call 101; refine HRD.out.mono ?_; rintro e w2 ⟨rfl, hr, hb⟩; have HR := Lib.hid hr; have HB := Lib.hid hb; obtain ⟨A8, c8, y4, ho8⟩ : ∃ A8 c8, w2.cell? ⟨w.heap.size + 1, 4, none⟩ = some (.slice A8 (redQ p s).2.length c8) ∧ OwnSteps w2 (w.heap.size + 1 + 1) (.slice A8 (redQ p s).2.length c8) (redQ p s).2 := (by obtain ⟨_, _, A, c, A8, c8, us, hq, _, ho⟩ := hr; obtain ⟨_, _, _, _, y4⟩ := cells_5 hq; exact ⟨A8, c8, y4, us, ho⟩); have HO8 := Lib.hid ho8; clear hr hb ho8)
  go_ret
  exact ⟨_, rfl, HO8.out.mono (by omega), HB0.out.trans (HB.out.mono (by omega))⟩

set_option maxRecDepth 100000 in
set_option maxHeartbeats 2000000 in
theorem implReduceC (p : Int) (s : Sy) (A : Option Addr) (cap : Nat) (w : World) (hP : Primes w) (hR : RowsAt w A s.rows) (hm : s.rows.length ≤ 1048576) (hms : ∀ r ∈ s.rows, r.length ≤ 1048576) :
    Calls Tryz.prog 32 #[.int .i64 p, .agg #[.int .i64 s.v, .int .i64 s.h, .slice A s.rows.length cap]] w (SteppedTo (reX p s) (reOk p s) w) := by
  have HB := Lib.hid ((Below.refl w.heap.size w).alloc (Nat.le_refl _) (.cells #[.int .i64 s.v, .int .i64 s.h, .slice A s.rows.length cap] 30))
  have HT := Lib.hid (isSystem_any p s.v s.h A cap s.rows _ (hP.ext HB.out) (hR.ext HB.out) (len_max hm) (fun r hr => len_max (hms r hr)))
  have hq : (w.alloc (.cells #[.int .i64 s.v, .int .i64 s.h, .slice A s.rows.length cap] 30)).heap[w.heap.size]? = some (.cells #[.int .i64 s.v, .int .i64 s.h, .slice A s.rows.length cap] 30 (0, 0)) := heap_at _ _ rfl
  have HQ := Lib.hid hq
  have HP := Lib.hid hP; have HR := Lib.hid hR
  clear hR hm hms hq hP
  cases hs : sysB p s.v s.h s.rows with
  | false =>
    rw [hs] at HT
    have h1 : reOk p s = false := by unfold reOk; rw [hs]; rfl
    have h2 : reX p s = [] := by unfold reX; rw [h1, if_neg (by decide)]
    rw [h1, h2]
    clear h1 h2 hs
    go_enter Tryz.func32, Tryz.ntmps32
    go_wp2_with (go_at_call 52; refine HT.out.mono ?_; rintro e w1 ⟨rfl, hb1⟩; have HB1 := Lib.hid (below_ext HB.out hb1); clear hb1)
    exact bodyPost_ret (v := .tuple #[.slice none 0 0, .bool false]) (by simp [results, Tryz.results32, go_sem]) rfl (SteppedTo.mk rfl (OwnSteps.nil _ _) HB1.out)
  | true =>
    rw [hs] at HT
    have hok : s.Ok p := sysB_iff.1 hs
    have HRED := (fun (W : World) (hW : Below w.heap.size w W) => reduceSteps_any p s A cap W (HP.out.ext hW) (HR.out.ext hW) hok)
    obtain ⟨Y, hY⟩ : ∃ Y, Y = (redQ p s).2 := ⟨_, rfl⟩
    rw [← hY] at HRED
    have HRED := Lib.hid HRED
    by_cases hlen : Y.length ≤ 3000
    · have h1 : reOk p s = true := by unfold reOk; rw [hs, ← hY, decide_eq_true hlen]; rfl
      have h2 : reX p s = Y := by unfold reX; rw [if_pos h1, hY]
      rw [h1, h2]
      clear h1 h2 hs hok hY
      go_enter Tryz.func32, Tryz.ntmps32
      go_wp2_with (first | (go_at_call 52; refine HT.out.mono ?_; rintro e w1 ⟨rfl, hb1⟩; have HB1 := Lib.hid (below_ext HB.out hb1); obtain ⟨d0, d1, d2⟩ := cells_3 (box_at HQ.out hb1); clear hb1) | (go_at_call 67; refine (HRED.out _ HB1.out).mono ?_; rintro e w2 ⟨u, rfl, hu, hb2⟩; obtain ⟨A2, c2, rfl, _⟩ := hu.view; have HB2 := Lib.hid (below_ext HB1.out hb2); have HU := Lib.hid (hu.mono (B' := w.heap.size) HB1.out.size); clear hb2 hu d0 d1 d2))
      exact bodyPost_ret (v := .tuple #[.slice A2 Y.length c2, .bool true]) (by simp [results, Tryz.results32, go_sem]) rfl (SteppedTo.mk rfl HU.out HB2.out)
    · have h1 : reOk p s = false := by unfold reOk; rw [← hY, decide_eq_false hlen, Bool.and_false]
      have h2 : reX p s = [] := by unfold reX; rw [h1, if_neg (by decide)]
      rw [h1, h2]
      clear h1 h2 hs hok hY
      go_enter Tryz.func32, Tryz.ntmps32
      go_wp2_with (first | (go_at_call 52; refine HT.out.mono ?_; rintro e w1 ⟨rfl, hb1⟩; have HB1 := Lib.hid (below_ext HB.out hb1); obtain ⟨d0, d1, d2⟩ := cells_3 (box_at HQ.out hb1); clear hb1) | (go_at_call 67; refine (HRED.out _ HB1.out).mono ?_; rintro e w2 ⟨u, rfl, hu, hb2⟩; obtain ⟨A2, c2, rfl, _⟩ := hu.view; have HB2 := Lib.hid (below_ext HB1.out hb2); clear hb2 hu d0 d1 d2))
      exact bodyPost_ret (v := .tuple #[.slice none 0 0, .bool false]) (by simp [results, Tryz.results32, go_sem]) rfl (SteppedTo.mk rfl (OwnSteps.nil _ _) HB2.out)


set_option maxRecDepth 100000 in
set_option maxHeartbeats 2000000 in
theorem specReduceC (p : Int) (s : Sy) (A : Option Addr) (cap : Nat) (w : World) (hR : RowsAt w A s.rows) (hm : s.rows.length ≤ 1048576) (hms : ∀ r ∈ s.rows, r.length ≤ 1048576) :
    Calls Tryz.prog 31 #[.int .i64 p, .agg #[.int .i64 s.v, .int .i64 s.h, .slice A s.rows.length cap]] w (SteppedTo (reX p s) (reOk p s) w) := by
  have HB := Lib.hid ((Below.refl w.heap.size w).alloc (Nat.le_refl _) (.cells #[.int .i64 s.v, .int .i64 s.h, .slice A s.rows.length cap] 30))
  have HT := Lib.hid (syGood_any p s.v s.h A cap s.rows _ (hR.ext HB.out) (len_max hm) (fun r hr => len_max (hms r hr)))
  have hq : (w.alloc (.cells #[.int .i64 s.v, .int .i64 s.h, .slice A s.rows.length cap] 30)).heap[w.heap.size]? = some (.cells #[.int .i64 s.v, .int .i64 s.h, .slice A s.rows.length cap] 30 (0, 0)) := heap_at _ _ rfl
  have HQ := Lib.hid hq
  have HR := Lib.hid hR
  clear hR hm hms hq
  cases hs : sysB p s.v s.h s.rows with
  | false =>
    rw [hs] at HT
    have h1 : reOk p s = false := by unfold reOk; rw [hs]; rfl
    have h2 : reX p s = [] := by unfold reX; rw [h1, if_neg (by decide)]
    rw [h1, h2]
    clear h1 h2 hs
    go_enter Tryz.func31, Tryz.ntmps31
    go_wp2_with (go_at_call 47; refine HT.out.mono ?_; rintro e w1 ⟨rfl, hb1⟩; have HB1 := Lib.hid (below_ext HB.out hb1); clear hb1)
    exact bodyPost_ret (v := .tuple #[.slice none 0 0, .bool false]) (by simp [results, Tryz.results31, go_sem]) rfl (SteppedTo.mk rfl (OwnSteps.nil _ _) HB1.out)
  | true =>
    rw [hs] at HT
    have hok : s.Ok p := sysB_iff.1 hs
    have HRED := (fun (W : World) (hW : Below w.heap.size w W) => stReduce_any p s A cap W (HR.out.ext hW) hok)
    obtain ⟨Y, hY⟩ : ∃ Y, Y = (redQ p s).2 := ⟨_, rfl⟩
    rw [← hY] at HRED
    have HRED := Lib.hid HRED
    by_cases hlen : Y.length ≤ 3000
    · have h1 : reOk p s = true := by unfold reOk; rw [hs, ← hY, decide_eq_true hlen]; rfl
      have h2 : reX p s = Y := by unfold reX; rw [if_pos h1, hY]
      rw [h1, h2]
      clear h1 h2 hs hok hY
      go_enter Tryz.func31, Tryz.ntmps31
      go_wp2_with (first | (go_at_call 47; refine HT.out.mono ?_; rintro e w1 ⟨rfl, hb1⟩; have HB1 := Lib.hid (below_ext HB.out hb1); obtain ⟨d0, d1, d2⟩ := cells_3 (box_at HQ.out hb1); clear hb1) | (go_at_call 66; refine (HRED.out _ HB1.out).mono ?_; rintro e w2 ⟨u, rfl, hu, hb2⟩; obtain ⟨A2, c2, rfl, _⟩ := hu.view; have HB2 := Lib.hid (below_ext HB1.out hb2); have HU := Lib.hid (hu.mono (B' := w.heap.size) HB1.out.size); clear hb2 hu d0 d1 d2))
      exact bodyPost_ret (v := .tuple #[.slice A2 Y.length c2, .bool true]) (by simp [results, Tryz.results31, go_sem]) rfl (SteppedTo.mk rfl HU.out HB2.out)
    · have h1 : reOk p s = false := by unfold reOk; rw [← hY, decide_eq_false hlen, Bool.and_false]
      have h2 : reX p s = [] := by unfold reX; rw [h1, if_neg (by decide)]
      rw [h1, h2]
      clear h1 h2 hs hok hY
      go_enter Tryz.func31, Tryz.ntmps31
      go_wp2_with (first | (go_at_call 47; refine HT.out.mono ?_; rintro e w1 ⟨rfl, hb1⟩; have HB1 := Lib.hid (below_ext HB.out hb1); obtain ⟨d0, d1, d2⟩ := cells_3 (box_at HQ.out hb1); clear hb1) | (go_at_call 66; refine (HRED.out _ HB1.out).mono ?_; rintro e w2 ⟨u, rfl, hu, hb2⟩; obtain ⟨A2, c2, rfl, _⟩ := hu.view; have HB2 := Lib.hid (below_ext HB1.out hb2); clear hb2 hu d0 d1 d2))
      exact bodyPost_ret (v := .tuple #[.slice none 0 0, .bool false]) (by simp [results, Tryz.results31, go_sem]) rfl (SteppedTo.mk rfl (OwnSteps.nil _ _) HB2.out)
end Go.Proofs.YtjdbfokbgmbphaaGreatDoor
