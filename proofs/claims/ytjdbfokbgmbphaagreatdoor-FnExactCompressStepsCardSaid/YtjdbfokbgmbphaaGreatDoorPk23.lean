/- The reference's stMake and both ApplySteps. Conditions: lengths; the table of primes is laid. | Lists of steps in plain terms: the system behind the first n steps, the first step that is not possible. No conditions. | Slices of steps and of systems: what they read as. The law's sizes of steps. Conditions: lengths of at most maxLen. -/
import Derived.Test.YtjdbfokbgmbphaaGreatDoorPk10
import Derived.Test.YtjdbfokbgmbphaaGreatDoorPk11
import Derived.Test.YtjdbfokbgmbphaaGreatDoorPk13
import Derived.Test.YtjdbfokbgmbphaaGreatDoorPk14
import Derived.Test.YtjdbfokbgmbphaaGreatDoorPk17
import Derived.Test.YtjdbfokbgmbphaaGreatDoorPk22
import Derived.Test.YtjdbfokbgmbphaaGreatDoorPk16
import Derived.Test.YtjdbfokbgmbphaaGreatDoorPk4
namespace Go.Proofs.YtjdbfokbgmbphaaGreatDoor
set_option linter.unusedVariables false
set_option linter.unusedSimpArgs false
open Go.RowKit

theorem rowsNew_le {p v k a b c : Int} {rows : List (List Int)} {row : List Int} {n : Nat} (hm : rows.length ≤ 1000) (hms : ∀ r ∈ rows, r.length ≤ 1000) (hrow : row.length ≤ 1000) (hn : n ≤ 1000) :
    (rowsNew p v rows k a b c row n).length ≤ 1001 ∧ ∀ r ∈ rowsNew p v rows k a b c row n, r.length ≤ 1001 := by
  have hg : ∀ i : Nat, (rows.getD i []).length ≤ 1000 := fun i => by
    by_cases hi : i < rows.length
    · exact hms _ (getD_mem hi)
    · rw [List.getD_eq_getElem?_getD, List.getElem?_eq_none (by omega)]; simp
  have hins : ∀ (q : Nat) (r : List Int), r.length ≤ 1000 → (insAt r q 0).length ≤ 1001 := fun q r hr => by
    simp only [insAt, List.length_append, List.length_take, List.length_cons, List.length_drop]; omega
  have herase : ∀ (q : Nat) (r : List Int), r.length ≤ 1000 → (r.eraseIdx q).length ≤ 1001 := fun q r hr => by
    have := List.length_eraseIdx_le r q; omega
  have hrs : ∀ r ∈ rows, r.length ≤ 1001 := fun r hr => by have := hms r hr; omega
  have hset : ∀ (xs : List (List Int)) (i : Nat) (x : List Int), (∀ r ∈ xs, r.length ≤ 1001) → x.length ≤ 1001 → ∀ r ∈ xs.set i x, r.length ≤ 1001 := fun xs i x h1 h2 r hr => by
    rcases List.mem_or_eq_of_mem_set hr with h | h
    · exact h1 r h
    · rw [h]; exact h2
  have hat : ∀ (xs : List (List Int)) (i : Nat) (x : List Int), xs.length ≤ 1000 → (∀ r ∈ xs, r.length ≤ 1001) → x.length ≤ 1001 → (insAt xs i x).length ≤ 1001 ∧ ∀ r ∈ insAt xs i x, r.length ≤ 1001 := fun xs i x h0 h1 h2 => by
    refine ⟨by simp only [insAt, List.length_append, List.length_take, List.length_cons, List.length_drop]; omega, fun r hr => ?_⟩
    simp only [insAt, List.mem_append, List.mem_cons] at hr
    rcases hr with h | rfl | h
    · exact h1 r (List.mem_of_mem_take h)
    · exact h2
    · exact h1 r (List.mem_of_mem_drop h)
  have hmap : ∀ f : List Int → List Int, (∀ r, r.length ≤ 1000 → (f r).length ≤ 1001) → ∀ r ∈ rows.map f, r.length ≤ 1001 := fun f hf r hr => by
    obtain ⟨x, hx, rfl⟩ := List.mem_map.1 hr
    exact hf x (hms x hx)
  unfold rowsNew
  by_cases h1 : k = 1
  · rw [if_pos h1]
    exact ⟨by simp only [List.length_set]; omega, hset _ _ _ (hset _ _ _ hrs (by have := hg b.toNat; omega)) (by have := hg a.toNat; omega)⟩
  rw [if_neg h1]
  by_cases h2 : k = 2
  · rw [if_pos h2]
    exact ⟨by simp only [List.length_set]; omega, hset _ _ _ hrs (by have := hg a.toNat; unfold mulRow; rw [List.length_map]; omega)⟩
  rw [if_neg h2]
  by_cases h3 : k = 3
  · rw [if_pos h3]
    exact ⟨by simp only [List.length_set]; omega, hset _ _ _ hrs (by have := hg b.toNat; unfold addRow; rw [List.length_zipWith]; omega)⟩
  rw [if_neg h3]
  by_cases h4 : k = 4
  · rw [if_pos h4]
    exact ⟨by have := List.length_eraseIdx_le rows a.toNat; omega, fun r hr => hrs r (List.mem_of_mem_eraseIdx hr)⟩
  rw [if_neg h4]
  by_cases h5 : k = 5
  · rw [if_pos h5]
    exact hat _ _ _ hm hrs (by rw [List.length_replicate]; omega)
  rw [if_neg h5]
  by_cases h6 : k = 6
  · rw [if_pos h6]
    refine ⟨by have := List.length_eraseIdx_le (rows.map (fun r => r.eraseIdx (v + b).toNat)) a.toNat; rw [List.length_map] at this; omega, fun r hr => hmap _ (fun r hr => herase _ r hr) r (List.mem_of_mem_eraseIdx hr)⟩
  rw [if_neg h6]
  by_cases h7 : k = 7
  · rw [if_pos h7]
    exact hat _ _ _ (by rw [List.length_map]; exact hm) (hmap _ fun r hr => hins _ r hr) (by omega)
  rw [if_neg h7]
  by_cases h8 : k = 8
  · rw [if_pos h8]
    exact ⟨by rw [List.length_map]; omega, hmap _ fun r hr => herase _ r hr⟩
  rw [if_neg h8]
  by_cases h9 : k = 9
  · rw [if_pos h9]
    exact ⟨by rw [List.length_map]; omega, hmap _ fun r hr => hins _ r hr⟩
  rw [if_neg h9]
  exact ⟨by omega, hrs⟩


set_option maxHeartbeats 2000000 in
theorem stMake_any (p v h k a b c : Int) (A : Option Addr) (cap : Nat) (rows : List (List Int)) (w : World) (XA : Option Addr) (row : List Int) (xcap : Nat) (hR : RowsAt w A rows) (hX : IntsAt w XA row) (s : Sys p v h rows) (hok : stB p v h rows k a b c row = true) :
    Calls Tryz.prog 49 #[.int .i64 p, .agg #[.int .i64 v, .int .i64 h, .slice A rows.length cap], .agg #[.int .i64 k, .int .i64 a, .int .i64 b, .int .i64 c, .slice XA row.length xcap]] w fun e w' =>
      ∃ u, e = .returned (.agg #[.int .i64 v, .int .i64 (hNew k h), u]) ∧ OwnRows w' w.heap.size u (rowsNew p v rows k a b c row (v + h).toNat) ∧ Below w.heap.size w w' := by
  have g1 := s.p2; have g2 := s.p97; have g3 := s.v0; have g4 := s.v24; have g5 := s.h0; have g6 := s.h100; have g7 := s.n
  have hms : ∀ r ∈ rows, r.length ≤ 1000 := fun r hr => by have := s.len r hr; omega
  have hel : ∀ r ∈ rows, ∀ x ∈ r, 0 ≤ x ∧ x ≤ 1000 := fun r hr x hx => by have := s.el r hr x hx; omega
  have hlm : ∀ r ∈ rows, r.length = (v + h).toNat := fun r hr => by have := s.len r hr; omega
  have hst := hok
  unfold stB at hst
  rw [Bool.and_eq_true] at hst
  replace hst := hst.2
  by_cases h1 : k = 1
  · subst h1
    simp [inB_iff] at hst
    rw [show hNew 1 h = h by simp [hNew], show rowsNew p v rows 1 a b c row (v + h).toNat = ((rows.set a.toNat (rows.getD b.toNat [])).set b.toNat (rows.getD a.toNat [])) by simp [rowsNew]]
    exact sm_swap p v h a b c A cap rows w XA row.length xcap hR g7 hms (by omega) (by omega) (by omega) (by omega) (by omega)
  by_cases h2 : k = 2
  · subst h2
    simp [inB_iff] at hst
    rw [show hNew 2 h = h by simp [hNew], show rowsNew p v rows 2 a b c row (v + h).toNat = (rows.set a.toNat (mulRow p c (rows.getD a.toNat []))) by simp [rowsNew]]
    exact sm_scale p v h a b c A cap rows w XA row.length xcap hR g7 hms (by omega) (by omega) (by omega) (by omega) (by omega) (by omega) hel
  by_cases h3 : k = 3
  · subst h3
    simp [inB_iff] at hst
    rw [show hNew 3 h = h by simp [hNew], show rowsNew p v rows 3 a b c row (v + h).toNat = (rows.set b.toNat (addRow p c (rows.getD b.toNat []) (rows.getD a.toNat []))) by simp [rowsNew]]
    exact sm_add p v h a b c A cap rows w XA row.length xcap hR g7 hms (by omega) (by omega) (by omega) (by omega) (by omega) (by omega) (by omega) (by omega) (by omega) hel (v + h).toNat hlm
  by_cases h4 : k = 4
  · subst h4
    simp [inB_iff] at hst
    rw [show hNew 4 h = h by simp [hNew], show rowsNew p v rows 4 a b c row (v + h).toNat = (rows.eraseIdx a.toNat) by simp [rowsNew]]
    exact sm_drop p v h a b c A cap rows w XA row.length xcap hR g7 hms (by omega) (by omega)
  by_cases h5 : k = 5
  · subst h5
    simp [inB_iff] at hst
    rw [show hNew 5 h = h by simp [hNew], show rowsNew p v rows 5 a b c row (v + h).toNat = (insAt rows a.toNat (List.replicate (v + h).toNat 0)) by simp [rowsNew]]
    exact sm_put p v h a b c A cap rows w XA row.length xcap hR g7 hms (by omega) (by omega) (by omega) (by omega) (by omega) (by omega)
  by_cases h6 : k = 6
  · subst h6
    simp [inB_iff] at hst
    rw [show hNew 6 h = h - 1 by simp [hNew], show rowsNew p v rows 6 a b c row (v + h).toNat = ((rows.map (fun r => r.eraseIdx (v + b).toNat)).eraseIdx a.toNat) by simp [rowsNew]]
    exact sm_solve p v h a b c A cap rows w XA row.length xcap hR g7 hms (by omega) (by omega) (by omega) (by omega) (by omega) (by omega) (by omega) (by omega) (fun r hr => by have := s.len r hr; omega)
  by_cases h7 : k = 7
  · subst h7
    simp [inB_iff] at hst
    rw [show hNew 7 h = h + 1 by simp [hNew], show rowsNew p v rows 7 a b c row (v + h).toNat = (insAt (rows.map (fun r => insAt r (v + b).toNat 0)) a.toNat row) by simp [rowsNew]]
    exact sm_bring p v h a b c A cap rows w XA row.length xcap hR g7 hms (by omega) (by omega) (by omega) (by omega) (by omega) (by omega) (fun r hr => by have := s.len r hr; omega) (by omega) (by omega) row hX rfl (by omega)
  by_cases h8 : k = 8
  · subst h8
    simp [inB_iff] at hst
    rw [show hNew 8 h = h - 1 by simp [hNew], show rowsNew p v rows 8 a b c row (v + h).toNat = (rows.map (fun r => r.eraseIdx (v + b).toNat)) by simp [rowsNew]]
    exact sm_forget p v h a b c A cap rows w XA row.length xcap hR g7 hms (by omega) (by omega) (by omega) (by omega) (by omega) (by omega) (fun r hr => by have := s.len r hr; omega)
  by_cases h9 : k = 9
  · subst h9
    simp [inB_iff] at hst
    rw [show hNew 9 h = h + 1 by simp [hNew], show rowsNew p v rows 9 a b c row (v + h).toNat = (rows.map (fun r => insAt r (v + b).toNat 0)) by simp [rowsNew]]
    exact sm_invent p v h a b c A cap rows w XA row.length xcap hR g7 hms (by omega) (by omega) (by omega) (by omega) (by omega) (by omega) (fun r hr => by have := s.len r hr; omega)
  simp [*] at hst


def aV (ok : Bool) (v : Int) : Int := if ok = true then v else 0
def aH (ok : Bool) (k h : Int) : Int := if ok = true then hNew k h else 0
def aR (ok : Bool) (p v h : Int) (rows : List (List Int)) (k a b c : Int) (row : List Int) : List (List Int) := if ok = true then rowsNew p v rows k a b c row (v + h).toNat else []
/-- What ApplyStep answers. -/
def Applied (v' h' : Int) (R : List (List Int)) (ok : Bool) (w : World) (e : Ending) (w' : World) : Prop :=
  ∃ u, e = .returned (.tuple #[.agg #[.int .i64 v', .int .i64 h', u], .bool ok]) ∧ OwnRows w' w.heap.size u R ∧ Below w.heap.size w w'
theorem Applied.mk {v' h' : Int} {R : List (List Int)} {ok : Bool} {u : Value} {w w' : World} {e : Ending} (he : e = .returned (.tuple #[.agg #[.int .i64 v', .int .i64 h', u], .bool ok])) (hu : OwnRows w' w.heap.size u R) (hb : Below w.heap.size w w') : Applied v' h' R ok w e w' := ⟨u, he, hu, hb⟩
theorem below_set3 {B : Nat} {w w' : World} (h : Below B w w') {b : Nat} (hb : B ≤ b) (v0 v1 v2 : Value) : Below B w (((w'.setCell ⟨b, 0, none⟩ v0).setCell ⟨b, 1, none⟩ v1).setCell ⟨b, 2, none⟩ v2) := ((h.setCell hb _).setCell hb _).setCell hb _

set_option maxHeartbeats 4000000 in
theorem specApply_any (p v h k a b c : Int) (A : Option Addr) (cap : Nat) (rows : List (List Int)) (w : World) (XA : Option Addr) (row : List Int) (xcap : Nat) (hR : RowsAt w A rows) (hX : IntsAt w XA row)
    (hm : rows.length ≤ maxLen) (hms : ∀ r ∈ rows, r.length ≤ maxLen) (hrow : row.length ≤ 1048576) (ok : Bool) (hok : (sysB p v h rows && stB p v h rows k a b c row) = ok) :
    Calls Tryz.prog 14 #[.int .i64 p, .agg #[.int .i64 v, .int .i64 h, .slice A rows.length cap], .agg #[.int .i64 k, .int .i64 a, .int .i64 b, .int .i64 c, .slice XA row.length xcap]] w (Applied (aV ok v) (aH ok k h) (aR ok p v h rows k a b c row) ok w) := by
  have HM := Lib.hid hm; have HMS := Lib.hid hms; have HROW := Lib.hid hrow
  clear hm hms hrow
  have hB3 := below_alloc3 w (.cells #[.int .i64 v, .int .i64 h, .slice A rows.length cap] 30) (.cells #[.int .i64 k, .int .i64 a, .int .i64 b, .int .i64 c, .slice XA row.length xcap] 34) (.cells #[.int .i64 0, .int .i64 0, .slice none 0 0] 30)
  obtain ⟨q0, q1, q2⟩ := heap_at3 w (.cells #[.int .i64 v, .int .i64 h, .slice A rows.length cap] 30) (.cells #[.int .i64 k, .int .i64 a, .int .i64 b, .int .i64 c, .slice XA row.length xcap] 34) (.cells #[.int .i64 0, .int .i64 0, .slice none 0 0] 30)
  have HB3 := Lib.hid hB3; have Q0 := Lib.hid q0; have Q1 := Lib.hid q1; have Q2 := Lib.hid q2
  clear hB3 q0 q1 q2
  have HSYS := Lib.hid (syGood_any p v h A cap rows _ (hR.ext HB3.out) HM.out HMS.out)
  have HR := Lib.hid hR; have HX := Lib.hid hX
  clear hR hX
  cases hs : sysB p v h rows with
  | false =>
    rw [hs, Bool.false_and] at hok
    subst hok
    rw [hs] at HSYS
    clear hs
    go_enter Tryz.func14, Tryz.ntmps14
    go_wp2_with (go_at_call 47; refine HSYS.out.mono ?_; rintro e w1 ⟨rfl, hb1⟩; obtain ⟨e0, e1, e2, _⟩ := box3 hb1 Q0.out; obtain ⟨⟨d0, d1, d2, d3, d4⟩, _⟩ := box5 hb1 Q1.out; obtain ⟨c0, c1, c2', f0, f1, f2⟩ := box3 hb1 Q2.out; have H1 := Lib.hid hb1; have HE := Lib.hid (HB3.out.trans (hb1.mono (B' := w.heap.size) (by simp <;> omega))); clear hb1)
    refine bodyPost_ret (v := .tuple #[.agg #[.int .i64 0, .int .i64 0, .slice none 0 0], .bool false]) (by simp [results, Tryz.results14, go_sem, *]) rfl (Applied.mk rfl (Has.nil _ _ 0).own ?_)
    exact below_set3 HE.out (by omega) _ _ _
  | true =>
    rw [hs, Bool.true_and] at hok
    rw [hs] at HSYS
    have HS := Lib.hid (sysB_iff.1 hs)
    clear hs
    cases ok with
    | false =>
      have HOK := Lib.hid hok
      clear hok
      go_enter Tryz.func14, Tryz.ntmps14
      go_wp2_with (first | (go_at_call 47; refine HSYS.out.mono ?_; rintro e w1 ⟨rfl, hb1⟩; obtain ⟨e0, e1, e2, _⟩ := box3 hb1 Q0.out; obtain ⟨⟨d0, d1, d2, d3, d4⟩, _⟩ := box5 hb1 Q1.out; obtain ⟨c0, c1, c2', f0, f1, f2⟩ := box3 hb1 Q2.out; have H1 := Lib.hid hb1; have HE := Lib.hid (HB3.out.trans (hb1.mono (B' := w.heap.size) (by simp <;> omega))); clear hb1) | (go_at_call 48; refine (Calls.bool_eq' (stCan_any p v h k a b c A cap rows _ XA row xcap (HR.out.ext HE.out) (HX.out.ext HE.out) HROW.out HS.out) HOK.out).mono ?_; rintro e w2 ⟨rfl, hb2⟩; clear e0 e1 e2 d0 d1 d2 d3 d4 c0 c1 c2' f0 f1 f2; have H2 := Lib.hid (below_ext H1.out hb2); have HE2 := Lib.hid (below_ext HE.out hb2); clear hb2; obtain ⟨e0, e1, e2, _⟩ := box3 H2.out Q0.out; obtain ⟨⟨d0, d1, d2, d3, d4⟩, _⟩ := box5 H2.out Q1.out; obtain ⟨c0, c1, c2', f0, f1, f2⟩ := box3 H2.out Q2.out))
      refine bodyPost_ret (v := .tuple #[.agg #[.int .i64 0, .int .i64 0, .slice none 0 0], .bool false]) (by simp [results, Tryz.results14, go_sem, *]) rfl (Applied.mk rfl (Has.nil _ _ 0).own ?_)
      exact below_set3 HE2.out (by omega) _ _ _
    | true =>
      have HOK := Lib.hid hok
      clear hok
      go_enter Tryz.func14, Tryz.ntmps14
      go_wp2_with (first | (go_at_call 47; refine HSYS.out.mono ?_; rintro e w1 ⟨rfl, hb1⟩; obtain ⟨e0, e1, e2, _⟩ := box3 hb1 Q0.out; obtain ⟨⟨d0, d1, d2, d3, d4⟩, _⟩ := box5 hb1 Q1.out; obtain ⟨c0, c1, c2', f0, f1, f2⟩ := box3 hb1 Q2.out; have H1 := Lib.hid hb1; have HE := Lib.hid (HB3.out.trans (hb1.mono (B' := w.heap.size) (by simp <;> omega))); clear hb1) | (go_at_call 48; refine (Calls.bool_eq' (stCan_any p v h k a b c A cap rows _ XA row xcap (HR.out.ext HE.out) (HX.out.ext HE.out) HROW.out HS.out) HOK.out).mono ?_; rintro e w2 ⟨rfl, hb2⟩; clear e0 e1 e2 d0 d1 d2 d3 d4 c0 c1 c2' f0 f1 f2; have H2 := Lib.hid (below_ext H1.out hb2); have HE2 := Lib.hid (below_ext HE.out hb2); clear hb2; obtain ⟨e0, e1, e2, _⟩ := box3 H2.out Q0.out; obtain ⟨⟨d0, d1, d2, d3, d4⟩, _⟩ := box5 H2.out Q1.out; obtain ⟨c0, c1, c2', f0, f1, f2⟩ := box3 H2.out Q2.out) | (go_at_call 49; refine (stMake_any p v h k a b c A cap rows _ XA row xcap (HR.out.ext HE2.out) (HX.out.ext HE2.out) HS.out HOK.out).mono ?_; rintro e w3 ⟨u, rfl, hu, hb3⟩; obtain ⟨A4, c4', rfl, _⟩ := hu.view; clear e0 e1 e2 d0 d1 d2 d3 d4 c0 c1 c2' f0 f1 f2; obtain ⟨c0, c1, c2', f0, f1, f2⟩ := box3 (below_ext H2.out hb3) Q2.out; have HU := Lib.hid hu; have H3 := Lib.hid (below_ext HE2.out hb3); clear hu hb3))
      have hs2 := H2.out.size
      simp only [World.size_alloc] at hs2
      refine bodyPost_ret (v := .tuple #[.agg #[.int .i64 v, .int .i64 (hNew k h), .slice A4 (rowsNew p v rows k a b c row (v + h).toNat).length c4'], .bool true]) (by simp [results, Tryz.results14, go_sem, *]) rfl (Applied.mk rfl ?_ ?_)
      · exact (((HU.out.setCell (by simp <;> omega) _).setCell (by simp <;> omega) _).setCell (by simp <;> omega) _).mono (by omega)
      · exact below_set3 H3.out (by omega) _ _ _

set_option maxHeartbeats 4000000 in
theorem implApply_any (p v h k a b c : Int) (A : Option Addr) (cap : Nat) (rows : List (List Int)) (w : World) (XA : Option Addr) (row : List Int) (xcap : Nat) (hP : Primes w) (hR : RowsAt w A rows) (hX : IntsAt w XA row)
    (hm : rows.length ≤ maxLen) (hms : ∀ r ∈ rows, r.length ≤ maxLen) (hrow : row.length ≤ 1048576) (ok : Bool) (hok : (sysB p v h rows && stB p v h rows k a b c row) = ok) :
    Calls Tryz.prog 17 #[.int .i64 p, .agg #[.int .i64 v, .int .i64 h, .slice A rows.length cap], .agg #[.int .i64 k, .int .i64 a, .int .i64 b, .int .i64 c, .slice XA row.length xcap]] w (Applied (aV ok v) (aH ok k h) (aR ok p v h rows k a b c row) ok w) := by
  have HM := Lib.hid hm; have HMS := Lib.hid hms; have HROW := Lib.hid hrow
  clear hm hms hrow
  have hB3 := below_alloc3 w (.cells #[.int .i64 v, .int .i64 h, .slice A rows.length cap] 30) (.cells #[.int .i64 k, .int .i64 a, .int .i64 b, .int .i64 c, .slice XA row.length xcap] 34) (.cells #[.int .i64 0, .int .i64 0, .slice none 0 0] 30)
  obtain ⟨q0, q1, q2⟩ := heap_at3 w (.cells #[.int .i64 v, .int .i64 h, .slice A rows.length cap] 30) (.cells #[.int .i64 k, .int .i64 a, .int .i64 b, .int .i64 c, .slice XA row.length xcap] 34) (.cells #[.int .i64 0, .int .i64 0, .slice none 0 0] 30)
  have HB3 := Lib.hid hB3; have Q0 := Lib.hid q0; have Q1 := Lib.hid q1; have Q2 := Lib.hid q2
  clear hB3 q0 q1 q2
  have HSYS := Lib.hid (isSystem_any p v h A cap rows _ (hP.ext HB3.out) (hR.ext HB3.out) HM.out HMS.out)
  have HP := Lib.hid hP; have HR := Lib.hid hR; have HX := Lib.hid hX
  clear hP hR hX
  cases hs : sysB p v h rows with
  | false =>
    rw [hs, Bool.false_and] at hok
    subst hok
    rw [hs] at HSYS
    clear hs
    go_enter Tryz.func17, Tryz.ntmps17
    go_wp2_with (go_at_call 52; refine HSYS.out.mono ?_; rintro e w1 ⟨rfl, hb1⟩; obtain ⟨c0, c1, c2', f0, f1, f2⟩ := box3 hb1 Q2.out; have HE := Lib.hid (HB3.out.trans (hb1.mono (B' := w.heap.size) (by simp <;> omega))); clear hb1)
    refine bodyPost_ret (v := .tuple #[.agg #[.int .i64 0, .int .i64 0, .slice none 0 0], .bool false]) (by simp [results, Tryz.results17, go_sem, *]) rfl (Applied.mk rfl (Has.nil _ _ 0).own ?_)
    exact below_set3 HE.out (by omega) _ _ _
  | true =>
    rw [hs, Bool.true_and] at hok
    rw [hs] at HSYS
    have HS := Lib.hid (sysB_iff.1 hs)
    clear hs
    have MK := Lib.hid (fun (W : World) (hW : Below w.heap.size w W) => (by
      have := mk_any p v h k a b c A cap rows W XA row xcap (HP.out.ext hW) (HR.out.ext hW) (HX.out.ext hW) HROW.out HS.out
      rw [hok] at this
      refine this.mono fun e w' he => ?_
      obtain ⟨v2, h2, A2, n2, c2, e1, e2, e3, e4⟩ := he
      refine ⟨v2, h2, A2, n2, c2, e1, ?_, e4⟩
      cases ok with
      | true => obtain ⟨a1, a2, a3⟩ := e2 rfl; exact ⟨a1, a2, a3⟩
      | false => obtain ⟨a1, a2, a3, a4, a5⟩ := e3 rfl; subst a1 a2 a3 a4 a5; exact ⟨rfl, rfl, (Has.nil _ _ 0).own⟩ :
      Calls Tryz.prog 53 #[.int .i64 p, .agg #[.int .i64 v, .int .i64 h, .slice A rows.length cap], .agg #[.int .i64 k, .int .i64 a, .int .i64 b, .int .i64 c, .slice XA row.length xcap]] W fun e w' => ∃ (v2 h2 : Int) (A2 : Option Addr) (n2 c2 : Nat), e = .returned (.tuple #[.agg #[.int .i64 v2, .int .i64 h2, .slice A2 n2 c2], .bool ok]) ∧ (v2 = aV ok v ∧ h2 = aH ok k h ∧ OwnRows w' W.heap.size (.slice A2 n2 c2) (aR ok p v h rows k a b c row)) ∧ Below W.heap.size W w'))
    clear hok
    go_enter Tryz.func17, Tryz.ntmps17
    go_wp2_with (first | (go_at_call 52; refine HSYS.out.mono ?_; rintro e w1 ⟨rfl, hb1⟩; obtain ⟨e0, e1, e2, _⟩ := box3 hb1 Q0.out; obtain ⟨⟨d0, d1, d2, d3, d4⟩, _⟩ := box5 hb1 Q1.out; have H1 := Lib.hid hb1; have HE := Lib.hid (HB3.out.trans (hb1.mono (B' := w.heap.size) (by simp <;> omega))); clear hb1) | (go_at_call 53; refine (MK.out _ HE.out).mono ?_; rintro e w2 ⟨v2, h2, A4, n4, c4', rfl, ⟨rfl, rfl, hu⟩, hb2⟩; clear d0 d1 d2 d3 d4; obtain ⟨c0, c1, c2', f0, f1, f2⟩ := box3 (below_ext H1.out hb2) Q2.out; have HU := Lib.hid hu; have H2 := Lib.hid (below_ext HE.out hb2); clear hu hb2))
    have hs1 := H1.out.size
    simp only [World.size_alloc] at hs1
    refine bodyPost_ret (v := .tuple #[.agg #[.int .i64 (aV ok v), .int .i64 (aH ok k h), .slice A4 n4 c4'], .bool ok]) (by simp [results, Tryz.results17, go_sem, *]) rfl (Applied.mk rfl ?_ ?_)
    · exact (((HU.out.setCell (by simp <;> omega) _).setCell (by simp <;> omega) _).setCell (by simp <;> omega) _).mono (by omega)
    · exact below_set3 H2.out (by omega) _ _ _
end Go.Proofs.YtjdbfokbgmbphaaGreatDoor

namespace Go.Proofs.YtjdbfokbgmbphaaGreatDoor
set_option linter.unusedVariables false
set_option linter.unusedSimpArgs false
open Go.RowKit

structure Stp where
  k : Int
  a : Int
  b : Int
  c : Int
  row : List Int
structure Sy where
  v : Int
  h : Int
  rows : List (List Int)

/-- The system behind a step; whether a step is possible. -/
def stepTo (p : Int) (s : Sy) (x : Stp) : Sy := ⟨s.v, hNew x.k s.h, rowsNew p s.v s.rows x.k x.a x.b x.c x.row (s.v + s.h).toNat⟩
def okTo (p : Int) (s : Sy) (x : Stp) : Bool := stB p s.v s.h s.rows x.k x.a x.b x.c x.row
def Sy.Ok (p : Int) (s : Sy) : Prop := Sys p s.v s.h s.rows
theorem stepTo_ok {p : Int} {s : Sy} {x : Stp} (h : s.Ok p) (hx : okTo p s x = true) : (stepTo p s x).Ok p := by
  unfold okTo at hx
  rw [stB_eq h, Bool.and_eq_true, Bool.and_eq_true] at hx
  exact sysB_iff.1 hx.2.2

/-- The system behind the first n steps. -/
def sysAt (p : Int) : Sy → List Stp → Nat → Sy
  | s, [], _ => s
  | s, _ :: _, 0 => s
  | s, x :: xs, n + 1 => sysAt p (stepTo p s x) xs n
/-- The index of the first step that is not possible; the number of steps if there is none. -/
def firstBad (p : Int) : Sy → List Stp → Nat
  | _, [] => 0
  | s, x :: xs => if okTo p s x = true then firstBad p (stepTo p s x) xs + 1 else 0

theorem sysAt_zero (p : Int) (s : Sy) (xs : List Stp) : sysAt p s xs 0 = s := by cases xs <;> rfl
theorem sysAt_succ {p : Int} {x : Stp} : ∀ {xs : List Stp} {s : Sy} {i : Nat}, xs[i]? = some x → sysAt p s xs (i + 1) = stepTo p (sysAt p s xs i) x
  | [], _, _, h => by simp at h
  | y :: ys, s, 0, h => by simp at h; subst h; simp [sysAt, sysAt_zero]
  | y :: ys, s, i + 1, h => by
    simp only [List.getElem?_cons_succ] at h
    exact sysAt_succ (xs := ys) (s := stepTo p s y) (i := i) h
theorem firstBad_le (p : Int) : ∀ (xs : List Stp) (s : Sy), firstBad p s xs ≤ xs.length
  | [], _ => Nat.le_refl _
  | x :: xs, s => by
    have := firstBad_le p xs (stepTo p s x)
    unfold firstBad
    split
    · simp; omega
    · omega
theorem bad_ok {p : Int} {x : Stp} : ∀ {xs : List Stp} {s : Sy} {i : Nat}, i < firstBad p s xs → xs[i]? = some x → okTo p (sysAt p s xs i) x = true
  | [], _, _, _, h => by simp at h
  | y :: ys, s, i, hi, h => by
    unfold firstBad at hi
    split at hi
    · rename_i hy
      cases i with
      | zero => simp at h; subst h; rw [sysAt_zero]; exact hy
      | succ i =>
        simp only [List.getElem?_cons_succ] at h
        exact bad_ok (xs := ys) (s := stepTo p s y) (i := i) (by omega) h
    · omega
theorem bad_not {p : Int} {x : Stp} : ∀ {xs : List Stp} {s : Sy} {i : Nat}, i = firstBad p s xs → xs[i]? = some x → okTo p (sysAt p s xs i) x = false
  | [], _, _, _, h => by simp at h
  | y :: ys, s, i, hi, h => by
    unfold firstBad at hi
    split at hi
    · cases i with
      | zero => omega
      | succ i =>
        simp only [List.getElem?_cons_succ] at h
        exact bad_not (xs := ys) (s := stepTo p s y) (i := i) (by omega) h
    · rename_i hy
      subst hi
      simp at h; subst h; rw [sysAt_zero]; simpa using hy
theorem bad_step {p : Int} {s : Sy} {xs : List Stp} {i : Nat} {x : Stp} (hi : i ≤ firstBad p s xs) (h : xs[i]? = some x) (ho : okTo p (sysAt p s xs i) x = true) : i + 1 ≤ firstBad p s xs := by
  rcases Nat.lt_or_eq_of_le hi with h1 | h1
  · exact h1
  · rw [bad_not h1 h] at ho; cases ho
theorem bad_here {p : Int} {s : Sy} {xs : List Stp} {i : Nat} {x : Stp} (hi : i ≤ firstBad p s xs) (h : xs[i]? = some x) (ho : okTo p (sysAt p s xs i) x = false) : firstBad p s xs = i := by
  rcases Nat.lt_or_eq_of_le hi with h1 | h1
  · rw [bad_ok h1 h] at ho; cases ho
  · exact h1.symm
theorem sysAt_ok {p : Int} {s : Sy} {xs : List Stp} (h : s.Ok p) : ∀ {i : Nat}, i ≤ firstBad p s xs → (sysAt p s xs i).Ok p
  | 0, _ => by rw [sysAt_zero]; exact h
  | i + 1, hi => by
    have hl := firstBad_le p xs s
    have hx : xs[i]? = some xs[i] := List.getElem?_eq_getElem (by omega)
    rw [sysAt_succ hx]
    exact stepTo_ok (sysAt_ok h (by omega)) (bad_ok (by omega) hx)

/-- All sizes of a valid system are small. -/
structure Small (s : Sy) : Prop where
  n : s.rows.length ≤ 160
  len : ∀ r ∈ s.rows, r.length ≤ 1000
theorem Sy.Ok.small {p : Int} {s : Sy} (h : s.Ok p) : Small s := ⟨Sys.n h, fun r hr => by have := Sys.len h r hr; have := Sys.v24 h; have := Sys.h100 h; omega⟩
end Go.Proofs.YtjdbfokbgmbphaaGreatDoor

namespace Go.Proofs.YtjdbfokbgmbphaaGreatDoor
set_option linter.unusedVariables false
set_option linter.unusedSimpArgs false
open Go.RowKit

/-- The cells of a step at an offset of a block. -/
def StpAt (w : World) (b o : Nat) (x : Stp) (A' : Option Addr) (cap : Nat) : Prop :=
  w.cell? ⟨b, o, none⟩ = some (.int .i64 x.k) ∧ w.cell? ⟨b, o + 1, none⟩ = some (.int .i64 x.a) ∧ w.cell? ⟨b, o + 2, none⟩ = some (.int .i64 x.b) ∧ w.cell? ⟨b, o + 3, none⟩ = some (.int .i64 x.c) ∧ w.cell? ⟨b, o + 4, none⟩ = some (.slice A' x.row.length cap)
/-- The address A holds steps that read as xs. -/
def StepsAt (w : World) (A : Option Addr) (xs : List Stp) : Prop :=
  xs = [] ∨ ∃ b o, A = some ⟨b, o, none⟩ ∧ ∀ (k : Nat) (x : Stp), xs[k]? = some x → ∃ A' cap, StpAt w b (o + k * 5) x A' cap ∧ IntsAt w A' x.row

theorem StpAt.ext {w w' : World} {b o : Nat} {x : Stp} {A' : Option Addr} {cap : Nat} (h : StpAt w b o x A' cap) (hb : Below w.heap.size w w') : StpAt w' b o x A' cap :=
  ⟨ext_cell hb h.1, ext_cell hb h.2.1, ext_cell hb h.2.2.1, ext_cell hb h.2.2.2.1, ext_cell hb h.2.2.2.2⟩
theorem StepsAt.ext {w w' : World} {A : Option Addr} {xs : List Stp} (h : StepsAt w A xs) (hb : Below w.heap.size w w') : StepsAt w' A xs := by
  rcases h with h | ⟨b, o, hA, hc⟩
  · exact Or.inl h
  · refine Or.inr ⟨b, o, hA, fun k x hk => ?_⟩
    obtain ⟨A', cap, h1, h2⟩ := hc k x hk
    exact ⟨A', cap, h1.ext hb, h2.ext hb⟩
theorem StepsAt.here {w : World} {A : Option Addr} {xs : List Stp} (h : StepsAt w A xs) {k : Nat} (hk : k < xs.length) :
    ∃ b o, A = some ⟨b, o, none⟩ ∧ ∀ (k : Nat) (x : Stp), xs[k]? = some x → ∃ A' cap, StpAt w b (o + k * 5) x A' cap ∧ IntsAt w A' x.row := by
  rcases h with h | h
  · simp [h] at hk
  · exact h

/-- What is left of a budget behind steps: negative, or how many there are and how long their lines are. -/
def LeftSteps (left r : Int) (xs : List Stp) : Prop := r < 0 ∨ (0 ≤ r ∧ r ≤ left ∧ (xs.length : Int) ≤ left ∧ ∀ x ∈ xs, (x.row.length : Int) ≤ left)

set_option maxHeartbeats 1000000 in
theorem szStepS_any (A : Option Addr) (cap : Nat) (xs : List Stp) (left : Int) (w : World) (hR : StepsAt w A xs) (hm : xs.length ≤ maxLen) (hms : ∀ r ∈ xs, r.row.length ≤ maxLen) (hl : 0 ≤ left) (hl' : left ≤ 1048576) :
    Calls Tryz.prog 23 #[.slice A xs.length cap, .int .i64 left] w fun e w' => ∃ r, e = .returned (.int .i64 r) ∧ LeftSteps left r xs ∧ Below w.heap.size w w' := by
  unfold maxLen at hm
  by_cases h : left - xs.length < 0
  · go_enter Tryz.func23, Tryz.ntmps23
    go_wp2
    go_ret
    exact ⟨_, rfl, Or.inl (by decide), Below.refl _ _⟩
  · go_enter Tryz.func23, Tryz.ntmps23
    go_wp2
    go_loopw [1, 5] (fun l i wr => ∃ (k : Nat) (q : Int), k ≤ xs.length ∧ i = .int .i64 k ∧ l = .int .i64 q ∧ 0 ≤ q ∧ q ≤ left ∧ (∀ x ∈ xs.take k, (x.row.length : Int) ≤ left) ∧ Below w.heap.size w wr) (fun _ i _ => xs.length - (intOf i).toNat)
    case atStart => exact ⟨0, _, Nat.zero_le _, rfl, rfl, by omega, by omega, fun x hx => by simp at hx, Below.refl _ _⟩
    case round =>
      obtain ⟨k, q, hk, rfl, rfl, hq, hq', hall, hbel⟩ := hrel
      have Hall := Lib.hid hall; clear hall
      by_cases hlt : k < xs.length
      · obtain ⟨r, hr⟩ := get_of_lt hlt
        obtain ⟨b, o, rfl, hc⟩ := (hR.ext hbel).here hlt
        obtain ⟨A', cap', ⟨c0, c1, c2, c3, c4⟩, hin⟩ := hc k r hr
        have HM := Lib.hid (hms r (List.mem_of_getElem? hr))
        have Hr := Lib.hid hr; have HB := Lib.hid hbel; clear hr hc hms hR hbel
        go_wp2_with ((go_at_call 13; refine (szStep_any _ _ _ _ _ _ _ _ _ HM.out hq (by omega)).mono ?_; rintro e w' ⟨q2, rfl, hq2, hb2⟩; have Q2 := Lib.hid hq2; have HB2 := Lib.hid (below_ext HB.out hb2); clear hq2 hb2))
        · go_ret
          exact ⟨_, rfl, Or.inl (by decide), HB2.out⟩
        · go_roundw
          case rel =>
            rcases Q2.out with h1 | ⟨h1, h2, h3⟩
            · omega
            · exact ⟨k+1, q2, by omega, by go_num, rfl, h1, by omega, fun x hx => by
                rw [List.take_add_one, Hr.out] at hx
                rcases List.mem_append.1 hx with hx | hx
                · exact Hall.out x hx
                · simp at hx; subst hx; omega, HB2.out⟩
          case measure => simp [intOf]; omega
      · go_wp2
        go_ret
        refine ⟨_, rfl, Or.inr ⟨hq, hq', by omega, fun x hx => Hall.out x ?_⟩, hbel⟩
        rwa [List.take_of_length_le (by omega)]
end Go.Proofs.YtjdbfokbgmbphaaGreatDoor
