/- The reference's stMake and both ApplySteps. Conditions: lengths; the table of primes is laid. | Lists of steps in plain terms: the system behind the first n steps, the first step that is not possible. No conditions. | Slices of steps and of systems: what they read as. The law's sizes of steps. Conditions: lengths of at most maxLen. -/
import Derived.Test.YtjdbfokbgmbphaaGreatDoorPk10
import Derived.Test.YtjdbfokbgmbphaaGreatDoorPk11
import Derived.Test.YtjdbfokbgmbphaaGreatDoorPk13
import Derived.Test.YtjdbfokbgmbphaaGreatDoorPk14
import Derived.Test.YtjdbfokbgmbphaaGreatDoorPk17
import Derived.Test.YtjdbfokbgmbphaaGreatDoorPk22
import Derived.Test.YtjdbfokbgmbphaaGreatDoorPk16
import Derived.Test.YtjdbfokbgmbphaaGreatDoorPk4
namespace Go.Proofs.YtjdbfokbgmbphaaGreatDoor
set_option linter.unusedVariables false
set_option linter.unusedSimpArgs false
open Go.RowKit
set_option maxHeartbeats 2000000 in
theorem stMake_any (p v h k a b c : Int) (A : Option Addr) (cap : Nat) (rows : List (List Int)) (w : World) (XA : Option Addr) (row : List Int) (xcap : Nat) (hR : RowsAt w A rows) (hX : IntsAt w XA row) (s : Sys p v h rows) (hok : stB p v h rows k a b c row = true) :
  Calls Tryz.prog 49 #[.int .i64 p, .agg #[.int .i64 v, .int .i64 h, .slice A rows.length cap], .agg #[.int .i64 k, .int .i64 a, .int .i64 b, .int .i64 c, .slice XA row.length xcap]] w fun e w' =>
   ∃ u, e = .returned (.agg #[.int .i64 v, .int .i64 (hNew k h), u]) ∧ OwnRows w' w.heap.size u (rowsNew p v rows k a b c row (v + h).toNat) ∧ Below w.heap.size w w' := by
 have g1 := s.p2; have g2 := s.p97; have g3 := s.v0; have g4 := s.v24; have g5 := s.h0; have g6 := s.h100; have g7 := s.n
 have hms : ∀ r ∈ rows, r.length ≤ 1000 := fun r hr => by have := s.len r hr; omega
 have hel : ∀ r ∈ rows, ∀ x ∈ r, 0 ≤ x ∧ x ≤ 1000 := fun r hr x hx => by have := s.el r hr x hx; omega
 have hlm : ∀ r ∈ rows, r.length = (v + h).toNat := fun r hr => by have := s.len r hr; omega
 have hst := hok
 unfold stB at hst
 rw [Bool.and_eq_true] at hst
 replace hst := hst.2
 by_cases h1 : k = 1
 ·subst h1
  simp [inB_iff] at hst
  rw [show hNew 1 h = h by simp [hNew], show rowsNew p v rows 1 a b c row (v + h).toNat = ((rows.set a.toNat (rows.getD b.toNat [])).set b.toNat (rows.getD a.toNat [])) by simp [rowsNew]]
  exact sm_swap p v h a b c A cap rows w XA row.length xcap hR g7 hms (by omega) (by omega) (by omega) (by omega) (by omega)
 by_cases h2 : k = 2
 ·subst h2
  simp [inB_iff] at hst
  rw [show hNew 2 h = h by simp [hNew], show rowsNew p v rows 2 a b c row (v + h).toNat = (rows.set a.toNat (mulRow p c (rows.getD a.toNat []))) by simp [rowsNew]]
  exact sm_scale p v h a b c A cap rows w XA row.length xcap hR g7 hms (by omega) (by omega) (by omega) (by omega) (by omega) (by omega) hel
 by_cases h3 : k = 3
 ·subst h3
  simp [inB_iff] at hst
  rw [show hNew 3 h = h by simp [hNew], show rowsNew p v rows 3 a b c row (v + h).toNat = (rows.set b.toNat (addRow p c (rows.getD b.toNat []) (rows.getD a.toNat []))) by simp [rowsNew]]
  exact sm_add p v h a b c A cap rows w XA row.length xcap hR g7 hms (by omega) (by omega) (by omega) (by omega) (by omega) (by omega) (by omega) (by omega) (by omega) hel (v + h).toNat hlm
 by_cases h4 : k = 4
 ·subst h4
  simp [inB_iff] at hst
  rw [show hNew 4 h = h by simp [hNew], show rowsNew p v rows 4 a b c row (v + h).toNat = (rows.eraseIdx a.toNat) by simp [rowsNew]]
  exact sm_drop p v h a b c A cap rows w XA row.length xcap hR g7 hms (by omega) (by omega)
 by_cases h5 : k = 5
 ·subst h5
  simp [inB_iff] at hst
  rw [show hNew 5 h = h by simp [hNew], show rowsNew p v rows 5 a b c row (v + h).toNat = (insAt rows a.toNat (List.replicate (v + h).toNat 0)) by simp [rowsNew]]
  exact sm_put p v h a b c A cap rows w XA row.length xcap hR g7 hms (by omega) (by omega) (by omega) (by omega) (by omega) (by omega)
 by_cases h6 : k = 6
 ·subst h6
  simp [inB_iff] at hst
  rw [show hNew 6 h = h - 1 by simp [hNew], show rowsNew p v rows 6 a b c row (v + h).toNat = ((rows.map (fun r => r.eraseIdx (v + b).toNat)).eraseIdx a.toNat) by simp [rowsNew]]
  exact sm_solve p v h a b c A cap rows w XA row.length xcap hR g7 hms (by omega) (by omega) (by omega) (by omega) (by omega) (by omega) (by omega) (by omega) (fun r hr => by have := s.len r hr; omega)
 by_cases h7 : k = 7
 ·subst h7
  simp [inB_iff] at hst
  rw [show hNew 7 h = h + 1 by simp [hNew], show rowsNew p v rows 7 a b c row (v + h).toNat = (insAt (rows.map (fun r => insAt r (v + b).toNat 0)) a.toNat row) by simp [rowsNew]]
  exact sm_bring p v h a b c A cap rows w XA row.length xcap hR g7 hms (by omega) (by omega) (by omega) (by omega) (by omega) (by omega) (fun r hr => by have := s.len r hr; omega) (by omega) (by omega) row hX rfl (by omega)
 by_cases h8 : k = 8
 ·subst h8
  simp [inB_iff] at hst
  rw [show hNew 8 h = h - 1 by simp [hNew], show rowsNew p v rows 8 a b c row (v + h).toNat = (rows.map (fun r => r.eraseIdx (v + b).toNat)) by simp [rowsNew]]
  exact sm_forget p v h a b c A cap rows w XA row.length xcap hR g7 hms (by omega) (by omega) (by omega) (by omega) (by omega) (by omega) (fun r hr => by have := s.len r hr; omega)
 by_cases h9 : k = 9
 ·subst h9
  simp [inB_iff] at hst
  rw [show hNew 9 h = h + 1 by simp [hNew], show rowsNew p v rows 9 a b c row (v + h).toNat = (rows.map (fun r => insAt r (v + b).toNat 0)) by simp [rowsNew]]
  exact sm_invent p v h a b c A cap rows w XA row.length xcap hR g7 hms (by omega) (by omega) (by omega) (by omega) (by omega) (by omega) (fun r hr => by have := s.len r hr; omega)
 simp [*] at hst
/-- What ApplyStep answers. -/
def Applied (v' h' : Int) (R : List (List Int)) (ok : Bool) (w : World) (e : Ending) (w' : World) : Prop :=
 ∃ u, e = .returned (.tuple #[.agg #[.int .i64 v', .int .i64 h', u], .bool ok]) ∧ OwnRows w' w.heap.size u R ∧ Below w.heap.size w w'
theorem Applied.mk {v' h' : Int} {R : List (List Int)} {ok : Bool} {u : Value} {w w' : World} {e : Ending} (he : e = .returned (.tuple #[.agg #[.int .i64 v', .int .i64 h', u], .bool ok])) (hu : OwnRows w' w.heap.size u R) (hb : Below w.heap.size w w') : Applied v' h' R ok w e w' := ⟨u, he, hu, hb⟩
structure Stp where
 k : Int
 a : Int
 b : Int
 c : Int
 row : List Int
structure Sy where
 v : Int
 h : Int
 rows : List (List Int)
/-- The system behind a step; whether a step is possible. -/
def stepTo (p : Int) (s : Sy) (x : Stp) : Sy := ⟨s.v, hNew x.k s.h, rowsNew p s.v s.rows x.k x.a x.b x.c x.row (s.v + s.h).toNat⟩
def okTo (p : Int) (s : Sy) (x : Stp) : Bool := stB p s.v s.h s.rows x.k x.a x.b x.c x.row
def Sy.Ok (p : Int) (s : Sy) : Prop := Sys p s.v s.h s.rows
theorem stepTo_ok {p : Int} {s : Sy} {x : Stp} (h : s.Ok p) (hx : okTo p s x = true) : (stepTo p s x).Ok p := by
 unfold okTo at hx
 rw [stB_eq h, Bool.and_eq_true, Bool.and_eq_true] at hx
 exact sysB_iff.1 hx.2.2
/-- The system behind the first n steps. -/
def sysAt (p : Int) : Sy → List Stp → Nat → Sy
 | s, [], _ => s
 | s, _ :: _, 0 => s
 | s, x :: xs, n + 1 => sysAt p (stepTo p s x) xs n
/-- The index of the first step that is not possible; the number of steps if there is none. -/
def firstBad (p : Int) : Sy → List Stp → Nat
 | _, [] => 0
 | s, x :: xs => if okTo p s x = true then firstBad p (stepTo p s x) xs + 1 else 0
theorem sysAt_zero (p : Int) (s : Sy) (xs : List Stp) : sysAt p s xs 0 = s := by cases xs <;> rfl
theorem sysAt_succ {p : Int} {x : Stp} : ∀ {xs : List Stp} {s : Sy} {i : Nat}, xs[i]? = some x → sysAt p s xs (i + 1) = stepTo p (sysAt p s xs i) x
 | [], _, _, h => by simp at h
 | y :: ys, s, 0, h => by simp at h; subst h; simp [sysAt, sysAt_zero]
 | y :: ys, s, i + 1, h => by
  simp only [List.getElem?_cons_succ] at h
  exact sysAt_succ (xs := ys) (s := stepTo p s y) (i := i) h
theorem firstBad_le (p : Int) : ∀ (xs : List Stp) (s : Sy), firstBad p s xs ≤ xs.length
 | [], _ => Nat.le_refl _
 | x :: xs, s => by
  have := firstBad_le p xs (stepTo p s x)
  unfold firstBad
  split
  ·simp; omega
  ·omega
theorem bad_ok {p : Int} {x : Stp} : ∀ {xs : List Stp} {s : Sy} {i : Nat}, i < firstBad p s xs → xs[i]? = some x → okTo p (sysAt p s xs i) x = true
 | [], _, _, _, h => by simp at h
 | y :: ys, s, i, hi, h => by
  unfold firstBad at hi
  split at hi
  ·rename_i hy
   cases i with
   | zero => simp at h; subst h; rw [sysAt_zero]; exact hy
   | succ i =>
    simp only [List.getElem?_cons_succ] at h
    exact bad_ok (xs := ys) (s := stepTo p s y) (i := i) (by omega) h
  ·omega
theorem bad_not {p : Int} {x : Stp} : ∀ {xs : List Stp} {s : Sy} {i : Nat}, i = firstBad p s xs → xs[i]? = some x → okTo p (sysAt p s xs i) x = false
 | [], _, _, _, h => by simp at h
 | y :: ys, s, i, hi, h => by
  unfold firstBad at hi
  split at hi
  ·cases i with
   | zero => omega
   | succ i =>
    simp only [List.getElem?_cons_succ] at h
    exact bad_not (xs := ys) (s := stepTo p s y) (i := i) (by omega) h
  ·rename_i hy
   subst hi
   simp at h; subst h; rw [sysAt_zero]; simpa using hy
theorem bad_step {p : Int} {s : Sy} {xs : List Stp} {i : Nat} {x : Stp} (hi : i ≤ firstBad p s xs) (h : xs[i]? = some x) (ho : okTo p (sysAt p s xs i) x = true) : i + 1 ≤ firstBad p s xs := by
 rcases Nat.lt_or_eq_of_le hi with h1 | h1
 ·exact h1
 ·rw [bad_not h1 h] at ho; cases ho
theorem bad_here {p : Int} {s : Sy} {xs : List Stp} {i : Nat} {x : Stp} (hi : i ≤ firstBad p s xs) (h : xs[i]? = some x) (ho : okTo p (sysAt p s xs i) x = false) : firstBad p s xs = i := by
 rcases Nat.lt_or_eq_of_le hi with h1 | h1
 ·rw [bad_ok h1 h] at ho; cases ho
 ·exact h1.symm
theorem sysAt_ok {p : Int} {s : Sy} {xs : List Stp} (h : s.Ok p) : ∀ {i : Nat}, i ≤ firstBad p s xs → (sysAt p s xs i).Ok p
 | 0, _ => by rw [sysAt_zero]; exact h
 | i + 1, hi => by
  have hl := firstBad_le p xs s
  have hx : xs[i]? = some xs[i] := List.getElem?_eq_getElem (by omega)
  rw [sysAt_succ hx]
  exact stepTo_ok (sysAt_ok h (by omega)) (bad_ok (by omega) hx)
/-- All sizes of a valid system are small. -/
structure Small (s : Sy) : Prop where
 n : s.rows.length ≤ 160
 len : ∀ r ∈ s.rows, r.length ≤ 1000
theorem Sy.Ok.small {p : Int} {s : Sy} (h : s.Ok p) : Small s := ⟨Sys.n h, fun r hr => by have := Sys.len h r hr; have := Sys.v24 h; have := Sys.h100 h; omega⟩
/-- The cells of a step at an offset of a block. -/
def StpAt (w : World) (b o : Nat) (x : Stp) (A' : Option Addr) (cap : Nat) : Prop :=
 w.cell? ⟨b, o, none⟩ = some (.int .i64 x.k) ∧ w.cell? ⟨b, o + 1, none⟩ = some (.int .i64 x.a) ∧ w.cell? ⟨b, o + 2, none⟩ = some (.int .i64 x.b) ∧ w.cell? ⟨b, o + 3, none⟩ = some (.int .i64 x.c) ∧ w.cell? ⟨b, o + 4, none⟩ = some (.slice A' x.row.length cap)
/-- The address A holds steps that read as xs. -/
def StepsAt (w : World) (A : Option Addr) (xs : List Stp) : Prop :=
 xs = [] ∨ ∃ b o, A = some ⟨b, o, none⟩ ∧ ∀ (k : Nat) (x : Stp), xs[k]? = some x → ∃ A' cap, StpAt w b (o + k * 5) x A' cap ∧ IntsAt w A' x.row
theorem StpAt.ext {w w' : World} {b o : Nat} {x : Stp} {A' : Option Addr} {cap : Nat} (h : StpAt w b o x A' cap) (hb : Below w.heap.size w w') : StpAt w' b o x A' cap :=
 ⟨ext_cell hb h.1, ext_cell hb h.2.1, ext_cell hb h.2.2.1, ext_cell hb h.2.2.2.1, ext_cell hb h.2.2.2.2⟩
theorem StepsAt.ext {w w' : World} {A : Option Addr} {xs : List Stp} (h : StepsAt w A xs) (hb : Below w.heap.size w w') : StepsAt w' A xs := by
 rcases h with h | ⟨b, o, hA, hc⟩
 ·exact Or.inl h
 ·refine Or.inr ⟨b, o, hA, fun k x hk => ?_⟩
  obtain ⟨A', cap, h1, h2⟩ := hc k x hk
  exact ⟨A', cap, h1.ext hb, h2.ext hb⟩
theorem StepsAt.here {w : World} {A : Option Addr} {xs : List Stp} (h : StepsAt w A xs) {k : Nat} (hk : k < xs.length) :
  ∃ b o, A = some ⟨b, o, none⟩ ∧ ∀ (k : Nat) (x : Stp), xs[k]? = some x → ∃ A' cap, StpAt w b (o + k * 5) x A' cap ∧ IntsAt w A' x.row := by
 rcases h with h | h
 ·simp [h] at hk
 ·exact h
/-- What is left of a budget behind steps: negative, or how many there are and how long their lines are. -/
def LeftSteps (left r : Int) (xs : List Stp) : Prop := r < 0 ∨ (0 ≤ r ∧ r ≤ left ∧ (xs.length : Int) ≤ left ∧ ∀ x ∈ xs, (x.row.length : Int) ≤ left)
end Go.Proofs.YtjdbfokbgmbphaaGreatDoor
