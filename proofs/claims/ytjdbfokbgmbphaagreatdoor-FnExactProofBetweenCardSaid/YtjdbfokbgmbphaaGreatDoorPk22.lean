/- makeStep in a valid system: it makes the step that the reference's condition allows, and nothing otherwise. Conditions: the system is valid, the table of primes is laid. -/
import Derived.Test.YtjdbfokbgmbphaaGreatDoorPk16
import Derived.Test.YtjdbfokbgmbphaaGreatDoorPk20
import Derived.Test.YtjdbfokbgmbphaaGreatDoorPk15
import Derived.Test.YtjdbfokbgmbphaaGreatDoorPk21
import Derived.Test.YtjdbfokbgmbphaaGreatDoorPk9
namespace Go.Proofs.YtjdbfokbgmbphaaGreatDoor
set_option linter.unusedVariables false
set_option linter.unusedSimpArgs false
open Go.RowKit
theorem mk_swap (p v h a b c : Int) (A : Option Addr) (cap : Nat) (rows : List (List Int)) (w : World) (XA : Option Addr) (row : List Int) (xcap : Nat) (hP : Primes w) (hR : RowsAt w A rows) (hX : IntsAt w XA row) (hrow : row.length ≤ 1048576) (s : Sys p v h rows) :
  Calls Tryz.prog 53 #[.int .i64 p, .agg #[.int .i64 v, .int .i64 h, .slice A rows.length cap], .agg #[.int .i64 1, .int .i64 a, .int .i64 b, .int .i64 c, .slice XA row.length xcap]] w (Made v (hNew 1 h) (rowsNew p v rows 1 a b c row (v + h).toNat) (stB p v h rows 1 a b c row) w) := by
 have hp2 := s.p2; have hp97 := s.p97; have hv24 := s.v24; have hh100 := s.h100; have hn160 := s.n
 have hML : rows.length ≤ maxLen := by unfold maxLen; omega
 have hM1 : ∀ r ∈ rows, r.length ≤ 1000 := fun r hr => by have := s.len r hr; omega
 have hMS : ∀ r ∈ rows, r.length ≤ maxLen := fun r hr => by have := hM1 r hr; unfold maxLen; omega
 have hEl : ∀ r ∈ rows, ∀ x ∈ r, 0 ≤ x ∧ x ≤ 1000 := fun r hr x hx => by have := s.el r hr x hx; omega
 have hem : emB 1 a b c row.length = ((c == 0) && ((row.length == 0))) := by simp [emB]
 have hca : canB p v h rows 1 a b c row = (inB a 0 ((rows.length : Int) - 1) && (inB b 0 ((rows.length : Int) - 1) && (a != b))) := by simp [canB]
 have hne : rowsNew p v rows 1 a b c row (v + h).toNat = (rows.set a.toNat (rows.getD b.toNat [])).set b.toNat (rows.getD a.toNat []) := by simp [rowsNew]
 have hhn : hNew 1 h = h := by simp [hNew]
 rw [stB_eq s]
 have SOF := fun W => stepOf_swapStep a b c XA row.length xcap W hrow
 cases he : emB 1 a b c row.length with
 | false =>
  rw [hem] at he
  refine (make_not p v h 1 a b c A cap rows w XA row.length xcap (fun W => ?_)).mono fun e w' ⟨h1, h2⟩ => Made.no (by simp) h1 h2
  have := SOF W
  rw [he] at this
  exact this
 | true =>
  rw [hem] at he
  have SO := SOF
  rw [he] at SO
  cases hc : canB p v h rows 1 a b c row with
  | false =>
   refine (make_swapStep p v h 0 0 A cap rows [] w false a b c XA row.length xcap SO (fun W hW => ?_) (fun h => by cases h) hP (Nat.zero_le _) (fun r hr => by cases hr)).mono fun e w' m => m.none (by simp) (by simp)
   exact Calls.bool_eq' (swapCan_any a b p v h A cap rows W hML) (hca.symm.trans hc)
  | true =>
   have hg := rowsNew_good s hc
   have hL : ∀ r ∈ rowsNew p v rows 1 a b c row (v + h).toNat, r.length ≤ maxLen := by
    intro r hr
    have h1 := (hg.1 r hr).1
    have h2 : hNew 1 h ≤ h + 1 := by rw [hhn]; omega
    unfold maxLen; omega
   refine (make_swapStep p v h v (hNew 1 h) A cap rows (rowsNew p v rows 1 a b c row (v + h).toNat) w true a b c XA row.length xcap SO (fun W hW => ?_) (fun _ W hW => ?_) hP (by have := hg.2.2; unfold maxLen; omega) hL).mono fun e w' m => m.same (by simp)
   ·exact Calls.bool_eq' (swapCan_any a b p v h A cap rows W hML) (hca.symm.trans hc)
   ·rw [hca] at hc
    rw [hne, hhn]
    simp [inB_iff, elemB_iff, vecB_iff] at hc
    obtain ⟨⟨a1, a2⟩, ⟨b1, b2⟩, hab⟩ := hc
    exact swapDo_any a b p v h A cap rows W (hR.ext hW) s.n hM1 a1 (by omega) b1 (by omega) hab
theorem mk_scale (p v h a b c : Int) (A : Option Addr) (cap : Nat) (rows : List (List Int)) (w : World) (XA : Option Addr) (row : List Int) (xcap : Nat) (hP : Primes w) (hR : RowsAt w A rows) (hX : IntsAt w XA row) (hrow : row.length ≤ 1048576) (s : Sys p v h rows) :
  Calls Tryz.prog 53 #[.int .i64 p, .agg #[.int .i64 v, .int .i64 h, .slice A rows.length cap], .agg #[.int .i64 2, .int .i64 a, .int .i64 b, .int .i64 c, .slice XA row.length xcap]] w (Made v (hNew 2 h) (rowsNew p v rows 2 a b c row (v + h).toNat) (stB p v h rows 2 a b c row) w) := by
 have hp2 := s.p2; have hp97 := s.p97; have hv24 := s.v24; have hh100 := s.h100; have hn160 := s.n
 have hML : rows.length ≤ maxLen := by unfold maxLen; omega
 have hM1 : ∀ r ∈ rows, r.length ≤ 1000 := fun r hr => by have := s.len r hr; omega
 have hMS : ∀ r ∈ rows, r.length ≤ maxLen := fun r hr => by have := hM1 r hr; unfold maxLen; omega
 have hEl : ∀ r ∈ rows, ∀ x ∈ r, 0 ≤ x ∧ x ≤ 1000 := fun r hr x hx => by have := s.el r hr x hx; omega
 have hem : emB 2 a b c row.length = ((b == 0) && ((row.length == 0))) := by simp [emB]
 have hca : canB p v h rows 2 a b c row = (inB a 0 ((rows.length : Int) - 1) && (elemB p c && (c != 0))) := by simp [canB]
 have hne : rowsNew p v rows 2 a b c row (v + h).toNat = rows.set a.toNat (mulRow p c (rows.getD a.toNat [])) := by simp [rowsNew]
 have hhn : hNew 2 h = h := by simp [hNew]
 rw [stB_eq s]
 have SOF := fun W => stepOf_scaleStep a b c XA row.length xcap W hrow
 cases he : emB 2 a b c row.length with
 | false =>
  rw [hem] at he
  refine (make_not p v h 2 a b c A cap rows w XA row.length xcap (fun W => ?_)).mono fun e w' ⟨h1, h2⟩ => Made.no (by simp) h1 h2
  have := SOF W
  rw [he] at this
  exact this
 | true =>
  rw [hem] at he
  have SO := SOF
  rw [he] at SO
  cases hc : canB p v h rows 2 a b c row with
  | false =>
   refine (make_scaleStep p v h 0 0 A cap rows [] w false a b c XA row.length xcap SO (fun W hW => ?_) (fun h => by cases h) hP (Nat.zero_le _) (fun r hr => by cases hr)).mono fun e w' m => m.none (by simp) (by simp)
   exact Calls.bool_eq' (scaleCan_any a c p v h A cap rows W hML) (hca.symm.trans hc)
  | true =>
   have hg := rowsNew_good s hc
   have hL : ∀ r ∈ rowsNew p v rows 2 a b c row (v + h).toNat, r.length ≤ maxLen := by
    intro r hr
    have h1 := (hg.1 r hr).1
    have h2 : hNew 2 h ≤ h + 1 := by rw [hhn]; omega
    unfold maxLen; omega
   refine (make_scaleStep p v h v (hNew 2 h) A cap rows (rowsNew p v rows 2 a b c row (v + h).toNat) w true a b c XA row.length xcap SO (fun W hW => ?_) (fun _ W hW => ?_) hP (by have := hg.2.2; unfold maxLen; omega) hL).mono fun e w' m => m.same (by simp)
   ·exact Calls.bool_eq' (scaleCan_any a c p v h A cap rows W hML) (hca.symm.trans hc)
   ·rw [hca] at hc
    rw [hne, hhn]
    simp [inB_iff, elemB_iff, vecB_iff] at hc
    obtain ⟨⟨a1, a2⟩, ⟨c1, c2⟩, _⟩ := hc
    exact scaleDo_any a c p v h A cap rows W (hR.ext hW) s.n hM1 (by omega) (by omega) a1 (by omega) c1 (by omega) hEl
theorem mk_add (p v h a b c : Int) (A : Option Addr) (cap : Nat) (rows : List (List Int)) (w : World) (XA : Option Addr) (row : List Int) (xcap : Nat) (hP : Primes w) (hR : RowsAt w A rows) (hX : IntsAt w XA row) (hrow : row.length ≤ 1048576) (s : Sys p v h rows) :
  Calls Tryz.prog 53 #[.int .i64 p, .agg #[.int .i64 v, .int .i64 h, .slice A rows.length cap], .agg #[.int .i64 3, .int .i64 a, .int .i64 b, .int .i64 c, .slice XA row.length xcap]] w (Made v (hNew 3 h) (rowsNew p v rows 3 a b c row (v + h).toNat) (stB p v h rows 3 a b c row) w) := by
 have hp2 := s.p2; have hp97 := s.p97; have hv24 := s.v24; have hh100 := s.h100; have hn160 := s.n
 have hML : rows.length ≤ maxLen := by unfold maxLen; omega
 have hM1 : ∀ r ∈ rows, r.length ≤ 1000 := fun r hr => by have := s.len r hr; omega
 have hMS : ∀ r ∈ rows, r.length ≤ maxLen := fun r hr => by have := hM1 r hr; unfold maxLen; omega
 have hEl : ∀ r ∈ rows, ∀ x ∈ r, 0 ≤ x ∧ x ≤ 1000 := fun r hr x hx => by have := s.el r hr x hx; omega
 have hem : emB 3 a b c row.length = ((row.length == 0)) := by simp [emB]
 have hca : canB p v h rows 3 a b c row = (inB a 0 ((rows.length : Int) - 1) && (inB b 0 ((rows.length : Int) - 1) && ((a != b) && elemB p c))) := by simp [canB]
 have hne : rowsNew p v rows 3 a b c row (v + h).toNat = rows.set b.toNat (addRow p c (rows.getD b.toNat []) (rows.getD a.toNat [])) := by simp [rowsNew]
 have hhn : hNew 3 h = h := by simp [hNew]
 rw [stB_eq s]
 have SOF := fun W => stepOf_addStep a b c XA row.length xcap W hrow
 cases he : emB 3 a b c row.length with
 | false =>
  rw [hem] at he
  refine (make_not p v h 3 a b c A cap rows w XA row.length xcap (fun W => ?_)).mono fun e w' ⟨h1, h2⟩ => Made.no (by simp) h1 h2
  have := SOF W
  rw [he] at this
  exact this
 | true =>
  rw [hem] at he
  have SO := SOF
  rw [he] at SO
  cases hc : canB p v h rows 3 a b c row with
  | false =>
   refine (make_addStep p v h 0 0 A cap rows [] w false a b c XA row.length xcap SO (fun W hW => ?_) (fun h => by cases h) hP (Nat.zero_le _) (fun r hr => by cases hr)).mono fun e w' m => m.none (by simp) (by simp)
   exact Calls.bool_eq' (addCan_any a b c p v h A cap rows W hML) (hca.symm.trans hc)
  | true =>
   have hg := rowsNew_good s hc
   have hL : ∀ r ∈ rowsNew p v rows 3 a b c row (v + h).toNat, r.length ≤ maxLen := by
    intro r hr
    have h1 := (hg.1 r hr).1
    have h2 : hNew 3 h ≤ h + 1 := by rw [hhn]; omega
    unfold maxLen; omega
   refine (make_addStep p v h v (hNew 3 h) A cap rows (rowsNew p v rows 3 a b c row (v + h).toNat) w true a b c XA row.length xcap SO (fun W hW => ?_) (fun _ W hW => ?_) hP (by have := hg.2.2; unfold maxLen; omega) hL).mono fun e w' m => m.same (by simp)
   ·exact Calls.bool_eq' (addCan_any a b c p v h A cap rows W hML) (hca.symm.trans hc)
   ·rw [hca] at hc
    rw [hne, hhn]
    simp [inB_iff, elemB_iff, vecB_iff] at hc
    obtain ⟨⟨a1, a2⟩, ⟨b1, b2⟩, hab, c1, c2⟩ := hc
    by_cases hz : v + h = 0
    ·exact addDo_nil a b c p v h A cap rows W (hR.ext hW) s.n hM1 (by omega) (by omega) a1 (by omega) b1 (by omega) hab c1 (by omega) hEl (fun r hr => by have := s.len r hr; omega)
    ·exact addDo_any a b c p v h (v + h).toNat A cap rows W (hR.ext hW) s.n hM1 (by omega) (by omega) a1 (by omega) b1 (by omega) hab c1 (by omega) hEl (by have := s.v0; have := s.h0; omega) (fun r hr => by have := s.len r hr; omega)
theorem mk_drop (p v h a b c : Int) (A : Option Addr) (cap : Nat) (rows : List (List Int)) (w : World) (XA : Option Addr) (row : List Int) (xcap : Nat) (hP : Primes w) (hR : RowsAt w A rows) (hX : IntsAt w XA row) (hrow : row.length ≤ 1048576) (s : Sys p v h rows) :
  Calls Tryz.prog 53 #[.int .i64 p, .agg #[.int .i64 v, .int .i64 h, .slice A rows.length cap], .agg #[.int .i64 4, .int .i64 a, .int .i64 b, .int .i64 c, .slice XA row.length xcap]] w (Made v (hNew 4 h) (rowsNew p v rows 4 a b c row (v + h).toNat) (stB p v h rows 4 a b c row) w) := by
 have hp2 := s.p2; have hp97 := s.p97; have hv24 := s.v24; have hh100 := s.h100; have hn160 := s.n
 have hML : rows.length ≤ maxLen := by unfold maxLen; omega
 have hM1 : ∀ r ∈ rows, r.length ≤ 1000 := fun r hr => by have := s.len r hr; omega
 have hMS : ∀ r ∈ rows, r.length ≤ maxLen := fun r hr => by have := hM1 r hr; unfold maxLen; omega
 have hEl : ∀ r ∈ rows, ∀ x ∈ r, 0 ≤ x ∧ x ≤ 1000 := fun r hr x hx => by have := s.el r hr x hx; omega
 have hem : emB 4 a b c row.length = ((b == 0) && ((c == 0) && ((row.length == 0)))) := by simp [emB]
 have hca : canB p v h rows 4 a b c row = (inB a 0 ((rows.length : Int) - 1) && zeroB (rows.getD a.toNat [])) := by simp [canB]
 have hne : rowsNew p v rows 4 a b c row (v + h).toNat = rows.eraseIdx a.toNat := by simp [rowsNew]
 have hhn : hNew 4 h = h := by simp [hNew]
 rw [stB_eq s]
 have SOF := fun W => stepOf_dropStep a b c XA row.length xcap W hrow
 cases he : emB 4 a b c row.length with
 | false =>
  rw [hem] at he
  refine (make_not p v h 4 a b c A cap rows w XA row.length xcap (fun W => ?_)).mono fun e w' ⟨h1, h2⟩ => Made.no (by simp) h1 h2
  have := SOF W
  rw [he] at this
  exact this
 | true =>
  rw [hem] at he
  have SO := SOF
  rw [he] at SO
  cases hc : canB p v h rows 4 a b c row with
  | false =>
   refine (make_dropStep p v h 0 0 A cap rows [] w false a b c XA row.length xcap SO (fun W hW => ?_) (fun h => by cases h) hP (Nat.zero_le _) (fun r hr => by cases hr)).mono fun e w' m => m.none (by simp) (by simp)
   exact Calls.bool_eq' (dropCan_any a p v h A cap rows W hML (hR.ext hW) hMS) (hca.symm.trans hc)
  | true =>
   have hg := rowsNew_good s hc
   have hL : ∀ r ∈ rowsNew p v rows 4 a b c row (v + h).toNat, r.length ≤ maxLen := by
    intro r hr
    have h1 := (hg.1 r hr).1
    have h2 : hNew 4 h ≤ h + 1 := by rw [hhn]; omega
    unfold maxLen; omega
   refine (make_dropStep p v h v (hNew 4 h) A cap rows (rowsNew p v rows 4 a b c row (v + h).toNat) w true a b c XA row.length xcap SO (fun W hW => ?_) (fun _ W hW => ?_) hP (by have := hg.2.2; unfold maxLen; omega) hL).mono fun e w' m => m.same (by simp)
   ·exact Calls.bool_eq' (dropCan_any a p v h A cap rows W hML (hR.ext hW) hMS) (hca.symm.trans hc)
   ·rw [hca] at hc
    rw [hne, hhn]
    simp [inB_iff, elemB_iff, vecB_iff] at hc
    obtain ⟨⟨a1, a2⟩, _⟩ := hc
    exact dropDo_any a p v h A cap rows W (hR.ext hW) s.n hM1 a1 (by omega)
theorem mk_put (p v h a b c : Int) (A : Option Addr) (cap : Nat) (rows : List (List Int)) (w : World) (XA : Option Addr) (row : List Int) (xcap : Nat) (hP : Primes w) (hR : RowsAt w A rows) (hX : IntsAt w XA row) (hrow : row.length ≤ 1048576) (s : Sys p v h rows) :
  Calls Tryz.prog 53 #[.int .i64 p, .agg #[.int .i64 v, .int .i64 h, .slice A rows.length cap], .agg #[.int .i64 5, .int .i64 a, .int .i64 b, .int .i64 c, .slice XA row.length xcap]] w (Made v (hNew 5 h) (rowsNew p v rows 5 a b c row (v + h).toNat) (stB p v h rows 5 a b c row) w) := by
 have hp2 := s.p2; have hp97 := s.p97; have hv24 := s.v24; have hh100 := s.h100; have hn160 := s.n
 have hML : rows.length ≤ maxLen := by unfold maxLen; omega
 have hM1 : ∀ r ∈ rows, r.length ≤ 1000 := fun r hr => by have := s.len r hr; omega
 have hMS : ∀ r ∈ rows, r.length ≤ maxLen := fun r hr => by have := hM1 r hr; unfold maxLen; omega
 have hEl : ∀ r ∈ rows, ∀ x ∈ r, 0 ≤ x ∧ x ≤ 1000 := fun r hr x hx => by have := s.el r hr x hx; omega
 have hem : emB 5 a b c row.length = ((b == 0) && ((c == 0) && ((row.length == 0)))) := by simp [emB]
 have hca : canB p v h rows 5 a b c row = (inB a 0 (rows.length : Int)) := by simp [canB]
 have hne : rowsNew p v rows 5 a b c row (v + h).toNat = insAt rows a.toNat (List.replicate (v + h).toNat 0) := by simp [rowsNew]
 have hhn : hNew 5 h = h := by simp [hNew]
 rw [stB_eq s]
 have SOF := fun W => stepOf_putStep a b c XA row.length xcap W hrow
 cases he : emB 5 a b c row.length with
 | false =>
  rw [hem] at he
  refine (make_not p v h 5 a b c A cap rows w XA row.length xcap (fun W => ?_)).mono fun e w' ⟨h1, h2⟩ => Made.no (by simp) h1 h2
  have := SOF W
  rw [he] at this
  exact this
 | true =>
  rw [hem] at he
  have SO := SOF
  rw [he] at SO
  cases hc : canB p v h rows 5 a b c row with
  | false =>
   refine (make_putStep p v h 0 0 A cap rows [] w false a b c XA row.length xcap SO (fun W hW => ?_) (fun h => by cases h) hP (Nat.zero_le _) (fun r hr => by cases hr)).mono fun e w' m => m.none (by simp) (by simp)
   exact Calls.bool_eq' (putCan_any a p v h A cap rows W hML) (hca.symm.trans hc)
  | true =>
   have hg := rowsNew_good s hc
   have hL : ∀ r ∈ rowsNew p v rows 5 a b c row (v + h).toNat, r.length ≤ maxLen := by
    intro r hr
    have h1 := (hg.1 r hr).1
    have h2 : hNew 5 h ≤ h + 1 := by rw [hhn]; omega
    unfold maxLen; omega
   refine (make_putStep p v h v (hNew 5 h) A cap rows (rowsNew p v rows 5 a b c row (v + h).toNat) w true a b c XA row.length xcap SO (fun W hW => ?_) (fun _ W hW => ?_) hP (by have := hg.2.2; unfold maxLen; omega) hL).mono fun e w' m => m.same (by simp)
   ·exact Calls.bool_eq' (putCan_any a p v h A cap rows W hML) (hca.symm.trans hc)
   ·rw [hca] at hc
    rw [hne, hhn]
    simp [inB_iff, elemB_iff, vecB_iff] at hc
    obtain ⟨a1, a2⟩ := hc
    exact putDo_any a p v h A cap rows W (hR.ext hW) s.n hM1 a1 (by omega) s.v0 (by omega) s.h0 (by omega)
theorem mk_solve (p v h a b c : Int) (A : Option Addr) (cap : Nat) (rows : List (List Int)) (w : World) (XA : Option Addr) (row : List Int) (xcap : Nat) (hP : Primes w) (hR : RowsAt w A rows) (hX : IntsAt w XA row) (hrow : row.length ≤ 1048576) (s : Sys p v h rows) :
  Calls Tryz.prog 53 #[.int .i64 p, .agg #[.int .i64 v, .int .i64 h, .slice A rows.length cap], .agg #[.int .i64 6, .int .i64 a, .int .i64 b, .int .i64 c, .slice XA row.length xcap]] w (Made v (hNew 6 h) (rowsNew p v rows 6 a b c row (v + h).toNat) (stB p v h rows 6 a b c row) w) := by
 have hp2 := s.p2; have hp97 := s.p97; have hv24 := s.v24; have hh100 := s.h100; have hn160 := s.n
 have hML : rows.length ≤ maxLen := by unfold maxLen; omega
 have hM1 : ∀ r ∈ rows, r.length ≤ 1000 := fun r hr => by have := s.len r hr; omega
 have hMS : ∀ r ∈ rows, r.length ≤ maxLen := fun r hr => by have := hM1 r hr; unfold maxLen; omega
 have hEl : ∀ r ∈ rows, ∀ x ∈ r, 0 ≤ x ∧ x ≤ 1000 := fun r hr x hx => by have := s.el r hr x hx; omega
 have hem : emB 6 a b c row.length = ((c == 0) && ((row.length == 0))) := by simp [emB]
 have hca : canB p v h rows 6 a b c row = (inB a 0 ((rows.length : Int) - 1) && (inB b 0 (h - 1) && (((rows.getD a.toNat []).getD (v + b).toNat 0 != 0) && freeB rows (v + b).toNat a))) := by simp [canB]
 have hne : rowsNew p v rows 6 a b c row (v + h).toNat = (rows.map (fun r => r.eraseIdx (v + b).toNat)).eraseIdx a.toNat := by simp [rowsNew]
 have hhn : hNew 6 h = h - 1 := by simp [hNew]
 rw [stB_eq s]
 have SOF := fun W => stepOf_solveStep a b c XA row.length xcap W hrow
 cases he : emB 6 a b c row.length with
 | false =>
  rw [hem] at he
  refine (make_not p v h 6 a b c A cap rows w XA row.length xcap (fun W => ?_)).mono fun e w' ⟨h1, h2⟩ => Made.no (by simp) h1 h2
  have := SOF W
  rw [he] at this
  exact this
 | true =>
  rw [hem] at he
  have SO := SOF
  rw [he] at SO
  cases hc : canB p v h rows 6 a b c row with
  | false =>
   refine (make_solveStep p v h 0 0 A cap rows [] w false a b c XA row.length xcap SO (fun W hW => ?_) (fun h => by cases h) hP (Nat.zero_le _) (fun r hr => by cases hr)).mono fun e w' m => m.none (by simp) (by simp)
   exact Calls.bool_eq' (solveCan_any a b p v h A cap rows W hML (hR.ext hW) s.v0 s.v24 s.h0 s.h100 s.len) (hca.symm.trans hc)
  | true =>
   have hg := rowsNew_good s hc
   have hL : ∀ r ∈ rowsNew p v rows 6 a b c row (v + h).toNat, r.length ≤ maxLen := by
    intro r hr
    have h1 := (hg.1 r hr).1
    have h2 : hNew 6 h ≤ h + 1 := by rw [hhn]; omega
    unfold maxLen; omega
   refine (make_solveStep p v h v (hNew 6 h) A cap rows (rowsNew p v rows 6 a b c row (v + h).toNat) w true a b c XA row.length xcap SO (fun W hW => ?_) (fun _ W hW => ?_) hP (by have := hg.2.2; unfold maxLen; omega) hL).mono fun e w' m => m.same (by simp)
   ·exact Calls.bool_eq' (solveCan_any a b p v h A cap rows W hML (hR.ext hW) s.v0 s.v24 s.h0 s.h100 s.len) (hca.symm.trans hc)
   ·rw [hca] at hc
    rw [hne, hhn]
    simp [inB_iff, elemB_iff, vecB_iff] at hc
    obtain ⟨⟨a1, a2⟩, ⟨b1, b2⟩, _⟩ := hc
    exact solveDo_any a b p v h A cap rows W (hR.ext hW) s.n hM1 a1 (by omega) s.v0 (by omega) b1 (by omega) (by omega) (by omega) (fun r hr => by have := s.len r hr; omega)
theorem mk_bring (p v h a b c : Int) (A : Option Addr) (cap : Nat) (rows : List (List Int)) (w : World) (XA : Option Addr) (row : List Int) (xcap : Nat) (hP : Primes w) (hR : RowsAt w A rows) (hX : IntsAt w XA row) (hrow : row.length ≤ 1048576) (s : Sys p v h rows) :
  Calls Tryz.prog 53 #[.int .i64 p, .agg #[.int .i64 v, .int .i64 h, .slice A rows.length cap], .agg #[.int .i64 7, .int .i64 a, .int .i64 b, .int .i64 c, .slice XA row.length xcap]] w (Made v (hNew 7 h) (rowsNew p v rows 7 a b c row (v + h).toNat) (stB p v h rows 7 a b c row) w) := by
 have hp2 := s.p2; have hp97 := s.p97; have hv24 := s.v24; have hh100 := s.h100; have hn160 := s.n
 have hML : rows.length ≤ maxLen := by unfold maxLen; omega
 have hM1 : ∀ r ∈ rows, r.length ≤ 1000 := fun r hr => by have := s.len r hr; omega
 have hMS : ∀ r ∈ rows, r.length ≤ maxLen := fun r hr => by have := hM1 r hr; unfold maxLen; omega
 have hEl : ∀ r ∈ rows, ∀ x ∈ r, 0 ≤ x ∧ x ≤ 1000 := fun r hr x hx => by have := s.el r hr x hx; omega
 have hem : emB 7 a b c row.length = ((c == 0)) := by simp [emB]
 have hca : canB p v h rows 7 a b c row = (inB a 0 (rows.length : Int) && (inB b 0 h && (vecB p row (v + h + 1) && (row.getD (v + b).toNat 0 != 0)))) := by simp [canB]
 have hne : rowsNew p v rows 7 a b c row (v + h).toNat = insAt (rows.map (fun r => insAt r (v + b).toNat 0)) a.toNat row := by simp [rowsNew]
 have hhn : hNew 7 h = h + 1 := by simp [hNew]
 rw [stB_eq s]
 have SOF := fun W => stepOf_bringStep a b c XA row.length xcap W hrow
 cases he : emB 7 a b c row.length with
 | false =>
  rw [hem] at he
  refine (make_not p v h 7 a b c A cap rows w XA row.length xcap (fun W => ?_)).mono fun e w' ⟨h1, h2⟩ => Made.no (by simp) h1 h2
  have := SOF W
  rw [he] at this
  exact this
 | true =>
  rw [hem] at he
  have SO := SOF
  rw [he] at SO
  cases hc : canB p v h rows 7 a b c row with
  | false =>
   refine (make_bringStep p v h 0 0 A cap rows [] w false a b c XA row.length xcap SO (fun W hW => ?_) (fun h => by cases h) hP (Nat.zero_le _) (fun r hr => by cases hr)).mono fun e w' m => m.none (by simp) (by simp)
   exact Calls.bool_eq' (bringCan_any a b XA xcap row p v h A cap rows W hML (hX.ext hW) (by unfold maxLen; omega) s.v0 s.v24 s.h0 s.h100) (hca.symm.trans hc)
  | true =>
   have hg := rowsNew_good s hc
   have hL : ∀ r ∈ rowsNew p v rows 7 a b c row (v + h).toNat, r.length ≤ maxLen := by
    intro r hr
    have h1 := (hg.1 r hr).1
    have h2 : hNew 7 h ≤ h + 1 := by rw [hhn]; omega
    unfold maxLen; omega
   refine (make_bringStep p v h v (hNew 7 h) A cap rows (rowsNew p v rows 7 a b c row (v + h).toNat) w true a b c XA row.length xcap SO (fun W hW => ?_) (fun _ W hW => ?_) hP (by have := hg.2.2; unfold maxLen; omega) hL).mono fun e w' m => m.same (by simp)
   ·exact Calls.bool_eq' (bringCan_any a b XA xcap row p v h A cap rows W hML (hX.ext hW) (by unfold maxLen; omega) s.v0 s.v24 s.h0 s.h100) (hca.symm.trans hc)
   ·rw [hca] at hc
    rw [hne, hhn]
    simp [inB_iff, elemB_iff, vecB_iff] at hc
    obtain ⟨⟨a1, a2⟩, ⟨b1, b2⟩, ⟨l1, _⟩, _⟩ := hc
    exact bringDo_any a b p v h A XA cap xcap row rows W (hR.ext hW) s.n hM1 (hX.ext hW) (by omega) a1 (by omega) s.v0 (by omega) b1 (by omega) s.h0 (by omega) (fun r hr => by have := s.len r hr; omega)
theorem mk_forget (p v h a b c : Int) (A : Option Addr) (cap : Nat) (rows : List (List Int)) (w : World) (XA : Option Addr) (row : List Int) (xcap : Nat) (hP : Primes w) (hR : RowsAt w A rows) (hX : IntsAt w XA row) (hrow : row.length ≤ 1048576) (s : Sys p v h rows) :
  Calls Tryz.prog 53 #[.int .i64 p, .agg #[.int .i64 v, .int .i64 h, .slice A rows.length cap], .agg #[.int .i64 8, .int .i64 a, .int .i64 b, .int .i64 c, .slice XA row.length xcap]] w (Made v (hNew 8 h) (rowsNew p v rows 8 a b c row (v + h).toNat) (stB p v h rows 8 a b c row) w) := by
 have hp2 := s.p2; have hp97 := s.p97; have hv24 := s.v24; have hh100 := s.h100; have hn160 := s.n
 have hML : rows.length ≤ maxLen := by unfold maxLen; omega
 have hM1 : ∀ r ∈ rows, r.length ≤ 1000 := fun r hr => by have := s.len r hr; omega
 have hMS : ∀ r ∈ rows, r.length ≤ maxLen := fun r hr => by have := hM1 r hr; unfold maxLen; omega
 have hEl : ∀ r ∈ rows, ∀ x ∈ r, 0 ≤ x ∧ x ≤ 1000 := fun r hr x hx => by have := s.el r hr x hx; omega
 have hem : emB 8 a b c row.length = ((a == 0) && ((c == 0) && ((row.length == 0)))) := by simp [emB]
 have hca : canB p v h rows 8 a b c row = (inB b 0 (h - 1) && freeB rows (v + b).toNat (-1)) := by simp [canB]
 have hne : rowsNew p v rows 8 a b c row (v + h).toNat = rows.map (fun r => r.eraseIdx (v + b).toNat) := by simp [rowsNew]
 have hhn : hNew 8 h = h - 1 := by simp [hNew]
 rw [stB_eq s]
 have SOF := fun W => stepOf_forgetStep a b c XA row.length xcap W hrow
 cases he : emB 8 a b c row.length with
 | false =>
  rw [hem] at he
  refine (make_not p v h 8 a b c A cap rows w XA row.length xcap (fun W => ?_)).mono fun e w' ⟨h1, h2⟩ => Made.no (by simp) h1 h2
  have := SOF W
  rw [he] at this
  exact this
 | true =>
  rw [hem] at he
  have SO := SOF
  rw [he] at SO
  cases hc : canB p v h rows 8 a b c row with
  | false =>
   refine (make_forgetStep p v h 0 0 A cap rows [] w false a b c XA row.length xcap SO (fun W hW => ?_) (fun h => by cases h) hP (Nat.zero_le _) (fun r hr => by cases hr)).mono fun e w' m => m.none (by simp) (by simp)
   exact Calls.bool_eq' (forgetCan_any b p v h A cap rows W hML (hR.ext hW) s.v0 s.v24 s.h0 s.h100 s.len) (hca.symm.trans hc)
  | true =>
   have hg := rowsNew_good s hc
   have hL : ∀ r ∈ rowsNew p v rows 8 a b c row (v + h).toNat, r.length ≤ maxLen := by
    intro r hr
    have h1 := (hg.1 r hr).1
    have h2 : hNew 8 h ≤ h + 1 := by rw [hhn]; omega
    unfold maxLen; omega
   refine (make_forgetStep p v h v (hNew 8 h) A cap rows (rowsNew p v rows 8 a b c row (v + h).toNat) w true a b c XA row.length xcap SO (fun W hW => ?_) (fun _ W hW => ?_) hP (by have := hg.2.2; unfold maxLen; omega) hL).mono fun e w' m => m.same (by simp)
   ·exact Calls.bool_eq' (forgetCan_any b p v h A cap rows W hML (hR.ext hW) s.v0 s.v24 s.h0 s.h100 s.len) (hca.symm.trans hc)
   ·rw [hca] at hc
    rw [hne, hhn]
    simp [inB_iff, elemB_iff, vecB_iff] at hc
    obtain ⟨⟨b1, b2⟩, _⟩ := hc
    exact forgetDo_any b p v h A cap rows W (hR.ext hW) s.n hM1 s.v0 (by omega) b1 (by omega) (by omega) (by omega) (fun r hr => by have := s.len r hr; omega)
theorem mk_invent (p v h a b c : Int) (A : Option Addr) (cap : Nat) (rows : List (List Int)) (w : World) (XA : Option Addr) (row : List Int) (xcap : Nat) (hP : Primes w) (hR : RowsAt w A rows) (hX : IntsAt w XA row) (hrow : row.length ≤ 1048576) (s : Sys p v h rows) :
  Calls Tryz.prog 53 #[.int .i64 p, .agg #[.int .i64 v, .int .i64 h, .slice A rows.length cap], .agg #[.int .i64 9, .int .i64 a, .int .i64 b, .int .i64 c, .slice XA row.length xcap]] w (Made v (hNew 9 h) (rowsNew p v rows 9 a b c row (v + h).toNat) (stB p v h rows 9 a b c row) w) := by
 have hp2 := s.p2; have hp97 := s.p97; have hv24 := s.v24; have hh100 := s.h100; have hn160 := s.n
 have hML : rows.length ≤ maxLen := by unfold maxLen; omega
 have hM1 : ∀ r ∈ rows, r.length ≤ 1000 := fun r hr => by have := s.len r hr; omega
 have hMS : ∀ r ∈ rows, r.length ≤ maxLen := fun r hr => by have := hM1 r hr; unfold maxLen; omega
 have hEl : ∀ r ∈ rows, ∀ x ∈ r, 0 ≤ x ∧ x ≤ 1000 := fun r hr x hx => by have := s.el r hr x hx; omega
 have hem : emB 9 a b c row.length = ((a == 0) && ((c == 0) && ((row.length == 0)))) := by simp [emB]
 have hca : canB p v h rows 9 a b c row = (inB b 0 h) := by simp [canB]
 have hne : rowsNew p v rows 9 a b c row (v + h).toNat = rows.map (fun r => insAt r (v + b).toNat 0) := by simp [rowsNew]
 have hhn : hNew 9 h = h + 1 := by simp [hNew]
 rw [stB_eq s]
 have SOF := fun W => stepOf_inventStep a b c XA row.length xcap W hrow
 cases he : emB 9 a b c row.length with
 | false =>
  rw [hem] at he
  refine (make_not p v h 9 a b c A cap rows w XA row.length xcap (fun W => ?_)).mono fun e w' ⟨h1, h2⟩ => Made.no (by simp) h1 h2
  have := SOF W
  rw [he] at this
  exact this
 | true =>
  rw [hem] at he
  have SO := SOF
  rw [he] at SO
  cases hc : canB p v h rows 9 a b c row with
  | false =>
   refine (make_inventStep p v h 0 0 A cap rows [] w false a b c XA row.length xcap SO (fun W hW => ?_) (fun h => by cases h) hP (Nat.zero_le _) (fun r hr => by cases hr)).mono fun e w' m => m.none (by simp) (by simp)
   exact Calls.bool_eq' (inventCan_any b p v h A cap rows W hML) (hca.symm.trans hc)
  | true =>
   have hg := rowsNew_good s hc
   have hL : ∀ r ∈ rowsNew p v rows 9 a b c row (v + h).toNat, r.length ≤ maxLen := by
    intro r hr
    have h1 := (hg.1 r hr).1
    have h2 : hNew 9 h ≤ h + 1 := by rw [hhn]; omega
    unfold maxLen; omega
   refine (make_inventStep p v h v (hNew 9 h) A cap rows (rowsNew p v rows 9 a b c row (v + h).toNat) w true a b c XA row.length xcap SO (fun W hW => ?_) (fun _ W hW => ?_) hP (by have := hg.2.2; unfold maxLen; omega) hL).mono fun e w' m => m.same (by simp)
   ·exact Calls.bool_eq' (inventCan_any b p v h A cap rows W hML) (hca.symm.trans hc)
   ·rw [hca] at hc
    rw [hne, hhn]
    simp [inB_iff, elemB_iff, vecB_iff] at hc
    obtain ⟨b1, b2⟩ := hc
    exact inventDo_any b p v h A cap rows W (hR.ext hW) s.n hM1 s.v0 (by omega) b1 (by omega) s.h0 (by omega) (fun r hr => by have := s.len r hr; omega)
theorem mk_any (p v h k a b c : Int) (A : Option Addr) (cap : Nat) (rows : List (List Int)) (w : World) (XA : Option Addr) (row : List Int) (xcap : Nat) (hP : Primes w) (hR : RowsAt w A rows) (hX : IntsAt w XA row) (hrow : row.length ≤ 1048576) (s : Sys p v h rows) :
  Calls Tryz.prog 53 #[.int .i64 p, .agg #[.int .i64 v, .int .i64 h, .slice A rows.length cap], .agg #[.int .i64 k, .int .i64 a, .int .i64 b, .int .i64 c, .slice XA row.length xcap]] w (Made v (hNew k h) (rowsNew p v rows k a b c row (v + h).toNat) (stB p v h rows k a b c row) w) := by
 by_cases h1 : k = 1
 ·subst h1; exact mk_swap p v h a b c A cap rows w XA row xcap hP hR hX hrow s
 by_cases h2 : k = 2
 ·subst h2; exact mk_scale p v h a b c A cap rows w XA row xcap hP hR hX hrow s
 by_cases h3 : k = 3
 ·subst h3; exact mk_add p v h a b c A cap rows w XA row xcap hP hR hX hrow s
 by_cases h4 : k = 4
 ·subst h4; exact mk_drop p v h a b c A cap rows w XA row xcap hP hR hX hrow s
 by_cases h5 : k = 5
 ·subst h5; exact mk_put p v h a b c A cap rows w XA row xcap hP hR hX hrow s
 by_cases h6 : k = 6
 ·subst h6; exact mk_solve p v h a b c A cap rows w XA row xcap hP hR hX hrow s
 by_cases h7 : k = 7
 ·subst h7; exact mk_bring p v h a b c A cap rows w XA row xcap hP hR hX hrow s
 by_cases h8 : k = 8
 ·subst h8; exact mk_forget p v h a b c A cap rows w XA row xcap hP hR hX hrow s
 by_cases h9 : k = 9
 ·subst h9; exact mk_invent p v h a b c A cap rows w XA row xcap hP hR hX hrow s
 refine (make_not p v h k a b c A cap rows w XA row.length xcap (fun W => stepOf_other k a b c XA row.length xcap W hrow h1 h2 h3 h4 h5 h6 h7 h8 h9)).mono fun e w' ⟨e1, e2⟩ => Made.no (by simp [stB, *]) e1 e2
end Go.Proofs.YtjdbfokbgmbphaaGreatDoor
