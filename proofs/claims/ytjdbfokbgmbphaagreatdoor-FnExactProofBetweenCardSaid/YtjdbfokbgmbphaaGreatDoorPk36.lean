/- The whole reduction of a system, on both sides. Conditions: the system is valid; the table of primes is laid. -/
import Derived.Test.YtjdbfokbgmbphaaGreatDoorPk35
namespace Go.Proofs.YtjdbfokbgmbphaaGreatDoor
set_option linter.unusedVariables false
set_option linter.unusedSimpArgs false
open Go.RowKit
def r1N (p : Int) (b : Nat) (q : Sy × List Stp) : Sy × List Stp := push p q ⟨8, 0, b, 0, []⟩
def r1C (p : Int) (b : Nat) (q : Sy × List Stp) : Sy × List Stp := clr p (firstR q.1 (q.1.v + b).toNat 0) (q.1.v + b).toNat (invP p (ent q.1 (firstR q.1 (q.1.v + b).toNat 0) (q.1.v + b).toNat)) q.1.rows.length q
def r1S (p : Int) (b : Nat) (q : Sy × List Stp) : Sy × List Stp := push p (r1C p b q) ⟨6, firstR q.1 (q.1.v + b).toNat 0, b, 0, []⟩
theorem red1_none {p : Int} {b : Nat} {q : Sy × List Stp} (h : firstR q.1 (q.1.v + b).toNat 0 = q.1.rows.length) : red1 p (b + 1) q = red1 p b (r1N p b q) := by
 show red1 p b (if _ then _ else _) = _
 rw [if_pos h]; rfl
theorem red1_some {p : Int} {b : Nat} {q : Sy × List Stp} (h : firstR q.1 (q.1.v + b).toNat 0 ≠ q.1.rows.length) : red1 p (b + 1) q = red1 p b (r1S p b q) := by
 show red1 p b (if _ then _ else _) = _
 rw [if_neg h]; rfl
theorem hNew8 (h : Int) : hNew 8 h = h - 1 := by simp [hNew]
theorem hNew6 (h : Int) : hNew 6 h = h - 1 := by simp [hNew]
theorem st1_none {p : Int} {b : Nat} {q : Sy × List Stp} (hok : q.1.Ok p) (hb : (b : Int) + 1 = q.1.h) (h : firstR q.1 (q.1.v + b).toNat 0 = q.1.rows.length) :
  okTo p q.1 ⟨8, 0, b, 0, []⟩ = true ∧ (r1N p b q).1.Ok p ∧ (r1N p b q).1.v = q.1.v ∧ (r1N p b q).1.h = b ∧ (r1N p b q).2.length = q.2.length + 1 := by
 obtain ⟨_, _, f3, _⟩ := firstR_spec q.1 (q.1.v + b).toNat 0 (Nat.zero_le _)
 have ho : okTo p q.1 ⟨8, 0, b, 0, []⟩ = true := ok8 hb (fun j hj => f3 j (Nat.zero_le _) (by omega))
 exact ⟨ho, stepTo_ok hok ho, rfl, by show hNew 8 q.1.h = b; rw [hNew8]; omega, by simp [r1N, push]⟩
theorem st1_some {p : Int} {b a : Nat} {q : Sy × List Stp} (hok : q.1.Ok p) (hb : (b : Int) + 1 = q.1.h) (ha : firstR q.1 (q.1.v + b).toNat 0 = a) (h : a < q.1.rows.length) :
  ent q.1 a (q.1.v + b).toNat ≠ 0 ∧ (r1C p b q).1.Ok p ∧ okTo p (r1C p b q).1 ⟨6, a, b, 0, []⟩ = true ∧ (r1S p b q).1.Ok p ∧ (r1S p b q).1.v = q.1.v ∧ (r1S p b q).1.h = b ∧ (r1C p b q).2.length ≤ q.2.length + q.1.rows.length ∧ (r1S p b q).2.length ≤ q.2.length + q.1.rows.length + 1 := by
 obtain ⟨_, _, _, f4⟩ := firstR_spec q.1 (q.1.v + b).toNat 0 (Nat.zero_le _)
 rw [ha] at f4
 have hv := Sys.v0 hok
 have hcv : ((q.1.v + b).toNat : Int) < q.1.v + q.1.h := by omega
 have hne := f4 h
 have he := ent_bd hok h hcv
 obtain ⟨i1, _, _⟩ := inv_spec (Sys.f hok) (show 1 ≤ ent q.1 a (q.1.v + b).toNat by omega) he.2
 have k : Clr p a (q.1.v + b).toNat q.1 (r1C p b q).1 q.1.rows.length := by
  unfold r1C; rw [ha]; exact clr_all (X := q.2) hok h hcv i1 q.1.rows.length (Nat.le_refl _)
 have hl : (r1C p b q).2.length ≤ q.2.length + q.1.rows.length := clr_len _ _ _ _ _ _
 have ho : okTo p (r1C p b q).1 ⟨6, a, b, 0, []⟩ = true := ok6 (by rw [k.h]; exact hb) (by rw [k.n]; exact h) (fun j hj hja => by rw [k.v]; exact k.zero j (by rw [k.n] at hj; exact hj) hja) (by rw [k.v, ent_row k.row]; exact hne)
 unfold r1S
 rw [ha]
 refine ⟨hne, k.ok, ho, stepTo_ok k.ok ho, k.v, ?_, hl, by simp [push]; omega⟩
 show hNew 6 (r1C p b q).1.h = b
 rw [hNew6, k.h]; omega
theorem red2_none {p : Int} {m c r : Nat} {q : Sy × List Stp} (h : firstR q.1 c r = q.1.rows.length) : red2 p (m + 1) c (r, q) = red2 p m (c + 1) (r, q) := by
 show red2 p m (c + 1) (if _ then _ else _) = _
 rw [if_pos h]
theorem red2_some {p : Int} {m c r : Nat} {q : Sy × List Stp} (h : firstR q.1 c r ≠ q.1.rows.length) : red2 p (m + 1) c (r, q) = red2 p m (c + 1) (r + 1, red2c p c r (red2b p c r (red2a p c r q))) := by
 show red2 p m (c + 1) (if _ then _ else _) = _
 rw [if_neg h]
theorem red2a_len (p : Int) (c r : Nat) (q : Sy × List Stp) : (red2a p c r q).2.length ≤ q.2.length + 1 := by
 unfold red2a; split <;> simp [push]
theorem red2b_len (p : Int) (c r : Nat) (q : Sy × List Stp) : (red2b p c r q).2.length ≤ q.2.length + 1 := by
 unfold red2b; split <;> simp [push]
theorem red2c_len (p : Int) (c r : Nat) (q : Sy × List Stp) : (red2c p c r q).2.length ≤ q.2.length + q.1.rows.length := clr_len _ _ _ _ _ _
theorem red3_go {p : Int} {r i : Nat} {q : Sy × List Stp} (h : r ≤ i) : red3 p r (i + 1) q = red3 p r i (push p q ⟨4, i, 0, 0, []⟩) := by
 show (if r ≤ i then _ else _) = _
 rw [if_pos h]
theorem red3_end {p : Int} {r n : Nat} {q : Sy × List Stp} (h : n ≤ r) : red3 p r n q = q := by
 cases n with
 | zero => rfl
 | succ i =>
  show (if r ≤ i then _ else _) = _
  rw [if_neg (by omega)]
set_option maxRecDepth 100000 in
set_option maxHeartbeats 16000000 in
theorem implReduce (w w0 : World) (bb : Nat) (p : Int) (s : Sy) (hP : Primes w) (h : RedAt 109 w w0 bb p s []) (hok : s.Ok p) :
  Calls Tryz.prog 101 #[.pointer (some ⟨bb, 0, none⟩)] w0 fun e w' => e = .returned (.tuple #[]) ∧ RedAt 109 w w' bb p (redQ p s).1 (redQ p s).2 ∧ Below bb w0 w' := by
 have hh0 := Sys.h0 hok; have hh100 := Sys.h100 hok
 have HOK := Lib.hid hok; have HH := Lib.hid h
 have HBS := Lib.hid (Below.refl bb w0)
 have hcell : w0.cell? ⟨bb, 2, none⟩ = some (.int .i64 s.h) := by
  obtain ⟨_, _, A, c, A8, c8, us, hq, _⟩ := h
  exact (cells_5 hq).2.2.1
 clear h hok
 go_enter Tryz.func101, Tryz.ntmps101
 go_wp2
 clear hcell
 go_loopw [2] (fun i wr => ∃ (j : Int) (q : Sy × List Stp), i = .int .i64 j ∧ -1 ≤ j ∧ j ≤ 99 ∧ Hid (q.1.h = j + 1) ∧ Hid (q.1.v = s.v) ∧ Hid (q.1.Ok p) ∧ Hid (red1 p (j + 1).toNat q = red1 p s.h.toNat (s, [])) ∧ Hid ((q.2.length : Int) ≤ (99 - j) * 161) ∧ Hid (RedAt 109 w wr bb p q.1 q.2) ∧ Below bb w0 wr)
  (fun i _ => (intOf i + 1).toNat)
 case atStart => exact ⟨_, (s, []), rfl, by omega, by omega, Lib.hid (by show s.h = _; omega), Lib.hid rfl, Lib.hid HOK.out, Lib.hid (by rw [show s.h - 1 + 1 = s.h by omega]), Lib.hid (by simp; omega), Lib.hid HH.out, HBS.out⟩
 case round =>
  obtain ⟨j, q, rfl, hj1, hj2, HHH, HV, HOQ, HRD, HLN, HRA, hbel⟩ := hrel
  have HBEL := Lib.hid hbel
  clear hbel HH HBS
  by_cases hlt : 0 ≤ j
  ·obtain ⟨b, hb⟩ : ∃ b : Nat, (b : Int) = j := ⟨j.toNat, by omega⟩
   subst hb
   have hq160 := HOQ.out.small.n
   have hqv : 0 ≤ q.1.v := Sys.v0 HOQ.out
   have hqv2 : q.1.v ≤ 24 := Sys.v24 HOQ.out
   have hcv : ((q.1.v + (b : Int)).toNat : Int) = q.1.v + b := by omega
   have hcw : ((q.1.v + (b : Int)).toNat : Int) < q.1.v + q.1.h := by have := HHH.out; omega
   have hf := firstR_spec q.1 (q.1.v + (b : Int)).toNat 0 (Nat.zero_le _)
   have FIRST := implFirst w wr bb p q.1 q.2 0 (q.1.v + (b : Int)).toNat HRA.out HOQ.out (Nat.zero_le _) hcw
   rw [hcv, show ((0 : Nat) : Int) = 0 from rfl] at FIRST
   have HCV := Lib.hid hcv; have HCW := Lib.hid hcw
   obtain ⟨ca, g, o, b2, o2, hz⟩ : ∃ ca g o b2 o2 : Nat, True := ⟨0, 0, 0, 0, 0, trivial⟩
   have hl10 : q.2.length ≤ 100000 := by have := HLN.out; omega
   have hcell : ∃ A c, wr.cell? ⟨bb, 1, none⟩ = some (.int .i64 q.1.v) ∧ wr.cell? ⟨bb, 3, none⟩ = some (.slice A q.1.rows.length c) := by
    obtain ⟨_, _, A, c, A8, c8, us, hq, _⟩ := HRA.out
    obtain ⟨_, y1, _, y3, _⟩ := cells_5 hq
    exact ⟨A, c, y1, y3⟩
   obtain ⟨AR, cR, y1, y3⟩ := hcell
   clear hcv hcw hz
   by_cases ha : firstR q.1 (q.1.v + (b : Int)).toNat 0 = q.1.rows.length
   ·obtain ⟨s1, s2, s3, s4, s5⟩ := st1_none HOQ.out (by have := HHH.out; omega) ha
    have MK := Lib.hid (implMake w wr bb p q.1 q.2 8 0 b 0 hP HRA.out HOQ.out s1 (by omega))
    have HR1 := Lib.hid (red1_none (p := p) ha)
    rw [firstI, if_pos ha] at FIRST
    have HF := Lib.hid FIRST
    have HS2 := Lib.hid s2; have HS3 := Lib.hid s3; have HS4 := Lib.hid s4; have HS5 := Lib.hid s5
    clear FIRST s1 s2 s3 s4 s5 ha hf
    go_wp2_with (first | (go_at_call 113; refine HF.out.mono ?_; rintro e w2 ⟨rfl, rfl⟩) | (go_at_call 114; refine MK.out.mono ?_; rintro e w3 ⟨rfl, hr3, hb3⟩; have HR3 := Lib.hid hr3; have HB3 := Lib.hid hb3; clear hr3 hb3))
    go_roundw
    case rel => exact ⟨_, r1N p b q, rfl, by omega, by omega, Lib.hid (by rw [HS4.out]; omega), Lib.hid (HS3.out.trans HV.out), Lib.hid HS2.out, Lib.hid (by rw [show ((b : Int) - 1 + 1).toNat = b by omega, ← HR1.out, ← HRD.out, show ((b : Int) + 1).toNat = b + 1 by omega]), Lib.hid (by have := HLN.out; have := HS5.out; omega), Lib.hid HR3.out, HBEL.out.trans HB3.out⟩
    case measure => simp [intOf] <;> omega
   ·obtain ⟨a, haa⟩ : ∃ a, firstR q.1 (q.1.v + (b : Int)).toNat 0 = a := ⟨_, rfl⟩
    have han : a < q.1.rows.length := by omega
    obtain ⟨s0, t1, s1, s2, s3, s4, s5, s6⟩ := st1_some HOQ.out (show (b : Int) + 1 = q.1.h by have := HHH.out; omega) haa han
    have CLE := implClear w wr bb p q.1 q.2 a (q.1.v + (b : Int)).toNat hP HRA.out HOQ.out han HCW.out s0 (by omega)
    have hr1c : clr p a (q.1.v + (b : Int)).toNat (invP p (ent q.1 a (q.1.v + (b : Int)).toNat)) q.1.rows.length (q.1, q.2) = r1C p b q := by unfold r1C; rw [haa]
    rw [hr1c, HCV.out] at CLE
    have HCLE := Lib.hid CLE
    have MKF := Lib.hid (fun W h => implMake w W bb p (r1C p b q).1 (r1C p b q).2 6 a b 0 hP h t1 s1 (by omega))
    have HR1 := Lib.hid (red1_some (p := p) ha)
    rw [firstI, if_neg ha, haa] at FIRST
    have HF := Lib.hid FIRST
    have HPU := Lib.hid (show r1S p b q = push p (r1C p b q) ⟨6, a, b, 0, []⟩ by unfold r1S; rw [haa])
    have HS2 := Lib.hid s2; have HS3 := Lib.hid s3; have HS4 := Lib.hid s4; have HS6 := Lib.hid s6
    clear FIRST CLE s0 t1 s1 s2 s3 s4 s5 s6 ha haa hr1c hf
    go_wp2_with (first | (go_at_call 113; refine HF.out.mono ?_; rintro e w2 ⟨rfl, rfl⟩) | (go_at_call 115; refine HCLE.out.mono ?_; rintro e w3 ⟨rfl, hr3, hb3⟩; have HR3 := Lib.hid hr3; have HB3 := Lib.hid hb3; clear hr3 hb3 y1 y3) | (go_at_call 114; refine (MKF.out _ HR3.out).mono ?_; rintro e w4 ⟨rfl, hr4, hb4⟩; have HR4 := Lib.hid hr4; have HB4 := Lib.hid hb4; clear hr4 hb4))
    go_roundw
    case rel => exact ⟨_, r1S p b q, rfl, by omega, by omega, Lib.hid (by rw [HS4.out]; omega), Lib.hid (HS3.out.trans HV.out), Lib.hid HS2.out, Lib.hid (by rw [show ((b : Int) - 1 + 1).toNat = b by omega, ← HR1.out, ← HRD.out, show ((b : Int) + 1).toNat = b + 1 by omega]), Lib.hid (by have := HLN.out; have := HS6.out; omega), Lib.hid (by rw [HPU.out]; exact HR4.out), (HBEL.out.trans HB3.out).trans HB4.out⟩
    case measure => simp [intOf] <;> omega
  ·have hjm : j = -1 := by omega
   have HQ1 := Lib.hid (show q = red1 p s.h.toNat (s, []) by
    have := HRD.out
    rw [hjm] at this
    exact this)
   have HH0 := Lib.hid (show q.1.h = 0 by have := HHH.out; omega)
   have hl1 : q.2.length ≤ 16100 := by have := HLN.out; omega
   obtain ⟨V, hV⟩ : ∃ V : Nat, (V : Int) = s.v := ⟨s.v.toNat, by have := Sys.v0 HOK.out; omega⟩
   have HVN := Lib.hid (show (V : Int) = q.1.v from hV.trans HV.out.symm)
   have HVS := Lib.hid hV
   have hV24 : V ≤ 24 := by have := Sys.v24 HOK.out; omega
   have hI2 : Inv2 p V 0 0 q.1 := ⟨HOQ.out, HH0.out, HVN.out.symm, Nat.zero_le _, fun d hd => by omega⟩
   have HI2 := Lib.hid hI2
   have hcell : wr.cell? ⟨bb, 1, none⟩ = some (.int .i64 V) := by
    obtain ⟨_, _, A, c, A8, c8, us, hq, _⟩ := HRA.out
    obtain ⟨_, y1, _⟩ := cells_5 hq
    rw [HVN.out]; exact y1
   obtain ⟨qs, hqs⟩ : ∃ qs, qs = q := ⟨_, rfl⟩
   rw [← hqs] at HQ1 HI2 hl1 HRA
   clear hqs HHH HRD HLN HOQ HVN HV hjm hV hI2 hj1 hj2 HH0
   go_wp2
   clear hcell hlt
   go_loopw [5, 50] (fun u5 u50 wr => ∃ (r c : Nat) (q : Sy × List Stp), u5 = .int .i64 r ∧ u50 = .int .i64 c ∧ c ≤ V ∧ r ≤ 160 ∧ Hid (Inv2 p V c r q.1) ∧ Hid (red2 p (V - c) c (r, q) = red2 p V 0 (0, qs)) ∧ Hid (q.2.length ≤ 16100 + c * 162) ∧ Hid (RedAt 109 w wr bb p q.1 q.2) ∧ Below bb w0 wr)
    (fun _ u50 _ => V - (intOf u50).toNat)
   case atStart => exact ⟨0, 0, qs, rfl, rfl, Nat.zero_le _, Nat.zero_le _, HI2, Lib.hid (by rw [Nat.sub_zero]), Lib.hid (by omega), HRA, HBEL.out⟩
   case round =>
    rename_i wrA _ _ _ _
    clear HRA HBEL HI2
    obtain ⟨r, c, q, rfl, rfl, hcV, hr160, HI, HRD, HLN, HRA, hbel⟩ := hrel
    have HBEL := Lib.hid hbel
    clear hbel
    by_cases hlt : c < V
    ·have hq160 := HI.out.ok.small.n
     have hrn := HI.out.hr
     have hcw : (c : Int) < q.1.v + q.1.h := by rw [HI.out.hv, HI.out.hh]; omega
     have FIRST := implFirst w wr bb p q.1 q.2 r c HRA.out HI.out.ok hrn hcw
     have hl10 : q.2.length ≤ 100000 := by have := HLN.out; omega
     have hcell : ∃ A c, wr.cell? ⟨bb, 3, none⟩ = some (.slice A q.1.rows.length c) := by
      obtain ⟨_, _, A, c, A8, c8, us, hq, _⟩ := HRA.out
      obtain ⟨_, y1, _, y3, _⟩ := cells_5 hq
      exact ⟨A, c, y3⟩
     obtain ⟨AR, cR, y3⟩ := hcell
     by_cases ha : firstR q.1 c r = q.1.rows.length
     ·have HR2 := Lib.hid (red2_none (p := p) (m := V - (c + 1)) ha)
      rw [firstI, if_pos ha] at FIRST
      have HF := Lib.hid FIRST
      have hI' : Inv2 p V (c + 1) r q.1 := ⟨HI.out.ok, HI.out.hh, HI.out.hv, hrn, fun d hd j hj hjn => by
       by_cases hdc : d = c
       ·subst hdc; exact (firstR_spec q.1 d r hrn).2.2.1 j hj (by omega)
       ·exact HI.out.z d (by omega) j hj hjn⟩
      have HI' := Lib.hid hI'
      clear FIRST hI' ha hcw
      go_wp2_with (go_at_call 113; refine HF.out.mono ?_; rintro e w2 ⟨rfl, rfl⟩)
      go_roundw
      case rel => exact ⟨r, c + 1, q, rfl, by go_num, by omega, hr160, HI', Lib.hid (by rw [← HRD.out, show V - c = (V - (c + 1)) + 1 by omega, HR2.out]), Lib.hid (by have := HLN.out; omega), HRA, HBEL.out⟩
      case measure => simp [intOf] <;> omega
     ·obtain ⟨a, haa⟩ : ∃ a, firstR q.1 c r = a := ⟨_, rfl⟩
      have hfs := firstR_spec q.1 c r hrn
      rw [haa] at hfs
      have han : a < q.1.rows.length := by omega
      have HR2 := Lib.hid (red2_some (p := p) (m := V - (c + 1)) ha)
      have hA := red2a_inv HI.out (show (c : Int) < V by omega) (by omega)
      rw [haa] at hA
      have hra : r ≤ a := hfs.1
      rw [firstI, if_neg ha, haa] at FIRST
      have HF := Lib.hid FIRST
      have hla := red2a_len p c r q
      obtain ⟨qa, hqa⟩ : ∃ qa, qa = red2a p c r q := ⟨_, rfl⟩
      have hqa2 : qa = if a ≠ r then push p q ⟨1, r, a, 0, []⟩ else q := by rw [hqa]; unfold red2a; rw [haa]
      rw [← hqa] at hA HR2 hla
      obtain ⟨hok1, hIa, hrna, hea⟩ := hA
      have hB := red2b_inv hIa (show (c : Int) < V by omega) hrna hea
      have hlb := red2b_len p c r qa
      obtain ⟨qb, hqb⟩ : ∃ qb, qb = red2b p c r qa := ⟨_, rfl⟩
      obtain ⟨x, hx⟩ : ∃ x, x = ent qa.1 r c := ⟨_, rfl⟩
      have hqb2 : qb = if x ≠ 1 then push p qa ⟨2, r, 0, invP p x, []⟩ else qa := by rw [hqb, hx]; rfl
      rw [← hqb] at hB HR2 hlb
      rw [← hx] at hB
      obtain ⟨hok2, hIb, hrnb, heb⟩ := hB
      have hIc := red2c_inv hIb (show (c : Int) < V by omega) hrnb heb
      have hlc := red2c_len p c r qb
      have hqb160 := hIb.ok.small.n
      have HIA := Lib.hid hIa; have HIB := Lib.hid hIb; have HIC := Lib.hid hIc; have HRNA := Lib.hid hrna; have HRNB := Lib.hid hrnb; have HEB := Lib.hid heb; have HOK1 := Lib.hid hok1; have HOK2 := Lib.hid hok2; have HQA := Lib.hid hqa2; have HQB := Lib.hid hqb2; have HX := Lib.hid hx; have HEA := Lib.hid hea
      have hcwa : (c : Int) < qa.1.v + qa.1.h := by rw [hIa.hv, hIa.hh]; omega
      have hcwb : (c : Int) < qb.1.v + qb.1.h := by rw [hIb.hv, hIb.hh]; omega
      have hxb := ent_bd hIa.ok hrna hcwa
      rw [← hx] at hxb hea
      have HCWA := Lib.hid hcwa; have HCWB := Lib.hid hcwb
      have hx1 : 1 ≤ x := by omega
      have hxp : x < p := hxb.2
      have HFP := Lib.hid (Sys.f HI.out.ok)
      have hp2 := Sys.p2 HI.out.ok; have hp97 := Sys.p97 HI.out.ok
      have INV := Lib.hid (fun (W : World) => (inverse_any p x W HFP.out hx1 hxp : Calls Tryz.prog 116 #[.int .i64 p, .int .i64 x] W _))
      have hlen3 : q.2.length + 1 + 1 + 160 ≤ 30000 := by have := HLN.out; omega
      have hla2 : qa.2.length ≤ 30000 := by omega
      have hlb2 : qb.2.length ≤ 30000 := by omega
      have HLC := Lib.hid (show (red2c p c r qb).2.length ≤ q.2.length + 162 by omega)
      have hrn2 : r < q.1.rows.length := by omega
      have hrq : r + 1 ≤ 160 := by omega
      clear FIRST haa ha hqa hqb hqa2 hqb2 hx hIa hIb hIc hrna hrnb heb hok1 hok2 hcwa hcwb hcw hfs hea hxb hla hlb hlc hlen3
      by_cases hne : a ≠ r
      ·have hneb : ((a : Int) != (r : Int)) = true := by simp; omega
       have hneb2 : (a != r) = true := by simp [hne]
       have MK := Lib.hid (implMake w wr bb p q.1 q.2 1 r a 0 hP HRA.out HI.out.ok (HOK1.out hne) (by omega))
       have HQA2 := Lib.hid (show qa = push p q ⟨1, r, a, 0, []⟩ by rw [HQA.out, if_pos hne])
       clear hne
       go_upto_region 17 with (first | (go_at_call 113; refine HF.out.mono ?_; rintro e w2 ⟨rfl, rfl⟩) | (go_at_call 114; refine MK.out.mono ?_; rintro e w3 ⟨rfl, hr3, hb3⟩; have HRa := Lib.hid (show RedAt 109 w w3 bb p qa.1 qa.2 by rw [HQA2.out]; exact hr3); have HBa := Lib.hid (HBEL.out.trans hb3); clear hr3 hb3 y3))
       obtain ⟨ca, g, o, b2, o2, n2, c2, z0, z1, z2, z3, z4, hcn, hn2, z5⟩ := HRa.out.cells HIA.out.ok HRNA.out HCWA.out
       rw [← HX.out] at z5
       have hrna : r < qa.1.rows.length := HRNA.out
       have hqa160 := HIA.out.ok.small.n
       by_cases hone : x = 1
       ·have hob : (x != 1) = false := by simp [hone]
        have HQB2 := Lib.hid (show qb = qa by rw [HQB.out, if_neg (by simpa using hone)])
        have HRb := Lib.hid (show RedAt 109 w w3 bb p qb.1 qb.2 by rw [HQB2.out]; exact HRa.out)
        clear hone
        go_upto_region 20 with (fail)
        obtain ⟨w4, hw4⟩ : ∃ w4, w4 = w3 := ⟨_, rfl⟩
        have HBb := Lib.hid (show Below bb w0 w4 by rw [hw4]; exact HBa.out)
        rw [← hw4] at HRb ⊢
        clear hw4 z0 z1 z2 z3 z4 z5
        have CLE := implClear w w4 bb p qb.1 qb.2 r c hP HRb.out HIB.out.ok HRNB.out HCWB.out (by rw [HEB.out]; decide) (by omega)
        have hcc : clr p r c (invP p (ent qb.1 r c)) qb.1.rows.length (qb.1, qb.2) = red2c p c r qb := rfl
        rw [hcc] at CLE
        have HCLE := Lib.hid CLE
        clear CLE hcc
        go_wp2_with (go_at_call 115; refine HCLE.out.mono ?_; rintro e w5 ⟨rfl, hr5, hb5⟩; have HRc := Lib.hid hr5; have HBc := Lib.hid (HBb.out.trans hb5); clear hr5 hb5)
        go_roundw
        case rel => exact ⟨r + 1, c + 1, red2c p c r qb, by go_num, by go_num, by omega, by omega, HIC, Lib.hid (by rw [← HRD.out, show V - c = (V - (c + 1)) + 1 by omega, HR2.out]), Lib.hid (by have := HLN.out; have := HLC.out; omega), HRc, HBc.out⟩
        case measure => simp [intOf] <;> omega
       ·have hob : (x != 1) = true := by simp [hone]
        have HQB2 := Lib.hid (show qb = push p qa ⟨2, r, 0, invP p x, []⟩ by rw [HQB.out, if_pos hone])
        have MK2 := Lib.hid (implMake w w3 bb p qa.1 qa.2 2 r 0 (invP p x) hP HRa.out HIA.out.ok (HOK2.out hone) (by omega))
        clear hone
        go_upto_region 20 with (first | (go_at_call 116; refine (INV.out _).mono ?_; rintro e w2 ⟨rfl, rfl⟩) | (go_at_call 114; refine MK2.out.mono ?_; rintro e w4 ⟨rfl, hr4, hb4⟩; have HRb := Lib.hid (show RedAt 109 w w4 bb p qb.1 qb.2 by rw [HQB2.out]; exact hr4); have HBb := Lib.hid (HBa.out.trans hb4); clear hr4 hb4 z0 z1 z2 z3 z4 z5))
        have CLE := implClear w w4 bb p qb.1 qb.2 r c hP HRb.out HIB.out.ok HRNB.out HCWB.out (by rw [HEB.out]; decide) (by omega)
        have hcc : clr p r c (invP p (ent qb.1 r c)) qb.1.rows.length (qb.1, qb.2) = red2c p c r qb := rfl
        rw [hcc] at CLE
        have HCLE := Lib.hid CLE
        clear CLE hcc
        go_wp2_with (go_at_call 115; refine HCLE.out.mono ?_; rintro e w5 ⟨rfl, hr5, hb5⟩; have HRc := Lib.hid hr5; have HBc := Lib.hid (HBb.out.trans hb5); clear hr5 hb5)
        go_roundw
        case rel => exact ⟨r + 1, c + 1, red2c p c r qb, by go_num, by go_num, by omega, by omega, HIC, Lib.hid (by rw [← HRD.out, show V - c = (V - (c + 1)) + 1 by omega, HR2.out]), Lib.hid (by have := HLN.out; have := HLC.out; omega), HRc, HBc.out⟩
        case measure => simp [intOf] <;> omega
      ·have hneb : ((a : Int) != (r : Int)) = false := by simp; omega
       have hneb2 : (a != r) = false := by simp; omega
       have HQA2 := Lib.hid (show qa = q by rw [HQA.out, if_neg hne])
       have HRa := Lib.hid (show RedAt 109 w wr bb p qa.1 qa.2 by rw [HQA2.out]; exact HRA.out)
       obtain ⟨w3, hw3⟩ : ∃ w3, w3 = wr := ⟨_, rfl⟩
       have HBa := Lib.hid (show Below bb w0 w3 by rw [hw3]; exact HBEL.out)
       rw [← hw3] at HRa
       clear hne
       go_upto_region 17 with (go_at_call 113; refine HF.out.mono ?_; rintro e w2 ⟨rfl, rfl⟩)
       rw [← hw3]
       clear hw3 y3
       obtain ⟨ca, g, o, b2, o2, n2, c2, z0, z1, z2, z3, z4, hcn, hn2, z5⟩ := HRa.out.cells HIA.out.ok HRNA.out HCWA.out
       rw [← HX.out] at z5
       have hrna : r < qa.1.rows.length := HRNA.out
       have hqa160 := HIA.out.ok.small.n
       by_cases hone : x = 1
       ·have hob : (x != 1) = false := by simp [hone]
        have HQB2 := Lib.hid (show qb = qa by rw [HQB.out, if_neg (by simpa using hone)])
        have HRb := Lib.hid (show RedAt 109 w w3 bb p qb.1 qb.2 by rw [HQB2.out]; exact HRa.out)
        clear hone
        go_upto_region 20 with (fail)
        obtain ⟨w4, hw4⟩ : ∃ w4, w4 = w3 := ⟨_, rfl⟩
        have HBb := Lib.hid (show Below bb w0 w4 by rw [hw4]; exact HBa.out)
        rw [← hw4] at HRb ⊢
        clear hw4 z0 z1 z2 z3 z4 z5
        have CLE := implClear w w4 bb p qb.1 qb.2 r c hP HRb.out HIB.out.ok HRNB.out HCWB.out (by rw [HEB.out]; decide) (by omega)
        have hcc : clr p r c (invP p (ent qb.1 r c)) qb.1.rows.length (qb.1, qb.2) = red2c p c r qb := rfl
        rw [hcc] at CLE
        have HCLE := Lib.hid CLE
        clear CLE hcc
        go_wp2_with (go_at_call 115; refine HCLE.out.mono ?_; rintro e w5 ⟨rfl, hr5, hb5⟩; have HRc := Lib.hid hr5; have HBc := Lib.hid (HBb.out.trans hb5); clear hr5 hb5)
        go_roundw
        case rel => exact ⟨r + 1, c + 1, red2c p c r qb, by go_num, by go_num, by omega, by omega, HIC, Lib.hid (by rw [← HRD.out, show V - c = (V - (c + 1)) + 1 by omega, HR2.out]), Lib.hid (by have := HLN.out; have := HLC.out; omega), HRc, HBc.out⟩
        case measure => simp [intOf] <;> omega
       ·have hob : (x != 1) = true := by simp [hone]
        have HQB2 := Lib.hid (show qb = push p qa ⟨2, r, 0, invP p x, []⟩ by rw [HQB.out, if_pos hone])
        have MK2 := Lib.hid (implMake w w3 bb p qa.1 qa.2 2 r 0 (invP p x) hP HRa.out HIA.out.ok (HOK2.out hone) (by omega))
        clear hone
        go_upto_region 20 with (first | (go_at_call 116; refine (INV.out _).mono ?_; rintro e w2 ⟨rfl, rfl⟩) | (go_at_call 114; refine MK2.out.mono ?_; rintro e w4 ⟨rfl, hr4, hb4⟩; have HRb := Lib.hid (show RedAt 109 w w4 bb p qb.1 qb.2 by rw [HQB2.out]; exact hr4); have HBb := Lib.hid (HBa.out.trans hb4); clear hr4 hb4 z0 z1 z2 z3 z4 z5))
        have CLE := implClear w w4 bb p qb.1 qb.2 r c hP HRb.out HIB.out.ok HRNB.out HCWB.out (by rw [HEB.out]; decide) (by omega)
        have hcc : clr p r c (invP p (ent qb.1 r c)) qb.1.rows.length (qb.1, qb.2) = red2c p c r qb := rfl
        rw [hcc] at CLE
        have HCLE := Lib.hid CLE
        clear CLE hcc
        go_wp2_with (go_at_call 115; refine HCLE.out.mono ?_; rintro e w5 ⟨rfl, hr5, hb5⟩; have HRc := Lib.hid hr5; have HBc := Lib.hid (HBb.out.trans hb5); clear hr5 hb5)
        go_roundw
        case rel => exact ⟨r + 1, c + 1, red2c p c r qb, by go_num, by go_num, by omega, by omega, HIC, Lib.hid (by rw [← HRD.out, show V - c = (V - (c + 1)) + 1 by omega, HR2.out]), Lib.hid (by have := HLN.out; have := HLC.out; omega), HRc, HBc.out⟩
        case measure => simp [intOf] <;> omega
    ·have hcc : c = V := by omega
     have HZ := Lib.hid (show (r, q) = red2 p V 0 (0, qs) by
      have := HRD.out
      rw [hcc, Nat.sub_self] at this
      exact this)
     have hI3 : Inv3 p r q.1 := ⟨HI.out.ok, HI.out.hh, HI.out.hr, fun d hd j hj hjn => HI.out.z d (by rw [HI.out.hv] at hd; omega) j hj hjn⟩
     have HI3 := Lib.hid hI3
     have hn160 := HI.out.ok.small.n
     have hrn := HI.out.hr
     have hl2 : q.2.length ≤ 30000 := by have := HLN.out; omega
     have hcell : ∃ A c, wr.cell? ⟨bb, 3, none⟩ = some (.slice A q.1.rows.length c) := by
      obtain ⟨_, _, A, c, A8, c8, us, hq, _⟩ := HRA.out
      obtain ⟨_, y1, _, y3, _⟩ := cells_5 hq
      exact ⟨A, c, y3⟩
     obtain ⟨AR, cR, y3⟩ := hcell
     obtain ⟨N, hN⟩ : ∃ N, N = q.1.rows.length := ⟨_, rfl⟩
     rw [← hN] at y3 hn160 hrn
     have HN := Lib.hid hN
     obtain ⟨qt, hqt⟩ : ∃ qt, qt = q := ⟨_, rfl⟩
     rw [← hqt] at HZ HI3 HN hl2 HRA
     clear hcc hN hqt HI HRD HLN hI3
     go_wp2
     clear y3
     go_loopw [9] (fun u wr => ∃ (j : Int) (q : Sy × List Stp), u = .int .i64 j ∧ -1 ≤ j ∧ j ≤ 159 ∧ (r : Int) ≤ j + 1 ∧ Hid ((q.1.rows.length : Int) = j + 1) ∧ Hid (Inv3 p r q.1) ∧ Hid (red3 p r (j + 1).toNat q = red3 p r N qt) ∧ Hid ((q.2.length : Int) ≤ 40000 - j) ∧ Hid (RedAt 109 w wr bb p q.1 q.2) ∧ Below bb w0 wr)
      (fun u _ => (intOf u + 1).toNat)
     case atStart => exact ⟨_, qt, rfl, by omega, by omega, by omega, Lib.hid (by rw [← HN.out]; omega), HI3, Lib.hid (by rw [show ((N : Int) - 1 + 1).toNat = N by omega]), Lib.hid (by omega), HRA, HBEL.out⟩
     case round =>
      clear HRA HBEL HI3
      obtain ⟨j, q, rfl, hj1, hj2, hj3, HL, HI, HRD, HLN, HRA, hbel⟩ := hrel
      have HBEL := Lib.hid hbel
      clear hbel
      by_cases hlt : (r : Int) ≤ j
      ·obtain ⟨i, hi⟩ : ∃ i : Nat, (i : Int) = j := ⟨j.toNat, by omega⟩
       subst hi
       have hri : r ≤ i := by omega
       obtain ⟨h1, h2, h3⟩ := inv3_step HI.out (show q.1.rows.length = i + 1 by have := HL.out; omega) hri
       have MK := Lib.hid (implMake w wr bb p q.1 q.2 4 i 0 0 hP HRA.out HI.out.ok h1 (by have := HLN.out; omega))
       have HH2 := Lib.hid h2; have HH3 := Lib.hid h3
       have HR3' := Lib.hid (red3_go (p := p) (q := q) hri)
       clear h1 h2 h3
       go_wp2_with (go_at_call 114; refine MK.out.mono ?_; rintro e w3 ⟨rfl, hr3, hb3⟩; have HR3 := Lib.hid hr3; have HB3 := Lib.hid hb3; clear hr3 hb3)
       go_roundw
       case rel => exact ⟨_, push p q ⟨4, i, 0, 0, []⟩, rfl, by omega, by omega, by omega, Lib.hid (by show ((stepTo p q.1 ⟨4, i, 0, 0, []⟩).rows.length : Int) = _; rw [HH3.out]; omega), HH2, Lib.hid (by rw [← HRD.out, show ((i : Int) - 1 + 1).toNat = i by omega, show ((i : Int) + 1).toNat = i + 1 by omega, HR3'.out]), Lib.hid (by have := HLN.out; simp [push]; omega), HR3, HBEL.out.trans HB3.out⟩
       case measure => simp [intOf] <;> omega
      ·have HQF := Lib.hid (show q = redQ p s by
        have h1 := HRD.out
        rw [red3_end (by omega)] at h1
        rw [h1]
        have hz := HZ.out
        unfold redQ
        rw [← HQ1.out, ← HVS.out, show ((V : Int)).toNat = V by omega, ← hz]
        dsimp only
        rw [← HN.out])
       clear HRD HZ
       go_wp2
       go_end0
       exact ⟨rfl, by rw [← HQF.out]; exact HRA.out, HBEL.out⟩
set_option maxRecDepth 100000 in
set_option maxHeartbeats 16000000 in
theorem stReduce_any (p : Int) (s : Sy) (A : Option Addr) (cap : Nat) (w : World) (hR : RowsAt w A s.rows) (hok : s.Ok p) :
  Calls Tryz.prog 66 #[.int .i64 p, .agg #[.int .i64 s.v, .int .i64 s.h, .slice A s.rows.length cap]] w fun e w' => ∃ u, e = .returned u ∧ OwnSteps w' w.heap.size u (redQ p s).2 ∧ Below w.heap.size w w' := by
 have hh0 := Sys.h0 hok; have hh100 := Sys.h100 hok
 have hs := hok.small
 have HOK := Lib.hid hok
 have HBX0 := Lib.hid (show (w.alloc (.cells #[.int .i64 s.v, .int .i64 s.h, .slice A s.rows.length cap] 30)).heap[w.heap.size]? = some (.cells #[.int .i64 s.v, .int .i64 s.h, .slice A s.rows.length cap] 30 (0, 0)) from heap_at _ _ rfl)
 have HBA := Lib.hid ((Below.refl w.heap.size w).alloc (Nat.le_refl _) (.cells #[.int .i64 s.v, .int .i64 s.h, .slice A s.rows.length cap] 30))
 have HOWN := Lib.hid (stOwn_any s.v s.h A cap s.rows _ (hR.ext HBA.out) (by have := hs.n; omega) (fun r hr => by have := hs.len r hr; omega))
 clear hR hok hs
 go_enter Tryz.func66, Tryz.ntmps66
 go_upto_region 2 with (go_at_call 72; refine HOWN.out.mono ?_; rintro e w1 ⟨u, rfl, hu, hb1⟩; obtain ⟨A1, c1, rfl, _⟩ := hu.view; have HU1 := Lib.hid hu; have HB1 := Lib.hid hb1; clear hu hb1)
 obtain ⟨w0, hw0⟩ : ∃ w0, w0 = w1.alloc (.cells #[.int .i64 p, .int .i64 s.v, .int .i64 s.h, .slice A1 s.rows.length c1, .slice none 0 0] 104) := ⟨_, rfl⟩
 rw [← hw0]
 obtain ⟨bb, hbb⟩ : ∃ bb, bb = w1.heap.size := ⟨_, rfl⟩
 rw [← hbb]
 have hb0 : Below w1.heap.size w1 w0 := by rw [hw0]; exact (Below.refl _ _).alloc (Nat.le_refl _) _
 have hqb : w0.heap[bb]? = some (.cells #[.int .i64 p, .int .i64 s.v, .int .i64 s.h, .slice A1 s.rows.length c1, .slice none 0 0] 104 (0, 0)) := by rw [hw0, hbb]; exact heap_at _ _ rfl
 have hsz : w.heap.size + 1 ≤ bb := by have := HB1.out.size; rw [hbb]; simpa using this
 have hwb := below_ext (below_ext HBA.out HB1.out) hb0
 -- the copy lies below the reducer's block: keep it as rows that are there from the start
 have HH := Lib.hid (show RedAt 104 w1 w0 bb p s [] from ⟨by omega, hb0, A1, c1, none, 0, [], hqb, Or.inl (rows_at HU1.out), by
  obtain ⟨us, h1⟩ := OwnSteps.nil w0 (bb + 1)
  have : us = [] := List.eq_nil_of_length_eq_zero (by have := h1.len; simpa using this)
  subst this
  exact h1⟩)
 have hbox : w0.heap[w.heap.size]? = some (.cells #[.int .i64 s.v, .int .i64 s.h, .slice A s.rows.length cap] 30 (0, 0)) := box_at (box_at HBX0.out HB1.out) hb0
 have HBX := Lib.hid (fun (W : World) (hW : Below bb w0 W) => (hW.block w.heap.size (by omega)).trans hbox)
 have HBW := Lib.hid (fun (W : World) (hW : Below bb w0 W) => hwb.trans (hW.mono (B' := w.heap.size) (by omega)))
 have HBS := Lib.hid (Below.refl bb w0)
 have HSZ := Lib.hid hsz
 obtain ⟨v0, v1, v2⟩ := cells_3 hbox
 clear hb0 hqb hwb hbox hw0 HOWN HBX0 HBA HU1 HB1 hbb
 go_wp2
 clear v0 v1 v2
 go_loopw [6] (fun i wr => ∃ (j : Int) (q : Sy × List Stp), i = .int .i64 j ∧ -1 ≤ j ∧ j ≤ 99 ∧ Hid (q.1.h = j + 1) ∧ Hid (q.1.v = s.v) ∧ Hid (q.1.Ok p) ∧ Hid (red1 p (j + 1).toNat q = red1 p s.h.toNat (s, [])) ∧ Hid ((q.2.length : Int) ≤ (99 - j) * 161) ∧ Hid (RedAt 104 w1 wr bb p q.1 q.2) ∧ Below bb w0 wr)
  (fun i _ => (intOf i + 1).toNat)
 case atStart => exact ⟨_, (s, []), rfl, by omega, by omega, Lib.hid (by show s.h = _; omega), Lib.hid rfl, Lib.hid HOK.out, Lib.hid (by rw [show s.h - 1 + 1 = s.h by omega]), Lib.hid (by simp; omega), Lib.hid HH.out, HBS.out⟩
 case round =>
  obtain ⟨j, q, rfl, hj1, hj2, HHH, HV, HOQ, HRD, HLN, HRA, hbel⟩ := hrel
  have HBEL := Lib.hid hbel
  clear hbel HH HBS
  by_cases hlt : 0 ≤ j
  ·obtain ⟨b, hb⟩ : ∃ b : Nat, (b : Int) = j := ⟨j.toNat, by omega⟩
   subst hb
   have hq160 := HOQ.out.small.n
   have hqv : 0 ≤ q.1.v := Sys.v0 HOQ.out
   have hqv2 : q.1.v ≤ 24 := Sys.v24 HOQ.out
   have hcv : ((q.1.v + (b : Int)).toNat : Int) = q.1.v + b := by omega
   have hcw : ((q.1.v + (b : Int)).toNat : Int) < q.1.v + q.1.h := by have := HHH.out; omega
   have hf := firstR_spec q.1 (q.1.v + (b : Int)).toNat 0 (Nat.zero_le _)
   have FIRST := specFirst w1 wr bb p q.1 q.2 0 (q.1.v + (b : Int)).toNat HRA.out HOQ.out (Nat.zero_le _) hcw
   rw [hcv, show ((0 : Nat) : Int) = 0 from rfl] at FIRST
   have HCV := Lib.hid hcv; have HCW := Lib.hid hcw
   obtain ⟨ca, g, o, b2, o2, hz⟩ : ∃ ca g o b2 o2 : Nat, True := ⟨0, 0, 0, 0, 0, trivial⟩
   have hl10 : q.2.length ≤ 100000 := by have := HLN.out; omega
   have hcell : ∃ A c, wr.cell? ⟨bb, 1, none⟩ = some (.int .i64 q.1.v) ∧ wr.cell? ⟨bb, 3, none⟩ = some (.slice A q.1.rows.length c) := by
    obtain ⟨_, _, A, c, A8, c8, us, hq, _⟩ := HRA.out
    obtain ⟨_, y1, _, y3, _⟩ := cells_5 hq
    exact ⟨A, c, y1, y3⟩
   obtain ⟨AR, cR, y1, y3⟩ := hcell
   clear hcv hcw hz
   obtain ⟨v0, v1, v2⟩ := cells_3 (HBX.out wr HBEL.out)
   rw [← HV.out] at v0
   by_cases ha : firstR q.1 (q.1.v + (b : Int)).toNat 0 = q.1.rows.length
   ·obtain ⟨s1, s2, s3, s4, s5⟩ := st1_none HOQ.out (by have := HHH.out; omega) ha
    have MK := Lib.hid (specMake w1 wr bb p q.1 q.2 8 0 b 0 HRA.out HOQ.out s1 (by omega))
    have HR1 := Lib.hid (red1_none (p := p) ha)
    rw [ha] at FIRST
    have HF := Lib.hid FIRST
    have HS2 := Lib.hid s2; have HS3 := Lib.hid s3; have HS4 := Lib.hid s4; have HS5 := Lib.hid s5
    clear FIRST s1 s2 s3 s4 s5 ha hf
    go_wp2_with (first | (go_at_call 98; refine HF.out.mono ?_; rintro e w2 ⟨rfl, rfl⟩) | (go_at_call 99; refine MK.out.mono ?_; rintro e w3 ⟨rfl, hr3, hb3⟩; have HR3 := Lib.hid hr3; have HB3 := Lib.hid hb3; clear hr3 hb3))
    go_roundw
    case rel => exact ⟨_, r1N p b q, rfl, by omega, by omega, Lib.hid (by rw [HS4.out]; omega), Lib.hid (HS3.out.trans HV.out), Lib.hid HS2.out, Lib.hid (by rw [show ((b : Int) - 1 + 1).toNat = b by omega, ← HR1.out, ← HRD.out, show ((b : Int) + 1).toNat = b + 1 by omega]), Lib.hid (by have := HLN.out; have := HS5.out; omega), Lib.hid HR3.out, HBEL.out.trans HB3.out⟩
    case measure => simp [intOf] <;> omega
   ·obtain ⟨a, haa⟩ : ∃ a, firstR q.1 (q.1.v + (b : Int)).toNat 0 = a := ⟨_, rfl⟩
    have han : a < q.1.rows.length := by omega
    obtain ⟨s0, t1, s1, s2, s3, s4, s5, s6⟩ := st1_some HOQ.out (show (b : Int) + 1 = q.1.h by have := HHH.out; omega) haa han
    have CLE := specClear w1 wr bb p q.1 q.2 a (q.1.v + (b : Int)).toNat HRA.out HOQ.out han HCW.out s0 (by omega)
    have hr1c : clr p a (q.1.v + (b : Int)).toNat (invP p (ent q.1 a (q.1.v + (b : Int)).toNat)) q.1.rows.length (q.1, q.2) = r1C p b q := by unfold r1C; rw [haa]
    rw [hr1c, HCV.out] at CLE
    have HCLE := Lib.hid CLE
    have MKF := Lib.hid (fun W h => specMake w1 W bb p (r1C p b q).1 (r1C p b q).2 6 a b 0 h t1 s1 (by omega))
    have HR1 := Lib.hid (red1_some (p := p) ha)
    rw [haa] at FIRST
    have HF := Lib.hid FIRST
    have HPU := Lib.hid (show r1S p b q = push p (r1C p b q) ⟨6, a, b, 0, []⟩ by unfold r1S; rw [haa])
    have HS2 := Lib.hid s2; have HS3 := Lib.hid s3; have HS4 := Lib.hid s4; have HS6 := Lib.hid s6
    have hne1 : ((a : Int) == (q.1.rows.length : Int)) = false := by simp; omega
    have hne2 : (a == q.1.rows.length) = false := by simp; omega
    clear FIRST CLE s0 t1 s1 s2 s3 s4 s5 s6 ha haa hr1c hf
    go_wp2_with (first | (go_at_call 98; refine HF.out.mono ?_; rintro e w2 ⟨rfl, rfl⟩) | (go_at_call 100; refine HCLE.out.mono ?_; rintro e w3 ⟨rfl, hr3, hb3⟩; have HR3 := Lib.hid hr3; have HB3 := Lib.hid hb3; clear hr3 hb3 y1 y3 v0 v1 v2) | (go_at_call 99; refine (MKF.out _ HR3.out).mono ?_; rintro e w4 ⟨rfl, hr4, hb4⟩; have HR4 := Lib.hid hr4; have HB4 := Lib.hid hb4; clear hr4 hb4))
    go_roundw
    case rel => exact ⟨_, r1S p b q, rfl, by omega, by omega, Lib.hid (by rw [HS4.out]; omega), Lib.hid (HS3.out.trans HV.out), Lib.hid HS2.out, Lib.hid (by rw [show ((b : Int) - 1 + 1).toNat = b by omega, ← HR1.out, ← HRD.out, show ((b : Int) + 1).toNat = b + 1 by omega]), Lib.hid (by have := HLN.out; have := HS6.out; omega), Lib.hid (by rw [HPU.out]; exact HR4.out), (HBEL.out.trans HB3.out).trans HB4.out⟩
    case measure => simp [intOf] <;> omega
  ·have hjm : j = -1 := by omega
   have HQ1 := Lib.hid (show q = red1 p s.h.toNat (s, []) by
    have := HRD.out
    rw [hjm] at this
    exact this)
   have HH0 := Lib.hid (show q.1.h = 0 by have := HHH.out; omega)
   have hl1 : q.2.length ≤ 16100 := by have := HLN.out; omega
   obtain ⟨V, hV⟩ : ∃ V : Nat, (V : Int) = s.v := ⟨s.v.toNat, by have := Sys.v0 HOK.out; omega⟩
   have HVN := Lib.hid (show (V : Int) = q.1.v from hV.trans HV.out.symm)
   have HVS := Lib.hid hV
   have hV24 : V ≤ 24 := by have := Sys.v24 HOK.out; omega
   have hI2 : Inv2 p V 0 0 q.1 := ⟨HOQ.out, HH0.out, HVN.out.symm, Nat.zero_le _, fun d hd => by omega⟩
   have HI2 := Lib.hid hI2
   have hcell : wr.cell? ⟨bb, 1, none⟩ = some (.int .i64 V) := by
    obtain ⟨_, _, A, c, A8, c8, us, hq, _⟩ := HRA.out
    obtain ⟨_, y1, _⟩ := cells_5 hq
    rw [HVN.out]; exact y1
   obtain ⟨qs, hqs⟩ : ∃ qs, qs = q := ⟨_, rfl⟩
   rw [← hqs] at HQ1 HI2 hl1 HRA
   clear hqs HHH HRD HLN HOQ HVN HV hjm hV hI2 hj1 hj2 HH0
   clear hcell
   go_wp2
   clear hlt
   go_loopw [8, 9] (fun u5 u50 wr => ∃ (r c : Nat) (q : Sy × List Stp), u5 = .int .i64 r ∧ u50 = .int .i64 c ∧ c ≤ V ∧ r ≤ 160 ∧ Hid (Inv2 p V c r q.1) ∧ Hid (red2 p (V - c) c (r, q) = red2 p V 0 (0, qs)) ∧ Hid (q.2.length ≤ 16100 + c * 162) ∧ Hid (RedAt 104 w1 wr bb p q.1 q.2) ∧ Below bb w0 wr)
    (fun _ u50 _ => V - (intOf u50).toNat)
   case atStart => exact ⟨0, 0, qs, rfl, rfl, Nat.zero_le _, Nat.zero_le _, HI2, Lib.hid (by rw [Nat.sub_zero]), Lib.hid (by omega), HRA, HBEL.out⟩
   case round =>
    rename_i wrA _ _ _ _
    clear HRA HBEL HI2
    obtain ⟨r, c, q, rfl, rfl, hcV, hr160, HI, HRD, HLN, HRA, hbel⟩ := hrel
    have HBEL := Lib.hid hbel
    clear hbel
    by_cases hlt : c < V
    ·have hq160 := HI.out.ok.small.n
     have hrn := HI.out.hr
     have hcw : (c : Int) < q.1.v + q.1.h := by rw [HI.out.hv, HI.out.hh]; omega
     have FIRST := specFirst w1 wr bb p q.1 q.2 r c HRA.out HI.out.ok hrn hcw
     have hl10 : q.2.length ≤ 100000 := by have := HLN.out; omega
     have hcell : ∃ A c, wr.cell? ⟨bb, 3, none⟩ = some (.slice A q.1.rows.length c) := by
      obtain ⟨_, _, A, c, A8, c8, us, hq, _⟩ := HRA.out
      obtain ⟨_, y1, _, y3, _⟩ := cells_5 hq
      exact ⟨A, c, y3⟩
     obtain ⟨AR, cR, y3⟩ := hcell
     obtain ⟨v0, v1, v2⟩ := cells_3 (HBX.out wr HBEL.out)
     rw [← HVS.out] at v0
     by_cases ha : firstR q.1 c r = q.1.rows.length
     ·have HR2 := Lib.hid (red2_none (p := p) (m := V - (c + 1)) ha)
      rw [ha] at FIRST
      have HF := Lib.hid FIRST
      have hI' : Inv2 p V (c + 1) r q.1 := ⟨HI.out.ok, HI.out.hh, HI.out.hv, hrn, fun d hd j hj hjn => by
       by_cases hdc : d = c
       ·subst hdc; exact (firstR_spec q.1 d r hrn).2.2.1 j hj (by omega)
       ·exact HI.out.z d (by omega) j hj hjn⟩
      have HI' := Lib.hid hI'
      clear FIRST hI' ha hcw
      go_wp2_with (go_at_call 98; refine HF.out.mono ?_; rintro e w2 ⟨rfl, rfl⟩)
      go_roundw
      case rel => exact ⟨r, c + 1, q, rfl, by go_num, by omega, hr160, HI', Lib.hid (by rw [← HRD.out, show V - c = (V - (c + 1)) + 1 by omega, HR2.out]), Lib.hid (by have := HLN.out; omega), HRA, HBEL.out⟩
      case measure => simp [intOf] <;> omega
     ·obtain ⟨a, haa⟩ : ∃ a, firstR q.1 c r = a := ⟨_, rfl⟩
      have hfs := firstR_spec q.1 c r hrn
      rw [haa] at hfs
      have han : a < q.1.rows.length := by omega
      have HR2 := Lib.hid (red2_some (p := p) (m := V - (c + 1)) ha)
      have hA := red2a_inv HI.out (show (c : Int) < V by omega) (by omega)
      rw [haa] at hA
      have hra : r ≤ a := hfs.1
      rw [haa] at FIRST
      have HF := Lib.hid FIRST
      have hla := red2a_len p c r q
      obtain ⟨qa, hqa⟩ : ∃ qa, qa = red2a p c r q := ⟨_, rfl⟩
      have hqa2 : qa = if a ≠ r then push p q ⟨1, r, a, 0, []⟩ else q := by rw [hqa]; unfold red2a; rw [haa]
      rw [← hqa] at hA HR2 hla
      obtain ⟨hok1, hIa, hrna, hea⟩ := hA
      have hB := red2b_inv hIa (show (c : Int) < V by omega) hrna hea
      have hlb := red2b_len p c r qa
      obtain ⟨qb, hqb⟩ : ∃ qb, qb = red2b p c r qa := ⟨_, rfl⟩
      obtain ⟨x, hx⟩ : ∃ x, x = ent qa.1 r c := ⟨_, rfl⟩
      have hqb2 : qb = if x ≠ 1 then push p qa ⟨2, r, 0, invP p x, []⟩ else qa := by rw [hqb, hx]; rfl
      rw [← hqb] at hB HR2 hlb
      rw [← hx] at hB
      obtain ⟨hok2, hIb, hrnb, heb⟩ := hB
      have hIc := red2c_inv hIb (show (c : Int) < V by omega) hrnb heb
      have hlc := red2c_len p c r qb
      have hqb160 := hIb.ok.small.n
      have HIA := Lib.hid hIa; have HIB := Lib.hid hIb; have HIC := Lib.hid hIc; have HRNA := Lib.hid hrna; have HRNB := Lib.hid hrnb; have HEB := Lib.hid heb; have HOK1 := Lib.hid hok1; have HOK2 := Lib.hid hok2; have HQA := Lib.hid hqa2; have HQB := Lib.hid hqb2; have HX := Lib.hid hx; have HEA := Lib.hid hea
      have hcwa : (c : Int) < qa.1.v + qa.1.h := by rw [hIa.hv, hIa.hh]; omega
      have hcwb : (c : Int) < qb.1.v + qb.1.h := by rw [hIb.hv, hIb.hh]; omega
      have hxb := ent_bd hIa.ok hrna hcwa
      rw [← hx] at hxb hea
      have HCWA := Lib.hid hcwa; have HCWB := Lib.hid hcwb
      have hx1 : 1 ≤ x := by omega
      have hxp : x < p := hxb.2
      have HFP := Lib.hid (Sys.f HI.out.ok)
      have hp2 := Sys.p2 HI.out.ok; have hp97 := Sys.p97 HI.out.ok
      have INV := Lib.hid (fun (W : World) => (fdInv_any p x W hp2 hp97 (by omega) hxp : Calls Tryz.prog 96 #[.int .i64 p, .int .i64 x] W _))
      have hlen3 : q.2.length + 1 + 1 + 160 ≤ 30000 := by have := HLN.out; omega
      have hla2 : qa.2.length ≤ 30000 := by omega
      have hlb2 : qb.2.length ≤ 30000 := by omega
      have HLC := Lib.hid (show (red2c p c r qb).2.length ≤ q.2.length + 162 by omega)
      have hrn2 : r < q.1.rows.length := by omega
      have hrq : r + 1 ≤ 160 := by omega
      clear FIRST haa ha hqa hqb hqa2 hqb2 hx hIa hIb hIc hrna hrnb heb hok1 hok2 hcwa hcwb hcw hfs hea hxb hla hlb hlc hlen3
      have hnb1 : ((a : Int) == (q.1.rows.length : Int)) = false := by simp; omega
      have hnb2 : (a == q.1.rows.length) = false := by simp; omega
      by_cases hne : a ≠ r
      ·have hneb : ((a : Int) != (r : Int)) = true := by simp; omega
       have hneb2 : (a != r) = true := by simp [hne]
       have MK := Lib.hid (specMake w1 wr bb p q.1 q.2 1 r a 0 HRA.out HI.out.ok (HOK1.out hne) (by omega))
       have HQA2 := Lib.hid (show qa = push p q ⟨1, r, a, 0, []⟩ by rw [HQA.out, if_pos hne])
       clear hne
       go_upto_region 18 with (first | (go_at_call 98; refine HF.out.mono ?_; rintro e w2 ⟨rfl, rfl⟩) | (go_at_call 99; refine MK.out.mono ?_; rintro e w3 ⟨rfl, hr3, hb3⟩; have HRa := Lib.hid (show RedAt 104 w1 w3 bb p qa.1 qa.2 by rw [HQA2.out]; exact hr3); have HBa := Lib.hid (HBEL.out.trans hb3); clear hr3 hb3 y3))
       obtain ⟨ca, g, o, b2, o2, n2, c2, z0, z1, z2, z3, z4, hcn, hn2, z5⟩ := HRa.out.cells HIA.out.ok HRNA.out HCWA.out
       rw [← HX.out] at z5
       have hrna : r < qa.1.rows.length := HRNA.out
       have hqa160 := HIA.out.ok.small.n
       by_cases hone : x = 1
       ·have hob : (x != 1) = false := by simp [hone]
        have HQB2 := Lib.hid (show qb = qa by rw [HQB.out, if_neg (by simpa using hone)])
        have HRb := Lib.hid (show RedAt 104 w1 w3 bb p qb.1 qb.2 by rw [HQB2.out]; exact HRa.out)
        clear hone
        go_upto_region 21 with (fail)
        obtain ⟨w4, hw4⟩ : ∃ w4, w4 = w3 := ⟨_, rfl⟩
        have HBb := Lib.hid (show Below bb w0 w4 by rw [hw4]; exact HBa.out)
        rw [← hw4] at HRb ⊢
        clear hw4 z0 z1 z2 z3 z4 z5
        have CLE := specClear w1 w4 bb p qb.1 qb.2 r c HRb.out HIB.out.ok HRNB.out HCWB.out (by rw [HEB.out]; decide) (by omega)
        have hcc : clr p r c (invP p (ent qb.1 r c)) qb.1.rows.length (qb.1, qb.2) = red2c p c r qb := rfl
        rw [hcc] at CLE
        have HCLE := Lib.hid CLE
        clear CLE hcc
        go_wp2_with (go_at_call 100; refine HCLE.out.mono ?_; rintro e w5 ⟨rfl, hr5, hb5⟩; have HRc := Lib.hid hr5; have HBc := Lib.hid (HBb.out.trans hb5); clear hr5 hb5)
        go_roundw
        case rel => exact ⟨r + 1, c + 1, red2c p c r qb, by go_num, by go_num, by omega, by omega, HIC, Lib.hid (by rw [← HRD.out, show V - c = (V - (c + 1)) + 1 by omega, HR2.out]), Lib.hid (by have := HLN.out; have := HLC.out; omega), HRc, HBc.out⟩
        case measure => simp [intOf] <;> omega
       ·have hob : (x != 1) = true := by simp [hone]
        have HQB2 := Lib.hid (show qb = push p qa ⟨2, r, 0, invP p x, []⟩ by rw [HQB.out, if_pos hone])
        have MK2 := Lib.hid (specMake w1 w3 bb p qa.1 qa.2 2 r 0 (invP p x) HRa.out HIA.out.ok (HOK2.out hone) (by omega))
        clear hone
        go_upto_region 21 with (first | (go_at_call 96; refine (INV.out _).mono ?_; rintro e w2 ⟨rfl, rfl⟩) | (go_at_call 99; refine MK2.out.mono ?_; rintro e w4 ⟨rfl, hr4, hb4⟩; have HRb := Lib.hid (show RedAt 104 w1 w4 bb p qb.1 qb.2 by rw [HQB2.out]; exact hr4); have HBb := Lib.hid (HBa.out.trans hb4); clear hr4 hb4 z0 z1 z2 z3 z4 z5))
        have CLE := specClear w1 w4 bb p qb.1 qb.2 r c HRb.out HIB.out.ok HRNB.out HCWB.out (by rw [HEB.out]; decide) (by omega)
        have hcc : clr p r c (invP p (ent qb.1 r c)) qb.1.rows.length (qb.1, qb.2) = red2c p c r qb := rfl
        rw [hcc] at CLE
        have HCLE := Lib.hid CLE
        clear CLE hcc
        go_wp2_with (go_at_call 100; refine HCLE.out.mono ?_; rintro e w5 ⟨rfl, hr5, hb5⟩; have HRc := Lib.hid hr5; have HBc := Lib.hid (HBb.out.trans hb5); clear hr5 hb5)
        go_roundw
        case rel => exact ⟨r + 1, c + 1, red2c p c r qb, by go_num, by go_num, by omega, by omega, HIC, Lib.hid (by rw [← HRD.out, show V - c = (V - (c + 1)) + 1 by omega, HR2.out]), Lib.hid (by have := HLN.out; have := HLC.out; omega), HRc, HBc.out⟩
        case measure => simp [intOf] <;> omega
      ·have hneb : ((a : Int) != (r : Int)) = false := by simp; omega
       have hneb2 : (a != r) = false := by simp; omega
       have HQA2 := Lib.hid (show qa = q by rw [HQA.out, if_neg hne])
       have HRa := Lib.hid (show RedAt 104 w1 wr bb p qa.1 qa.2 by rw [HQA2.out]; exact HRA.out)
       obtain ⟨w3, hw3⟩ : ∃ w3, w3 = wr := ⟨_, rfl⟩
       have HBa := Lib.hid (show Below bb w0 w3 by rw [hw3]; exact HBEL.out)
       rw [← hw3] at HRa
       clear hne
       go_upto_region 18 with (go_at_call 98; refine HF.out.mono ?_; rintro e w2 ⟨rfl, rfl⟩)
       rw [← hw3]
       clear hw3 y3 v0 v1 v2
       obtain ⟨ca, g, o, b2, o2, n2, c2, z0, z1, z2, z3, z4, hcn, hn2, z5⟩ := HRa.out.cells HIA.out.ok HRNA.out HCWA.out
       rw [← HX.out] at z5
       have hrna : r < qa.1.rows.length := HRNA.out
       have hqa160 := HIA.out.ok.small.n
       by_cases hone : x = 1
       ·have hob : (x != 1) = false := by simp [hone]
        have HQB2 := Lib.hid (show qb = qa by rw [HQB.out, if_neg (by simpa using hone)])
        have HRb := Lib.hid (show RedAt 104 w1 w3 bb p qb.1 qb.2 by rw [HQB2.out]; exact HRa.out)
        clear hone
        go_upto_region 21 with (fail)
        obtain ⟨w4, hw4⟩ : ∃ w4, w4 = w3 := ⟨_, rfl⟩
        have HBb := Lib.hid (show Below bb w0 w4 by rw [hw4]; exact HBa.out)
        rw [← hw4] at HRb ⊢
        clear hw4 z0 z1 z2 z3 z4 z5
        have CLE := specClear w1 w4 bb p qb.1 qb.2 r c HRb.out HIB.out.ok HRNB.out HCWB.out (by rw [HEB.out]; decide) (by omega)
        have hcc : clr p r c (invP p (ent qb.1 r c)) qb.1.rows.length (qb.1, qb.2) = red2c p c r qb := rfl
        rw [hcc] at CLE
        have HCLE := Lib.hid CLE
        clear CLE hcc
        go_wp2_with (go_at_call 100; refine HCLE.out.mono ?_; rintro e w5 ⟨rfl, hr5, hb5⟩; have HRc := Lib.hid hr5; have HBc := Lib.hid (HBb.out.trans hb5); clear hr5 hb5)
        go_roundw
        case rel => exact ⟨r + 1, c + 1, red2c p c r qb, by go_num, by go_num, by omega, by omega, HIC, Lib.hid (by rw [← HRD.out, show V - c = (V - (c + 1)) + 1 by omega, HR2.out]), Lib.hid (by have := HLN.out; have := HLC.out; omega), HRc, HBc.out⟩
        case measure => simp [intOf] <;> omega
       ·have hob : (x != 1) = true := by simp [hone]
        have HQB2 := Lib.hid (show qb = push p qa ⟨2, r, 0, invP p x, []⟩ by rw [HQB.out, if_pos hone])
        have MK2 := Lib.hid (specMake w1 w3 bb p qa.1 qa.2 2 r 0 (invP p x) HRa.out HIA.out.ok (HOK2.out hone) (by omega))
        clear hone
        go_upto_region 21 with (first | (go_at_call 96; refine (INV.out _).mono ?_; rintro e w2 ⟨rfl, rfl⟩) | (go_at_call 99; refine MK2.out.mono ?_; rintro e w4 ⟨rfl, hr4, hb4⟩; have HRb := Lib.hid (show RedAt 104 w1 w4 bb p qb.1 qb.2 by rw [HQB2.out]; exact hr4); have HBb := Lib.hid (HBa.out.trans hb4); clear hr4 hb4 z0 z1 z2 z3 z4 z5))
        have CLE := specClear w1 w4 bb p qb.1 qb.2 r c HRb.out HIB.out.ok HRNB.out HCWB.out (by rw [HEB.out]; decide) (by omega)
        have hcc : clr p r c (invP p (ent qb.1 r c)) qb.1.rows.length (qb.1, qb.2) = red2c p c r qb := rfl
        rw [hcc] at CLE
        have HCLE := Lib.hid CLE
        clear CLE hcc
        go_wp2_with (go_at_call 100; refine HCLE.out.mono ?_; rintro e w5 ⟨rfl, hr5, hb5⟩; have HRc := Lib.hid hr5; have HBc := Lib.hid (HBb.out.trans hb5); clear hr5 hb5)
        go_roundw
        case rel => exact ⟨r + 1, c + 1, red2c p c r qb, by go_num, by go_num, by omega, by omega, HIC, Lib.hid (by rw [← HRD.out, show V - c = (V - (c + 1)) + 1 by omega, HR2.out]), Lib.hid (by have := HLN.out; have := HLC.out; omega), HRc, HBc.out⟩
        case measure => simp [intOf] <;> omega
    ·have hcc : c = V := by omega
     have HZ := Lib.hid (show (r, q) = red2 p V 0 (0, qs) by
      have := HRD.out
      rw [hcc, Nat.sub_self] at this
      exact this)
     have hI3 : Inv3 p r q.1 := ⟨HI.out.ok, HI.out.hh, HI.out.hr, fun d hd j hj hjn => HI.out.z d (by rw [HI.out.hv] at hd; omega) j hj hjn⟩
     have HI3 := Lib.hid hI3
     have hn160 := HI.out.ok.small.n
     have hrn := HI.out.hr
     have hl2 : q.2.length ≤ 30000 := by have := HLN.out; omega
     have hcell : ∃ A c, wr.cell? ⟨bb, 3, none⟩ = some (.slice A q.1.rows.length c) := by
      obtain ⟨_, _, A, c, A8, c8, us, hq, _⟩ := HRA.out
      obtain ⟨_, y1, _, y3, _⟩ := cells_5 hq
      exact ⟨A, c, y3⟩
     obtain ⟨AR, cR, y3⟩ := hcell
     obtain ⟨N, hN⟩ : ∃ N, N = q.1.rows.length := ⟨_, rfl⟩
     rw [← hN] at y3 hn160 hrn
     have HN := Lib.hid hN
     obtain ⟨qt, hqt⟩ : ∃ qt, qt = q := ⟨_, rfl⟩
     rw [← hqt] at HZ HI3 HN hl2 HRA
     clear hcc hN hqt HI HRD HLN hI3
     obtain ⟨v0, v1, v2⟩ := cells_3 (HBX.out wr HBEL.out)
     rw [← HVS.out] at v0
     go_wp2
     clear y3 v0 v1 v2
     go_loopw [12] (fun u wr => ∃ (j : Int) (q : Sy × List Stp), u = .int .i64 j ∧ -1 ≤ j ∧ j ≤ 159 ∧ (r : Int) ≤ j + 1 ∧ Hid ((q.1.rows.length : Int) = j + 1) ∧ Hid (Inv3 p r q.1) ∧ Hid (red3 p r (j + 1).toNat q = red3 p r N qt) ∧ Hid ((q.2.length : Int) ≤ 40000 - j) ∧ Hid (RedAt 104 w1 wr bb p q.1 q.2) ∧ Below bb w0 wr)
      (fun u _ => (intOf u + 1).toNat)
     case atStart => exact ⟨_, qt, rfl, by omega, by omega, by omega, Lib.hid (by rw [← HN.out]; omega), HI3, Lib.hid (by rw [show ((N : Int) - 1 + 1).toNat = N by omega]), Lib.hid (by omega), HRA, HBEL.out⟩
     case round =>
      clear HRA HBEL HI3
      obtain ⟨j, q, rfl, hj1, hj2, hj3, HL, HI, HRD, HLN, HRA, hbel⟩ := hrel
      have HBEL := Lib.hid hbel
      clear hbel
      by_cases hlt : (r : Int) ≤ j
      ·obtain ⟨i, hi⟩ : ∃ i : Nat, (i : Int) = j := ⟨j.toNat, by omega⟩
       subst hi
       have hri : r ≤ i := by omega
       obtain ⟨h1, h2, h3⟩ := inv3_step HI.out (show q.1.rows.length = i + 1 by have := HL.out; omega) hri
       have MK := Lib.hid (specMake w1 wr bb p q.1 q.2 4 i 0 0 HRA.out HI.out.ok h1 (by have := HLN.out; omega))
       have HH2 := Lib.hid h2; have HH3 := Lib.hid h3
       have HR3' := Lib.hid (red3_go (p := p) (q := q) hri)
       clear h1 h2 h3
       go_wp2_with (go_at_call 99; refine MK.out.mono ?_; rintro e w3 ⟨rfl, hr3, hb3⟩; have HR3 := Lib.hid hr3; have HB3 := Lib.hid hb3; clear hr3 hb3)
       go_roundw
       case rel => exact ⟨_, push p q ⟨4, i, 0, 0, []⟩, rfl, by omega, by omega, by omega, Lib.hid (by show ((stepTo p q.1 ⟨4, i, 0, 0, []⟩).rows.length : Int) = _; rw [HH3.out]; omega), HH2, Lib.hid (by rw [← HRD.out, show ((i : Int) - 1 + 1).toNat = i by omega, show ((i : Int) + 1).toNat = i + 1 by omega, HR3'.out]), Lib.hid (by have := HLN.out; simp [push]; omega), HR3, HBEL.out.trans HB3.out⟩
       case measure => simp [intOf] <;> omega
      ·have HQF := Lib.hid (show q = redQ p s by
        have h1 := HRD.out
        rw [red3_end (by omega)] at h1
        rw [h1]
        have hz := HZ.out
        unfold redQ
        rw [← HQ1.out, ← HVS.out, show ((V : Int)).toNat = V by omega, ← hz]
        dsimp only
        rw [← HN.out])
       clear HRD HZ
       have hres : ∃ A8 c8, wr.cell? ⟨bb, 4, none⟩ = some (.slice A8 q.2.length c8) ∧ OwnSteps wr (bb + 1) (.slice A8 q.2.length c8) q.2 := by
        obtain ⟨_, _, A, c, A8, c8, us, hq, _, ho⟩ := HRA.out
        obtain ⟨_, _, _, _, y4⟩ := cells_5 hq
        exact ⟨A8, c8, y4, us, ho⟩
       obtain ⟨A8, c8, y4, ho8⟩ := hres
       have HO8 := Lib.hid ho8
       clear ho8
       go_wp2
       go_ret
       exact ⟨_, rfl, by rw [← HQF.out]; exact HO8.out.mono (by omega), HBW.out wr HBEL.out⟩
end Go.Proofs.YtjdbfokbgmbphaaGreatDoor
