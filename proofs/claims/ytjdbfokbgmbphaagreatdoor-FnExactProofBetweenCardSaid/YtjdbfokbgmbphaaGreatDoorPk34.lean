/- The reduction of a system in plain terms: the steps, and that each is possible. Condition: the system is valid. | The reducer of a system in memory: its methods first and make (the reference's first and do). Conditions: the system is valid; the table of primes is laid. -/
import Derived.Test.YtjdbfokbgmbphaaGreatDoorPk23
import Derived.Test.YtjdbfokbgmbphaaGreatDoorPk30
import Derived.Test.YtjdbfokbgmbphaaGreatDoorPk33
namespace Go.Proofs.YtjdbfokbgmbphaaGreatDoor
set_option linter.unusedVariables false
set_option linter.unusedSimpArgs false
open Go.RowKit
theorem inv_spec_all : ((List.range 98).all fun p => (!fieldB (p : Nat)) || (List.range p).all fun a => decide (a = 0) || (decide (((a : Int) * invP (p : Nat) (a : Nat)) % (p : Nat) = 1) && (decide (1 ≤ invP (p : Nat) (a : Nat)) && decide (invP (p : Nat) (a : Nat) < (p : Nat))))) = true := by decide +kernel
theorem inv_spec {p a : Int} (h : fieldB p = true) (h1 : 1 ≤ a) (h2 : a < p) : (a * invP p a) % p = 1 ∧ 1 ≤ invP p a ∧ invP p a < p := by
 have hb := fieldB_bd h
 obtain ⟨P, rfl⟩ := Int.eq_ofNat_of_zero_le (show 0 ≤ p by omega)
 obtain ⟨A, rfl⟩ := Int.eq_ofNat_of_zero_le (show 0 ≤ a by omega)
 have h0 := List.all_eq_true.1 inv_spec_all P (List.mem_range.2 (by omega))
 rw [h] at h0
 simp only [Bool.not_true, Bool.false_or] at h0
 have h3 := List.all_eq_true.1 h0 A (List.mem_range.2 (by omega))
 simp only [Bool.or_eq_true, Bool.and_eq_true, decide_eq_true_eq] at h3
 rcases h3 with h3 | h3
 ·omega
 ·exact h3
theorem getD_some {α : Type} {l : List α} {i : Nat} {x d : α} (h : l[i]? = some x) : l.getD i d = x := by rw [List.getD_eq_getElem?_getD, h]; rfl
def ent (s : Sy) (i c : Nat) : Int := (s.rows.getD i []).getD c 0
theorem ent_get {s : Sy} {i c : Nat} {r : List Int} {x : Int} (h : s.rows[i]? = some r) (hx : r[c]? = some x) : ent s i c = x := by
 unfold ent; rw [getD_some h, getD_some hx]
theorem ent_row {s t : Sy} {i j c : Nat} (h : s.rows[i]? = t.rows[j]?) : ent s i c = ent t j c := by
 unfold ent; rw [List.getD_eq_getElem?_getD (l := s.rows), h, ← List.getD_eq_getElem?_getD]
theorem ent_bd {p : Int} {s : Sy} (h : s.Ok p) {i c : Nat} (hi : i < s.rows.length) (hc : (c : Int) < s.v + s.h) : 0 ≤ ent s i c ∧ ent s i c < p := by
 have hr := getD_mem hi
 have hl := Sys.len h _ hr
 have hlt : c < (s.rows.getD i []).length := by omega
 refine Sys.el h _ hr _ ?_
 unfold ent
 generalize s.rows.getD i [] = r at hlt ⊢
 rw [List.getD_eq_getElem?_getD, List.getElem?_eq_getElem hlt]
 exact List.getElem_mem hlt
/-- The first row from r on whose coefficient is not 0, the number of rows if there is none. -/
def firstR (s : Sy) (c r : Nat) : Nat := r + ((s.rows.drop r).takeWhile fun q => q.getD c 0 == 0).length
theorem tw_spec {α : Type} (f : α → Bool) : ∀ (l : List α), (l.takeWhile f).length ≤ l.length ∧ (∀ j x, j < (l.takeWhile f).length → l[j]? = some x → f x = true) ∧ (∀ x, l[(l.takeWhile f).length]? = some x → f x = false)
 | [] => ⟨by simp, fun j x h => by simp at h, fun x h => by simp at h⟩
 | a :: l => by
  obtain ⟨h1, h2, h3⟩ := tw_spec f l
  by_cases ha : f a = true
  ·rw [List.takeWhile_cons_of_pos ha]
   refine ⟨by simpa using h1, fun j x hj hx => ?_, fun x hx => ?_⟩
   ·cases j with
    | zero => simp at hx; rw [← hx]; exact ha
    | succ j => exact h2 j x (by simpa using hj) (by simpa using hx)
   ·exact h3 x (by simpa using hx)
  ·rw [List.takeWhile_cons_of_neg ha]
   refine ⟨by simp, fun j x hj => by simp at hj, fun x hx => ?_⟩
   simp at hx; rw [← hx]; simpa using ha
theorem firstR_spec (s : Sy) (c r : Nat) (hr : r ≤ s.rows.length) : r ≤ firstR s c r ∧ firstR s c r ≤ s.rows.length ∧ (∀ j, r ≤ j → j < firstR s c r → ent s j c = 0) ∧ (firstR s c r < s.rows.length → ent s (firstR s c r) c ≠ 0) := by
 obtain ⟨h1, h2, h3⟩ := tw_spec (fun q : List Int => q.getD c 0 == 0) (s.rows.drop r)
 unfold firstR
 generalize ((s.rows.drop r).takeWhile fun q => q.getD c 0 == 0).length = m at h1 h2 h3
 rw [List.length_drop] at h1
 refine ⟨by omega, by omega, fun j hj hjm => ?_, fun hlt => ?_⟩
 ·obtain ⟨q, hq⟩ := get_of_lt (show j < s.rows.length by omega)
  have := h2 (j - r) q (by omega) (by rw [List.getElem?_drop, show r + (j - r) = j by omega]; exact hq)
  unfold ent; rw [getD_some hq]; simpa using this
 ·obtain ⟨q, hq⟩ := get_of_lt hlt
  have := h3 q (by rw [List.getElem?_drop]; exact hq)
  unfold ent; rw [getD_some hq]; simpa using this
theorem firstR_eq {s : Sy} {c r i : Nat} (hi : r ≤ i) (hn : i ≤ s.rows.length) (h1 : ∀ j, r ≤ j → j < i → ent s j c = 0) (h2 : i < s.rows.length → ent s i c ≠ 0) : firstR s c r = i := by
 obtain ⟨a, b, d, e⟩ := firstR_spec s c r (by omega)
 rcases Nat.lt_trichotomy (firstR s c r) i with h | h | h
 ·exact absurd (h1 _ a h) (e (by omega))
 ·exact h
 ·exact absurd (d i hi h) (h2 (by omega))
def push (p : Int) (q : Sy × List Stp) (x : Stp) : Sy × List Stp := (stepTo p q.1 x, q.2 ++ [x])
def clrX (p : Int) (a c : Nat) (iv : Int) (s : Sy) (i : Nat) : Stp := ⟨3, a, i, (-(ent s i c * iv)) % p, []⟩
def clr (p : Int) (a c : Nat) (iv : Int) : Nat → Sy × List Stp → Sy × List Stp
 | 0, q => q
 | i + 1, q => if i ≠ a ∧ ent (clr p a c iv i q).1 i c ≠ 0 then push p (clr p a c iv i q) (clrX p a c iv (clr p a c iv i q).1 i) else clr p a c iv i q
theorem step3 (p : Int) (s : Sy) (a i : Nat) (f : Int) : stepTo p s ⟨3, a, i, f, []⟩ = ⟨s.v, s.h, s.rows.set i (addRow p f (s.rows.getD i []) (s.rows.getD a []))⟩ := by simp [stepTo, rowsNew, hNew]
theorem ok3 {p : Int} {s : Sy} {a i : Nat} {f : Int} (ha : a < s.rows.length) (hi : i < s.rows.length) (hne : i ≠ a) (h0 : 0 ≤ f) (h1 : f < p) : okTo p s ⟨3, a, i, f, []⟩ = true := by
 simp [okTo, stB, emB, inB_iff]; omega
/-- What clearing keeps, and what it brings about. -/
structure Clr (p : Int) (a c : Nat) (s t : Sy) (i : Nat) : Prop where
 ok : t.Ok p
 v : t.v = s.v
 h : t.h = s.h
 n : t.rows.length = s.rows.length
 row : t.rows[a]? = s.rows[a]?
 zero : ∀ j, j < i → j ≠ a → ent t j c = 0
 rest : ∀ j, i ≤ j → t.rows[j]? = s.rows[j]?
 keep : ∀ d : Nat, (d : Int) < s.v + s.h → ent s a d = 0 → ∀ j, ent t j d = ent s j d
theorem addRow_ent {p f : Int} {xs ys : List Int} {d : Nat} (h : xs.length = ys.length) (hd : d < xs.length) : (addRow p f xs ys).getD d 0 = (xs.getD d 0 + f * ys.getD d 0) % p := by
 unfold addRow
 obtain ⟨x, hx⟩ := get_of_lt hd
 obtain ⟨y, hy⟩ := get_of_lt (show d < ys.length by omega)
 rw [List.getD_eq_getElem?_getD, List.getElem?_zipWith, List.getD_eq_getElem?_getD, List.getD_eq_getElem?_getD, hx, hy]; rfl
theorem clr_step {p : Int} {a c : Nat} {iv : Int} {s : Sy} (hp : 2 ≤ p) (ha : a < s.rows.length) (hc : (c : Int) < s.v + s.h) (hiv : (ent s a c * iv) % p = 1) {t : Sy} {i : Nat} (h : Clr p a c s t i) (hi : i < s.rows.length) :
  (i ≠ a ∧ ent t i c ≠ 0 → okTo p t (clrX p a c iv t i) = true ∧ Clr p a c s (stepTo p t (clrX p a c iv t i)) (i + 1)) ∧ (¬ (i ≠ a ∧ ent t i c ≠ 0) → Clr p a c s t (i + 1)) := by
 have hin : i < t.rows.length := by rw [h.n]; exact hi
 have han : a < t.rows.length := by rw [h.n]; exact ha
 refine ⟨fun ⟨h1, h2⟩ => ?_, fun hno => ⟨h.ok, h.v, h.h, h.n, h.row, fun j hj hja => ?_, fun j hj => h.rest j (by omega), h.keep⟩⟩
 ·have hf0 := Int.emod_nonneg (-(ent t i c * iv)) (show p ≠ 0 by omega)
  have hf1 := Int.emod_lt_of_pos (-(ent t i c * iv)) (show 0 < p by omega)
  have hok : okTo p t (clrX p a c iv t i) = true := ok3 han hin h1 hf0 hf1
  refine ⟨hok, ?_⟩
  have hs := step3 p t a i ((-(ent t i c * iv)) % p)
  have hl1 := Sys.len h.ok _ (getD_mem hin)
  have hl2 := Sys.len h.ok _ (getD_mem han)
  obtain ⟨F, hF⟩ : ∃ F, F = (-(ent t i c * iv)) % p := ⟨_, rfl⟩
  obtain ⟨u, hu⟩ : ∃ u, u = stepTo p t (clrX p a c iv t i) := ⟨_, rfl⟩
  have hu2 : u = ⟨t.v, t.h, t.rows.set i (addRow p F (t.rows.getD i []) (t.rows.getD a []))⟩ := by rw [hu, hF]; exact hs
  have hother : ∀ j, j ≠ i → u.rows[j]? = t.rows[j]? := fun j hj => by rw [hu2]; exact List.getElem?_set_ne (Ne.symm hj)
  have hself : u.rows[i]? = some (addRow p F (t.rows.getD i []) (t.rows.getD a [])) := by rw [hu2]; exact List.getElem?_set_self hin
  have hentI : ∀ d : Nat, (d : Int) < t.v + t.h → ent u i d = (ent t i d + F * ent t a d) % p := fun d hd => by
   unfold ent
   rw [show u.rows.getD i [] = addRow p F (t.rows.getD i []) (t.rows.getD a []) by rw [List.getD_eq_getElem?_getD, hself]; rfl]
   exact addRow_ent (by omega) (by omega)
  rw [← hu]
  refine ⟨by rw [hu]; exact stepTo_ok h.ok hok, by rw [hu2]; exact h.v, by rw [hu2]; exact h.h, by rw [hu2]; simpa using h.n, (hother a (Ne.symm h1)).trans h.row, fun j hj hja => ?_, fun j hj => (hother j (by omega)).trans (h.rest j (by omega)), fun d hd hz j => ?_⟩
  ·by_cases hji : j = i
   ·subst hji
    rw [hentI c (by rw [h.v, h.h]; exact hc), hF]
    have hra : ent t a c = ent s a c := ent_row h.row
    rw [hra]
    have e : (ent t j c + -(ent t j c * iv) % p * ent s a c) % p = (ent t j c + -(ent t j c * iv) * ent s a c) % p := by
     rw [Int.add_emod, Int.mul_emod, Int.emod_emod_of_dvd _ (Int.dvd_refl p), ← Int.mul_emod, ← Int.add_emod]
    rw [e, show ent t j c + -(ent t j c * iv) * ent s a c = ent t j c + -(ent t j c) * (ent s a c * iv) by rw [Int.neg_mul, Int.neg_mul, Int.mul_assoc, Int.mul_comm iv]]
    rw [Int.add_emod, Int.mul_emod, hiv, Int.mul_one, Int.emod_emod_of_dvd _ (Int.dvd_refl p), ← Int.add_emod, Int.add_right_neg, Int.zero_emod]
   ·rw [ent_row (hother j hji)]
    exact h.zero j (by omega) hja
  ·by_cases hji : j = i
   ·subst hji
    rw [hentI d (by rw [h.v, h.h]; exact hd), show ent t a d = 0 by rw [ent_row h.row]; exact hz, Int.mul_zero, Int.add_zero]
    have := ent_bd h.ok hin (show (d : Int) < t.v + t.h by rw [h.v, h.h]; exact hd)
    rw [Int.emod_eq_of_lt this.1 this.2]
    exact h.keep d hd hz j
   ·rw [ent_row (hother j hji)]
    exact h.keep d hd hz j
 ·by_cases hji : j = i
  ·subst hji
   by_cases hz : ent t j c = 0
   ·exact hz
   ·exact absurd ⟨hja, hz⟩ hno
  ·exact h.zero j (by omega) hja
theorem clr_start {p : Int} {a c : Nat} {s : Sy} (h : s.Ok p) : Clr p a c s s 0 := ⟨h, rfl, rfl, rfl, rfl, fun j hj => by omega, fun _ _ => rfl, fun _ _ _ _ => rfl⟩
theorem clr_all {p : Int} {a c : Nat} {iv : Int} {s : Sy} {X : List Stp} (h : s.Ok p) (ha : a < s.rows.length) (hc : (c : Int) < s.v + s.h) (hiv : (ent s a c * iv) % p = 1) : ∀ i, i ≤ s.rows.length → Clr p a c s (clr p a c iv i (s, X)).1 i
 | 0, _ => clr_start h
 | i + 1, hi => by
  have ih := clr_all (X := X) h ha hc hiv i (by omega)
  obtain ⟨h1, h2⟩ := clr_step (Sys.p2 h) ha hc hiv ih (by omega)
  unfold clr
  split
  ·rename_i hif; exact (h1 hif).2
  ·rename_i hif; exact h2 hif
/-! ### The hidden variables -/
def red1 (p : Int) : Nat → Sy × List Stp → Sy × List Stp
 | 0, q => q
 | b + 1, q => red1 p b (if firstR q.1 (q.1.v + b).toNat 0 = q.1.rows.length then push p q ⟨8, 0, b, 0, []⟩
   else push p (clr p (firstR q.1 (q.1.v + b).toNat 0) (q.1.v + b).toNat (invP p (ent q.1 (firstR q.1 (q.1.v + b).toNat 0) (q.1.v + b).toNat)) q.1.rows.length q) ⟨6, firstR q.1 (q.1.v + b).toNat 0, b, 0, []⟩)
theorem ent_col {s : Sy} {c j : Nat} {x : Int} (h : (colOf s.rows c)[j]? = some x) : ent s j c = x := by
 obtain ⟨r, hr, rfl⟩ := col_get.1 h
 unfold ent; rw [getD_some hr]
theorem ok8 {p : Int} {s : Sy} {b : Nat} (hb : (b : Int) + 1 = s.h) (hz : ∀ j, j < s.rows.length → ent s j (s.v + b).toNat = 0) : okTo p s ⟨8, 0, b, 0, []⟩ = true := by
 have h1 : (colOf s.rows (s.v + (b : Int)).toNat).all (fun x => inB x 0 0) = true := by
  rw [List.all_eq_true]
  intro x hx
  obtain ⟨j, hj⟩ := List.mem_iff_getElem?.1 hx
  have hl := (List.getElem?_eq_some_iff.1 hj).1
  have := ent_col hj
  rw [hz j (by simpa [colOf] using hl)] at this
  rw [inB_iff]; omega
 have h2 : inB (b : Int) 0 (s.h - 1) = true := by rw [inB_iff]; omega
 unfold okTo stB
 simp only [show ((8 : Int) = 1) = False by decide, show ((8 : Int) = 2) = False by decide, show ((8 : Int) = 3) = False by decide, show ((8 : Int) = 4) = False by decide, show ((8 : Int) = 5) = False by decide, show ((8 : Int) = 6) = False by decide, show ((8 : Int) = 7) = False by decide, if_false, if_true, h1, h2]
 simp [emB]
theorem ok6 {p : Int} {s : Sy} {a b : Nat} (hb : (b : Int) + 1 = s.h) (ha : a < s.rows.length) (hz : ∀ j, j < s.rows.length → j ≠ a → ent s j (s.v + b).toNat = 0) (hn : ent s a (s.v + b).toNat ≠ 0) : okTo p s ⟨6, a, b, 0, []⟩ = true := by
 have h1 : aloneB (colOf s.rows (s.v + (b : Int)).toNat) a = true := by
  rw [alone_iff]
  intro k x hx
  have hl := (List.getElem?_eq_some_iff.1 hx).1
  have he := ent_col hx
  constructor
  ·intro hk
   have : k = a := by omega
   subst this
   rw [← he]; exact hn
  ·intro hx0
   by_cases hk : k = a
   ·rw [hk]
   ·exact absurd (he.symm.trans (hz k (by simpa [colOf] using hl) hk)) hx0
 have h2 : inB (b : Int) 0 (s.h - 1) = true := by rw [inB_iff]; omega
 have h3 : inB (a : Int) 0 ((s.rows.length : Int) - 1) = true := by rw [inB_iff]; omega
 unfold okTo stB
 simp only [show ((6 : Int) = 1) = False by decide, show ((6 : Int) = 2) = False by decide, show ((6 : Int) = 3) = False by decide, show ((6 : Int) = 4) = False by decide, show ((6 : Int) = 5) = False by decide, if_false, if_true, h1, h2, h3]
 simp [emB]
/-! ### The visible variables -/
def red2a (p : Int) (c r : Nat) (q : Sy × List Stp) : Sy × List Stp := if firstR q.1 c r ≠ r then push p q ⟨1, r, firstR q.1 c r, 0, []⟩ else q
def red2b (p : Int) (c r : Nat) (q : Sy × List Stp) : Sy × List Stp := if ent q.1 r c ≠ 1 then push p q ⟨2, r, 0, invP p (ent q.1 r c), []⟩ else q
def red2c (p : Int) (c r : Nat) (q : Sy × List Stp) : Sy × List Stp := clr p r c (invP p (ent q.1 r c)) q.1.rows.length q
def red2 (p : Int) : Nat → Nat → Nat × (Sy × List Stp) → Nat × (Sy × List Stp)
 | 0, _, z => z
 | m + 1, c, z => red2 p m (c + 1) (if firstR z.2.1 c z.1 = z.2.1.rows.length then z else (z.1 + 1, red2c p c z.1 (red2b p c z.1 (red2a p c z.1 z.2))))
def red3 (p : Int) (r : Nat) : Nat → Sy × List Stp → Sy × List Stp
 | 0, q => q
 | i + 1, q => if r ≤ i then red3 p r i (push p q ⟨4, i, 0, 0, []⟩) else q
def redQ (p : Int) (s : Sy) : Sy × List Stp :=
 red3 p (red2 p s.v.toNat 0 (0, red1 p s.h.toNat (s, []))).1 (red2 p s.v.toNat 0 (0, red1 p s.h.toNat (s, []))).2.1.rows.length (red2 p s.v.toNat 0 (0, red1 p s.h.toNat (s, []))).2
/-- What holds while the visible variables are gone through: rows from r on are 0 in front of the column c. -/
structure Inv2 (p : Int) (v : Int) (c r : Nat) (s : Sy) : Prop where
 ok : s.Ok p
 hh : s.h = 0
 hv : s.v = v
 hr : r ≤ s.rows.length
 z : ∀ d, d < c → ∀ j, r ≤ j → j < s.rows.length → ent s j d = 0
theorem ok1 {p : Int} {s : Sy} {a b : Nat} (ha : a < s.rows.length) (hb : b < s.rows.length) (hne : a ≠ b) : okTo p s ⟨1, a, b, 0, []⟩ = true := by
 simp [okTo, stB, emB, inB_iff]; omega
theorem ok2 {p : Int} {s : Sy} {a : Nat} {f : Int} (ha : a < s.rows.length) (h1 : 1 ≤ f) (h2 : f < p) : okTo p s ⟨2, a, 0, f, []⟩ = true := by
 simp [okTo, stB, emB, inB_iff]; omega
theorem step1 (p : Int) (s : Sy) (a b : Nat) : stepTo p s ⟨1, a, b, 0, []⟩ = ⟨s.v, s.h, (s.rows.set a (s.rows.getD b [])).set b (s.rows.getD a [])⟩ := by simp [stepTo, rowsNew, hNew]
theorem step2 (p : Int) (s : Sy) (a : Nat) (f : Int) : stepTo p s ⟨2, a, 0, f, []⟩ = ⟨s.v, s.h, s.rows.set a (mulRow p f (s.rows.getD a []))⟩ := by simp [stepTo, rowsNew, hNew]
theorem red2a_inv {p v : Int} {c r : Nat} {q : Sy × List Stp} (h : Inv2 p v c r q.1) (hc : (c : Int) < v) (hlt : firstR q.1 c r < q.1.rows.length) :
  (firstR q.1 c r ≠ r → okTo p q.1 ⟨1, r, firstR q.1 c r, 0, []⟩ = true) ∧ Inv2 p v c r (red2a p c r q).1 ∧ r < (red2a p c r q).1.rows.length ∧ ent (red2a p c r q).1 r c ≠ 0 := by
 obtain ⟨f1, f2, f3, f4⟩ := firstR_spec q.1 c r h.hr
 have hok : firstR q.1 c r ≠ r → okTo p q.1 ⟨1, r, firstR q.1 c r, 0, []⟩ = true := fun hne => ok1 (by omega) hlt (Ne.symm hne)
 refine ⟨hok, ?_⟩
 unfold red2a
 by_cases hne : firstR q.1 c r ≠ r
 ·rw [if_pos hne]
  obtain ⟨a, ha⟩ : ∃ a, a = firstR q.1 c r := ⟨_, rfl⟩
  rw [← ha] at hne hlt f1 f2 f3 f4 hok ⊢
  unfold push
  dsimp only
  obtain ⟨x, hx⟩ := get_of_lt (show r < q.1.rows.length by omega)
  obtain ⟨y, hy⟩ := get_of_lt hlt
  have hdx : q.1.rows.getD r [] = x := by rw [List.getD_eq_getElem?_getD, hx]; rfl
  have hdy : q.1.rows.getD a [] = y := by rw [List.getD_eq_getElem?_getD, hy]; rfl
  have hs := step1 p q.1 r a
  rw [hdx, hdy] at hs
  obtain ⟨u, hu⟩ : ∃ u, u = stepTo p q.1 ⟨1, r, a, 0, []⟩ := ⟨_, rfl⟩
  rw [← hu] at hs ⊢
  have hn : u.rows.length = q.1.rows.length := by rw [hs]; simp
  have hset : ∀ k, u.rows[k]? = if k = a then some x else if k = r then some y else q.1.rows[k]? := fun k => by
   rw [hs]
   dsimp only
   by_cases hk : k = a
   ·subst hk; rw [if_pos rfl, List.getElem?_set_self (by simpa using hlt)]
   ·rw [if_neg hk, List.getElem?_set_ne (Ne.symm hk)]
    by_cases hk2 : k = r
    ·subst hk2; rw [if_pos rfl, List.getElem?_set_self (by omega)]
    ·rw [if_neg hk2, List.getElem?_set_ne (Ne.symm hk2)]
  have hur : u.rows[r]? = q.1.rows[a]? := by rw [hset r, if_neg (Ne.symm hne), if_pos rfl, hy]
  have hua : u.rows[a]? = q.1.rows[r]? := by rw [hset a, if_pos rfl, hx]
  have huo : ∀ k, k ≠ a → k ≠ r → u.rows[k]? = q.1.rows[k]? := fun k h1 h2 => by rw [hset k, if_neg h1, if_neg h2]
  refine ⟨⟨by rw [hu]; exact stepTo_ok h.ok (hok hne), by rw [hs]; exact h.hh, by rw [hs]; exact h.hv, by rw [hn]; exact h.hr, fun d hd j hj hjn => ?_⟩, by omega, ?_⟩
  ·rw [hn] at hjn
   by_cases hja : j = a
   ·subst hja; rw [ent_row hua]; exact h.z d hd r (Nat.le_refl _) (by omega)
   ·by_cases hjr : j = r
    ·subst hjr; rw [ent_row hur]; exact h.z d hd a f1 hlt
    ·rw [ent_row (huo j hja hjr)]; exact h.z d hd j hj hjn
  ·rw [ent_row hur]; exact f4 hlt
 ·have he : firstR q.1 c r = r := by simpa using hne
  rw [if_neg hne]
  exact ⟨h, by omega, by have := f4 hlt; rwa [he] at this⟩
theorem red2b_inv {p v : Int} {c r : Nat} {q : Sy × List Stp} (h : Inv2 p v c r q.1) (hc : (c : Int) < v) (hr : r < q.1.rows.length) (hne : ent q.1 r c ≠ 0) :
  (ent q.1 r c ≠ 1 → okTo p q.1 ⟨2, r, 0, invP p (ent q.1 r c), []⟩ = true) ∧ Inv2 p v c r (red2b p c r q).1 ∧ r < (red2b p c r q).1.rows.length ∧ ent (red2b p c r q).1 r c = 1 := by
 have hcv : (c : Int) < q.1.v + q.1.h := by rw [h.hv, h.hh]; omega
 have hb := ent_bd h.ok hr hcv
 obtain ⟨i1, i2, i3⟩ := inv_spec (Sys.f h.ok) (show 1 ≤ ent q.1 r c by omega) hb.2
 have hok : ent q.1 r c ≠ 1 → okTo p q.1 ⟨2, r, 0, invP p (ent q.1 r c), []⟩ = true := fun _ => ok2 hr i2 i3
 refine ⟨hok, ?_⟩
 unfold red2b
 by_cases hx : ent q.1 r c ≠ 1
 ·rw [if_pos hx]
  unfold push
  dsimp only
  obtain ⟨F, hF⟩ : ∃ F, F = invP p (ent q.1 r c) := ⟨_, rfl⟩
  rw [← hF] at i1 i2 i3 hok ⊢
  have hs := step2 p q.1 r F
  obtain ⟨u, hu⟩ : ∃ u, u = stepTo p q.1 ⟨2, r, 0, F, []⟩ := ⟨_, rfl⟩
  rw [← hu] at hs ⊢
  have hn : u.rows.length = q.1.rows.length := by rw [hs]; simp
  have huo : ∀ k, k ≠ r → u.rows[k]? = q.1.rows[k]? := fun k hk => by rw [hs]; exact List.getElem?_set_ne (Ne.symm hk)
  have hur : u.rows[r]? = some (mulRow p F (q.1.rows.getD r [])) := by rw [hs]; exact List.getElem?_set_self hr
  have hl := Sys.len h.ok _ (getD_mem hr)
  have hent : ∀ d : Nat, (d : Int) < q.1.v + q.1.h → ent u r d = (ent q.1 r d * F) % p := fun d hd => by
   unfold ent
   rw [show u.rows.getD r [] = mulRow p F (q.1.rows.getD r []) by rw [List.getD_eq_getElem?_getD, hur]; rfl]
   unfold mulRow
   obtain ⟨x, hx⟩ := get_of_lt (show d < (q.1.rows.getD r []).length by omega)
   rw [List.getD_eq_getElem?_getD, List.getElem?_map, hx, List.getD_eq_getElem?_getD (l := q.1.rows.getD r []), hx]; rfl
  refine ⟨⟨by rw [hu]; exact stepTo_ok h.ok (hok hx), by rw [hs]; exact h.hh, by rw [hs]; exact h.hv, by rw [hn]; exact h.hr, fun d hd j hj hjn => ?_⟩, by omega, ?_⟩
  ·rw [hn] at hjn
   by_cases hjr : j = r
   ·subst hjr
    rw [hent d (by rw [h.hv, h.hh]; omega), h.z d hd j (Nat.le_refl _) hjn, Int.zero_mul, Int.zero_emod]
   ·rw [ent_row (huo j hjr)]; exact h.z d hd j hj hjn
  ·rw [hent c hcv]; exact i1
 ·rw [if_neg hx]
  exact ⟨h, hr, by simpa using hx⟩
theorem red2c_inv {p v : Int} {c r : Nat} {q : Sy × List Stp} (h : Inv2 p v c r q.1) (hc : (c : Int) < v) (hr : r < q.1.rows.length) (he : ent q.1 r c = 1) : Inv2 p v (c + 1) (r + 1) (red2c p c r q).1 := by
 have hcv : (c : Int) < q.1.v + q.1.h := by rw [h.hv, h.hh]; omega
 have hp := Sys.p2 h.ok
 obtain ⟨i1, i2, i3⟩ := inv_spec (Sys.f h.ok) (show 1 ≤ ent q.1 r c by omega) (show ent q.1 r c < p by omega)
 have k := clr_all (X := q.2) h.ok hr hcv i1 q.1.rows.length (Nat.le_refl _)
 unfold red2c
 refine ⟨k.ok, k.h.trans h.hh, k.v.trans h.hv, by rw [k.n]; omega, fun d hd j hj hjn => ?_⟩
 rw [k.n] at hjn
 by_cases hdc : d = c
 ·subst hdc; exact k.zero j hjn (by omega)
 ·rw [k.keep d (by rw [h.hv, h.hh]; omega) (h.z d (by omega) r (Nat.le_refl _) hr) j]
  exact h.z d (by omega) j (by omega) hjn
theorem step4 (p : Int) (s : Sy) (i : Nat) : stepTo p s ⟨4, i, 0, 0, []⟩ = ⟨s.v, s.h, s.rows.eraseIdx i⟩ := by simp [stepTo, rowsNew, hNew]
theorem ok4 {p : Int} {s : Sy} {i : Nat} (h : s.Ok p) (hi : i < s.rows.length) (hz : ∀ d : Nat, (d : Int) < s.v + s.h → ent s i d = 0) : okTo p s ⟨4, i, 0, 0, []⟩ = true := by
 have h1 : (s.rows.getD i []).all (fun x => inB x 0 0) = true := by
  rw [List.all_eq_true]
  intro x hx
  obtain ⟨d, hd⟩ := List.mem_iff_getElem?.1 hx
  have hl := Sys.len h _ (getD_mem hi)
  have hdl := (List.getElem?_eq_some_iff.1 hd).1
  have := hz d (by omega)
  unfold ent at this
  rw [List.getD_eq_getElem?_getD (l := s.rows.getD i []), hd] at this
  have this : x = 0 := this
  rw [inB_iff]; omega
 have h2 : inB (i : Int) 0 ((s.rows.length : Int) - 1) = true := by rw [inB_iff]; omega
 have h3 : ((i : Int)).toNat = i := by omega
 unfold okTo stB
 simp only [show ((4 : Int) = 1) = False by decide, show ((4 : Int) = 2) = False by decide, show ((4 : Int) = 3) = False by decide, if_false, if_true, h2, h3, h1]
 simp [emB]
/-- What holds while zero rows are dropped. -/
structure Inv3 (p : Int) (r : Nat) (s : Sy) : Prop where
 ok : s.Ok p
 hh : s.h = 0
 hr : r ≤ s.rows.length
 z : ∀ d : Nat, (d : Int) < s.v → ∀ j, r ≤ j → j < s.rows.length → ent s j d = 0
theorem inv3_step {p : Int} {r i : Nat} {s : Sy} (h : Inv3 p r s) (hn : s.rows.length = i + 1) (hr : r ≤ i) : okTo p s ⟨4, i, 0, 0, []⟩ = true ∧ Inv3 p r (stepTo p s ⟨4, i, 0, 0, []⟩) ∧ (stepTo p s ⟨4, i, 0, 0, []⟩).rows.length = i := by
 have hok : okTo p s ⟨4, i, 0, 0, []⟩ = true := ok4 h.ok (by omega) (fun d hd => h.z d (by rw [h.hh] at hd; omega) i hr (by omega))
 have hs := step4 p s i
 obtain ⟨u, hu⟩ : ∃ u, u = stepTo p s ⟨4, i, 0, 0, []⟩ := ⟨_, rfl⟩
 rw [← hu] at hs ⊢
 have hl : u.rows.length = i := by rw [hs]; dsimp only; rw [List.length_eraseIdx_of_lt (by omega)]; omega
 refine ⟨hok, ⟨by rw [hu]; exact stepTo_ok h.ok hok, by rw [hs]; exact h.hh, by omega, fun d hd j hj hjn => ?_⟩, hl⟩
 have hv : u.v = s.v := by rw [hs]
 have : u.rows[j]? = s.rows[j]? := by rw [hs]; dsimp only; rw [List.getElem?_eraseIdx_of_lt (by omega)]
 rw [ent_row this]
 exact h.z d (by rw [← hv]; exact hd) j hj (by omega)
def firstI (s : Sy) (c r : Nat) : Int := if firstR s c r = s.rows.length then -1 else (firstR s c r : Nat)
def RedAt (T : TypeId) (w wr : World) (b : Nat) (p : Int) (s : Sy) (X : List Stp) : Prop :=
 w.heap.size ≤ b ∧ Below w.heap.size w wr ∧ ∃ A c A8 c8 us, wr.heap[b]? = some (.cells #[.int .i64 p, .int .i64 s.v, .int .i64 s.h, .slice A s.rows.length c, .slice A8 X.length c8] T (0, 0)) ∧ Kept w wr (b + 1) A c s.rows ∧
  OwnStepsW wr (b + 1) (.slice A8 X.length c8) X us
theorem set_at123 {w : World} {b : Nat} {z0 z1 z2 z3 z4 v1 v2 v3 : Value} {t : TypeId} (h : w.heap[b]? = some (.cells #[z0, z1, z2, z3, z4] t (0, 0))) :
  (((w.setCell ⟨b, 1, none⟩ v1).setCell ⟨b, 2, none⟩ v2).setCell ⟨b, 3, none⟩ v3).heap[b]? = some (.cells #[z0, v1, v2, v3, z4] t (0, 0)) := by
 have e1 := heap_setCell_same w b 1 _ _ v1 h
 have e2 := heap_setCell_same _ b 2 _ _ v2 e1
 have e3 := heap_setCell_same _ b 3 _ _ v3 e2
 simpa using e3
theorem set_at4 {w : World} {b : Nat} {z0 z1 z2 z3 z4 v4 : Value} {t : TypeId} (h : w.heap[b]? = some (.cells #[z0, z1, z2, z3, z4] t (0, 0))) : (w.setCell ⟨b, 4, none⟩ v4).heap[b]? = some (.cells #[z0, z1, z2, z3, v4] t (0, 0)) := by
 have e1 := heap_setCell_same w b 4 _ _ v4 h
 simpa using e1
theorem cells5f {w : World} {b : Nat} {x y z u v : Value} {t : TypeId} (h : w.heap[b]? = some (.cells #[x, y, z, u, v] t (0, 0))) : w.frozen? ⟨b, 0, none⟩ = false ∧ w.frozen? ⟨b, 1, none⟩ = false ∧ w.frozen? ⟨b, 2, none⟩ = false ∧ w.frozen? ⟨b, 3, none⟩ = false ∧ w.frozen? ⟨b, 4, none⟩ = false := by
 obtain ⟨_, h1, h2, h3, h4, h5⟩ := box5 (Below.refl _ _) h; exact ⟨h1, h2, h3, h4, h5⟩
theorem below_set3b {b : Nat} {w w' : World} (h : Below b w w') (v0 v1 v2 : Value) : Below b w (((w'.setCell ⟨b, 1, none⟩ v0).setCell ⟨b, 2, none⟩ v1).setCell ⟨b, 3, none⟩ v2) := ((h.setCell (Nat.le_refl _) _).setCell (Nat.le_refl _) _).setCell (Nat.le_refl _) _
set_option maxRecDepth 100000 in
set_option maxHeartbeats 2000000 in
theorem implFirst (w wr : World) (b : Nat) (p : Int) (s : Sy) (X : List Stp) (r c : Nat) (h : RedAt 109 w wr b p s X) (hok : s.Ok p) (hr : r ≤ s.rows.length) (hc : (c : Int) < s.v + s.h) :
  Calls Tryz.prog 113 #[.pointer (some ⟨b, 0, none⟩), .int .i64 r, .int .i64 c] wr fun e w' => e = .returned (.int .i64 (firstI s c r)) ∧ wr = w' := by
 obtain ⟨_, hbel, A, ca, A8, c8, us, hq, hk, _⟩ := h
 have HR := Lib.hid (hk.rows hbel)
 have hn := hok.small
 have hn1 : s.rows.length ≤ 160 := hn.n
 have HLEN := Lib.hid (show ∀ q ∈ s.rows, c < q.length from fun q hq => by have := Sys.len hok q hq; omega)
 obtain ⟨y0, y1, y2, y3, y4⟩ := cells_5 hq
 clear hq hk hbel hok hn
 go_enter Tryz.func113, Tryz.ntmps113
 go_wp2
 go_loop [7] (fun i => ∃ j : Nat, r ≤ j ∧ j ≤ s.rows.length ∧ i = .int .i64 j ∧ Hid (∀ k, r ≤ k → k < j → ent s k c = 0)) (fun i => s.rows.length - (intOf i).toNat)
 case atStart => exact ⟨r, Nat.le_refl _, hr, rfl, Lib.hid (fun k h1 h2 => by omega)⟩
 case round =>
  obtain ⟨j, hj1, hj2, rfl, HZ⟩ := hrel
  by_cases hlt : j < s.rows.length
  ·obtain ⟨q, hq⟩ := get_of_lt hlt
   have hcq := HLEN.out q (List.mem_of_getElem? hq)
   obtain ⟨x, hx⟩ := get_of_lt hcq
   obtain ⟨bb, o, rfl, hc1⟩ := HR.out.here hlt
   obtain ⟨A', cap', hck, hin⟩ := hc1 j q hq
   obtain ⟨b2, o2, rfl, hc2⟩ := hin.here hcq
   have hcx := hc2 c x hx
   have HE := Lib.hid (ent_get hq hx)
   have hci : (c : Int) < (q.length : Int) := by omega
   clear hq hx hc1 hin hc2
   by_cases hz : x = 0
   ·subst hz
    go_wp2
    go_round
    case rel => exact ⟨j + 1, by omega, by omega, by go_num, Lib.hid (fun k h1 h2 => by
     rcases Nat.lt_or_ge k j with h | h
     ·exact HZ.out k h1 h
     ·rw [show k = j by omega]; exact HE.out)⟩
    case measure => simp [intOf]; omega
   ·have hzb : (x != 0) = true := by simp [hz]
    have hzc : (x == 0) = false := by simp [hz]
    have HF := Lib.hid (firstR_eq hj1 hj2 HZ.out (fun _ => by rw [HE.out]; exact hz))
    go_wp2
    go_ret
    exact ⟨ret_int (by rw [firstI, HF.out, if_neg (by omega)]), rfl⟩
  ·have HF := Lib.hid (firstR_eq hj1 hj2 HZ.out (fun h => absurd h hlt))
   have HJ := Lib.hid (show j = s.rows.length by omega)
   go_wp2
   go_ret
   exact ⟨ret_int (by rw [firstI, HF.out, HJ.out, if_pos rfl]), rfl⟩
set_option maxRecDepth 100000 in
set_option maxHeartbeats 8000000 in
theorem implMake (w wr : World) (bb : Nat) (p : Int) (s : Sy) (X : List Stp) (k a b c : Int) (hP : Primes w) (h : RedAt 109 w wr bb p s X) (hok : s.Ok p) (ho : okTo p s ⟨k, a, b, c, []⟩ = true) (hX : X.length ≤ 1000000) :
  Calls Tryz.prog 114 #[.pointer (some ⟨bb, 0, none⟩), .agg #[.int .i64 k, .int .i64 a, .int .i64 b, .int .i64 c, .slice none 0 0]] wr fun e w' => e = .returned (.tuple #[]) ∧ RedAt 109 w w' bb p (stepTo p s ⟨k, a, b, c, []⟩) (X ++ [⟨k, a, b, c, []⟩]) ∧ Below bb wr w' := by
 obtain ⟨hwb, hbel, A, ca, A8, c8, us, hq, hkp, hown⟩ := h
 have MK := Lib.hid (fun (A cap W h1 h2) => mkS_yes p s ⟨k, a, b, c, []⟩ A cap W none 0 h1 h2 (Or.inl rfl) (Nat.zero_le _) hok ho)
 simp only [List.length_nil] at MK
 obtain ⟨sn, hsn⟩ : ∃ sn, sn = stepTo p s ⟨k, a, b, c, []⟩ := ⟨_, rfl⟩
 rw [← hsn] at MK ⊢
 have hbb : bb < wr.heap.size := (Array.getElem?_eq_some_iff.1 hq).1
 have HQ := Lib.hid hq; have HKP := Lib.hid hkp; have HOWN := Lib.hid hown; have HBEL := Lib.hid hbel; have HSN := Lib.hid hsn
 have HP := Lib.hid hP
 clear hq hkp hown hbel hok ho hsn hP
 go_enter Tryz.func114, Tryz.ntmps114
 go_wp2
 obtain ⟨W1, hW1⟩ : ∃ W1, W1 = wr.alloc (.cells #[.int .i64 k, .int .i64 a, .int .i64 b, .int .i64 c, .slice none 0 0] 34) := ⟨_, rfl⟩
 rw [← hW1]
 have hb1 : Below wr.heap.size wr W1 := by rw [hW1]; exact (Below.refl _ _).alloc (Nat.le_refl _) _
 have hx1 : W1.heap[wr.heap.size]? = some (.cells #[.int .i64 k, .int .i64 a, .int .i64 b, .int .i64 c, .slice none 0 0] 34 (0, 0)) := by rw [hW1]; exact heap_at _ _ rfl
 have HB1 := Lib.hid hb1; have HX1 := Lib.hid hx1; have HQ1 := Lib.hid (box_at HQ.out hb1)
 have HKR := Lib.hid ((HKP.out.ext hb1).rows (below_ext HBEL.out hb1))
 have HBD := Lib.hid (below_ext HBEL.out hb1).drew
 obtain ⟨y0, y1, y2, y3, y4⟩ := cells_5 HQ1.out
 obtain ⟨x0, x1, x2, x3, x4⟩ := cells_5 hx1
 clear hb1 hx1 hW1
 refine wp_region_held_drew (S := fun W => W.cell? ⟨bb, 0, none⟩ = some (.int .i64 p) ∧ W.cell? ⟨wr.heap.size, 0, none⟩ = some (.int .i64 k) ∧ W.cell? ⟨wr.heap.size, 1, none⟩ = some (.int .i64 a) ∧ W.cell? ⟨wr.heap.size, 2, none⟩ = some (.int .i64 b) ∧ W.cell? ⟨wr.heap.size, 3, none⟩ = some (.int .i64 c) ∧ W.cell? ⟨wr.heap.size, 4, none⟩ = some (.slice none 0 0)) (by kernel_rfl) ⟨y0, x0, x1, x2, x3, x4⟩ (fun hHeld => ?_)
 refine takeHQ 0 (v := ?_) rfl (Or.inl ⟨by rfl, ?_⟩) ?_
 rotate_left
 ·intro w h; (try dsimp only at h); go_simp; (try with_reducible rfl)
 simp only [Act.put, List.setIfInBounds_toArray, List.set_cons_zero, List.set_cons_succ]
 refine takeHQ 1 (v := ?_) rfl (Or.inl ⟨by rfl, ?_⟩) ?_
 rotate_left
 ·intro w h; (try dsimp only at h); go_simp; (try with_reducible rfl)
 simp only [Act.put, List.setIfInBounds_toArray, List.set_cons_zero, List.set_cons_succ]
 refine takeHQ 2 (v := ?_) rfl (Or.inl ⟨by rfl, ?_⟩) ?_
 rotate_left
 ·intro w h; (try dsimp only at h); go_simp; (try with_reducible rfl)
 simp only [Act.put, List.setIfInBounds_toArray, List.set_cons_zero, List.set_cons_succ]
 refine takeHQ 3 (v := ?_) rfl (Or.inl ⟨by rfl, ?_⟩) ?_
 rotate_left
 ·intro w h; (try dsimp only at h); go_simp; (try with_reducible rfl)
 simp only [Act.put, List.setIfInBounds_toArray, List.set_cons_zero, List.set_cons_succ]
 refine takeHQ 4 (v := ?_) rfl (Or.inl ⟨by rfl, ?_⟩) ?_
 rotate_left
 ·intro w h; (try dsimp only at h); go_simp; (try with_reducible rfl)
 simp only [Act.put, List.setIfInBounds_toArray, List.set_cons_zero, List.set_cons_succ]
 refine takeHQ 5 (v := ?_) rfl (Or.inl ⟨by rfl, ?_⟩) ?_
 rotate_left
 ·intro w h; (try dsimp only at h); go_simp; (try with_reducible rfl)
 simp only [Act.put, List.setIfInBounds_toArray, List.set_cons_zero, List.set_cons_succ]
 refine takeHQ 6 (v := ?_) rfl (Or.inl ⟨by rfl, ?_⟩) ?_
 rotate_left
 ·intro w h; (try dsimp only at h); go_simp; (try with_reducible rfl)
 simp only [Act.put, List.setIfInBounds_toArray, List.set_cons_zero, List.set_cons_succ]
 refine takeHQ 7 (v := ?_) rfl (Or.inl ⟨by rfl, ?_⟩) ?_
 rotate_left
 ·intro w h; (try dsimp only at h); go_simp; (try with_reducible rfl)
 simp only [Act.put, List.setIfInBounds_toArray, List.set_cons_zero, List.set_cons_succ]
 refine takeHQ 9 (v := ?_) rfl (Or.inl ⟨by rfl, ?_⟩) ?_
 rotate_left
 ·intro w h; (try dsimp only at h); go_simp; (try with_reducible rfl)
 simp only [Act.put, List.setIfInBounds_toArray, List.set_cons_zero, List.set_cons_succ]
 refine wpAnyH_ready (rs := [8]) (by kernel_rfl) (by simp) ?_
 refine consH rfl (fun K hK => ?_) AllReadyH.nil
 go_simp
 refine hK.out _ _ (by assumption) (fun hHeld => ?_)
 clear hK K
 try simp only [Act.put, List.setIfInBounds_toArray, List.set_cons_zero, List.set_cons_succ]
 refine wpAnyH_ready (rs := [10]) (by kernel_rfl) (by simp) ?_
 refine consH rfl (fun K hK => ?_) AllReadyH.nil
 go_simp
 refine (MK.out _ _ _ (HP.out.ext HBD.out) (HKR.out.ext (Below.refl _ _).drew)).mono ?_
 rintro e w2 ⟨A2, c2, rfl, hu2, hb2⟩
 have H2 := Lib.hid ((Below.refl W1.heap.size W1).drew.trans hb2)
 have HU2 := Lib.hid hu2
 have HSS := Lib.hid (fun w' (h : Below W1.heap.size W1 w') => (⟨ext_cell h y0, ext_cell h x0, ext_cell h x1, ext_cell h x2, ext_cell h x3, ext_cell h x4⟩ : w'.cell? ⟨bb, 0, none⟩ = some (.int .i64 p) ∧ w'.cell? ⟨wr.heap.size, 0, none⟩ = some (.int .i64 k) ∧ w'.cell? ⟨wr.heap.size, 1, none⟩ = some (.int .i64 a) ∧ w'.cell? ⟨wr.heap.size, 2, none⟩ = some (.int .i64 b) ∧ w'.cell? ⟨wr.heap.size, 3, none⟩ = some (.int .i64 c) ∧ w'.cell? ⟨wr.heap.size, 4, none⟩ = some (.slice none 0 0)))
 clear hu2 hb2 x0 x1 x2 x3 x4 y0 y1 y2 y3 y4 hHeld
 go_simp
 refine hK.out _ _ (HSS.out _ H2.out) (fun hHeld => ?_)
 clear hK K
 try simp only [Act.put, List.setIfInBounds_toArray, List.set_cons_zero, List.set_cons_succ]
 refine takeHQ 11 (v := ?_) rfl (Or.inl ⟨by rfl, ?_⟩) ?_
 rotate_left
 ·intro w h; (try dsimp only at h); go_simp; (try with_reducible rfl)
 simp only [Act.put, List.setIfInBounds_toArray, List.set_cons_zero, List.set_cons_succ]
 refine takeHQ 12 (v := ?_) rfl (Or.inl ⟨by rfl, ?_⟩) ?_
 rotate_left
 ·intro w h; (try dsimp only at h); go_simp; (try with_reducible rfl)
 simp only [Act.put, List.setIfInBounds_toArray, List.set_cons_zero, List.set_cons_succ]
 refine takeHQ 13 (v := ?_) rfl (Or.inl ⟨by rfl, ?_⟩) ?_
 rotate_left
 ·intro w h; (try dsimp only at h); go_simp; (try with_reducible rfl)
 simp only [Act.put, List.setIfInBounds_toArray, List.set_cons_zero, List.set_cons_succ]
 refine takeHQ 14 (v := ?_) rfl (Or.inl ⟨by rfl, ?_⟩) ?_
 rotate_left
 ·intro w h; (try dsimp only at h); go_simp; (try with_reducible rfl)
 simp only [Act.put, List.setIfInBounds_toArray, List.set_cons_zero, List.set_cons_succ]
 refine takeHQ 15 (v := ?_) rfl (Or.inl ⟨by rfl, ?_⟩) ?_
 rotate_left
 ·intro w h; (try dsimp only at h); go_simp; (try with_reducible rfl)
 simp only [Act.put, List.setIfInBounds_toArray, List.set_cons_zero, List.set_cons_succ]
 obtain ⟨y0, y1, y2, y3, y4⟩ := cells_5 (box_at HQ1.out H2.out)
 obtain ⟨f0, f1, f2, f3, f4⟩ := cells5f (box_at HQ1.out H2.out)
 obtain ⟨x0, x1, x2, x3, x4⟩ := cells_5 (box_at HX1.out H2.out)
 refine wpAnyH_ready (rs := [16]) (by kernel_rfl) (by simp) ?_
 refine consH rfl (fun K hK => ?_) AllReadyH.nil
 go_simp
 have hS3 : (fun W => W.cell? ⟨bb, 0, none⟩ = some (.int .i64 p) ∧ W.cell? ⟨wr.heap.size, 0, none⟩ = some (.int .i64 k) ∧ W.cell? ⟨wr.heap.size, 1, none⟩ = some (.int .i64 a) ∧ W.cell? ⟨wr.heap.size, 2, none⟩ = some (.int .i64 b) ∧ W.cell? ⟨wr.heap.size, 3, none⟩ = some (.int .i64 c) ∧ W.cell? ⟨wr.heap.size, 4, none⟩ = some (.slice none 0 0)) (((w2.setCell ⟨bb, 1, none⟩ (.int .i64 sn.v)).setCell ⟨bb, 2, none⟩ (.int .i64 sn.h)).setCell ⟨bb, 3, none⟩ (.slice A2 sn.rows.length c2)) := by
  have hxb : wr.heap.size ≠ bb := by omega
  obtain ⟨z0, _⟩ := cells_5 (set_at123 (v1 := .int .i64 sn.v) (v2 := .int .i64 sn.h) (v3 := .slice A2 sn.rows.length c2) (box_at HQ1.out H2.out))
  refine ⟨z0, ?_, ?_, ?_, ?_, ?_⟩ <;> (rw [cell_set_ne (by simpa using hxb), cell_set_ne (by simpa using hxb), cell_set_ne (by simpa using hxb)]; assumption)
 refine hK.out _ _ (by exact hS3) (fun hHeld => ?_)
 clear hK K hHeld hS3 HSS x0 x1 x2 x3 x4 y0 y1 y2 y3 y4 f0 f1 f2 f3 f4
 refine wpAnyH_done (by kernel_rfl) ?_ _
 try dsimp only
 obtain ⟨W3, hW3⟩ : ∃ W3, W3 = ((w2.setCell ⟨bb, 1, none⟩ (.int .i64 sn.v)).setCell ⟨bb, 2, none⟩ (.int .i64 sn.h)).setCell ⟨bb, 3, none⟩ (.slice A2 sn.rows.length c2) := ⟨_, rfl⟩
 rw [← hW3]
 have hs1 := HB1.out.size
 have hs2 := H2.out.size
 have hsame : ∀ j, j ≠ bb → W3.heap[j]? = w2.heap[j]? := fun j hj => by
  rw [hW3, heap_setCell_other _ _ _ _ (by simp <;> omega), heap_setCell_other _ _ _ _ (by simp <;> omega), heap_setCell_other _ _ _ _ (by simp <;> omega)]
 have HQ3 := Lib.hid (show W3.heap[bb]? = some (.cells #[.int .i64 p, .int .i64 sn.v, .int .i64 sn.h, .slice A2 sn.rows.length c2, .slice A8 X.length c8] 109 (0, 0)) by rw [hW3]; exact set_at123 (box_at HQ1.out H2.out))
 have HSZ := Lib.hid (show W3.heap.size = w2.heap.size by rw [hW3]; simp)
 have hX3 : W3.heap[wr.heap.size]? = some (.cells #[.int .i64 k, .int .i64 a, .int .i64 b, .int .i64 c, .slice none 0 0] 34 (0, 0)) := (hsame _ (by omega)).trans (box_at HX1.out H2.out)
 have hbw : Below bb wr W3 := by
  have := (HB1.out.trans (H2.out.mono HB1.out.size)).mono (B' := bb) (by omega)
  rw [hW3]; exact below_set3b this _ _ _
 have HBW := Lib.hid hbw
 have HOW3 := Lib.hid (((HOWN.out.ext (HB1.out.trans (H2.out.mono HB1.out.size)))).same (fun j hj => hsame j (by omega)))
 have HU3 := Lib.hid ((HU2.out.mono (B' := bb + 1) (by simp; omega)).same (fun j hj => hsame j (by omega)))
 obtain ⟨y0, y1, y2, y3, y4⟩ := cells_5 HQ3.out
 obtain ⟨x0, x1, x2, x3, x4⟩ := cells_5 hX3
 have HX3 := Lib.hid hX3
 clear hsame hX3 hbw hW3
 go_wp2
 refine wp_region_T (S := fun W => W.cell? ⟨bb, 4, none⟩ = some (.slice A8 X.length c8) ∧ W.cell? ⟨wr.heap.size, 0, none⟩ = some (.int .i64 k) ∧ W.cell? ⟨wr.heap.size, 1, none⟩ = some (.int .i64 a) ∧ W.cell? ⟨wr.heap.size, 2, none⟩ = some (.int .i64 b) ∧ W.cell? ⟨wr.heap.size, 3, none⟩ = some (.int .i64 c) ∧ W.cell? ⟨wr.heap.size, 4, none⟩ = some (.slice none 0 0)) 10 (by kernel_rfl) ⟨y4, x0, x1, x2, x3, x4⟩ (fun hHeld => ?_)
 refine takeQ 0 (v := ?_) rfl (Or.inl ⟨by rfl, ?_⟩) ?_
 rotate_left
 ·intro w h; (try dsimp only at h); go_simp; (try with_reducible rfl)
 simp only [Act.put, List.setIfInBounds_toArray, List.set_cons_zero, List.set_cons_succ]
 refine takeQ 1 (v := ?_) rfl (Or.inl ⟨by rfl, ?_⟩) ?_
 rotate_left
 ·intro w h; (try dsimp only at h); go_simp; (try with_reducible rfl)
 simp only [Act.put, List.setIfInBounds_toArray, List.set_cons_zero, List.set_cons_succ]
 refine takeQ 2 (v := ?_) rfl (Or.inl ⟨by rfl, ?_⟩) ?_
 rotate_left
 ·intro w h; (try dsimp only at h); go_simp; (try with_reducible rfl)
 simp only [Act.put, List.setIfInBounds_toArray, List.set_cons_zero, List.set_cons_succ]
 refine takeQ 3 (v := ?_) rfl (Or.inl ⟨by rfl, ?_⟩) ?_
 rotate_left
 ·intro w h; (try dsimp only at h); go_simp; (try with_reducible rfl)
 simp only [Act.put, List.setIfInBounds_toArray, List.set_cons_zero, List.set_cons_succ]
 refine takeQ 4 (v := ?_) rfl (Or.inl ⟨by rfl, ?_⟩) ?_
 rotate_left
 ·intro w h; (try dsimp only at h); go_simp; (try with_reducible rfl)
 simp only [Act.put, List.setIfInBounds_toArray, List.set_cons_zero, List.set_cons_succ]
 refine takeQ 5 (v := ?_) rfl (Or.inl ⟨by rfl, ?_⟩) ?_
 rotate_left
 ·intro w h; (try dsimp only at h); go_simp; (try with_reducible rfl)
 simp only [Act.put, List.setIfInBounds_toArray, List.set_cons_zero, List.set_cons_succ]
 refine oneT (i := 6) (by kernel_rfl) rfl (fun K hK => ?_)
 have HS := Lib.hid (fun w' (h : Below W3.heap.size W3 w') => (⟨ext_cell h y4, ext_cell h x0, ext_cell h x1, ext_cell h x2, ext_cell h x3, ext_cell h x4⟩ : w'.cell? ⟨bb, 4, none⟩ = some (.slice A8 X.length c8) ∧ w'.cell? ⟨wr.heap.size, 0, none⟩ = some (.int .i64 k) ∧ w'.cell? ⟨wr.heap.size, 1, none⟩ = some (.int .i64 a) ∧ w'.cell? ⟨wr.heap.size, 2, none⟩ = some (.int .i64 b) ∧ w'.cell? ⟨wr.heap.size, 3, none⟩ = some (.int .i64 c) ∧ w'.cell? ⟨wr.heap.size, 4, none⟩ = some (.slice none 0 0)))
 go_simp
 refine hK.out _ _ (fun _ => HS.out _ ((Below.refl _ _).drew.alloc (Nat.le_refl _) _)) (fun hHeld => ?_)
 clear hK K y0 y1 y2 y3 y4 x0 x1 x2 x3 x4
 try simp only [Act.put, List.setIfInBounds_toArray, List.set_cons_zero, List.set_cons_succ]
 have hHeld := hHeld (by decide)
 refine oneT (i := 7) (by kernel_rfl) rfl (fun K hK => ?_)
 have HOWd := Lib.hid (HOW3.out.ext (Below.refl _ _).drew)
 refine step_appendStp rfl (.tmp 24) (.tmp 26) rfl (bb + 1) W3.drew (.slice A8 X.length c8) (.slice none 0 0) X us ⟨k, a, b, c, []⟩ HOWd.out (OwnInts.nil _ _) (fun b hb => by cases hb) (by omega) (by have := HSZ.out; simp; omega) rfl rfl ?_
 intro g5 cap5 w5 hown5 hg5 hb5
 have hq5 : w5.heap[bb]? = some (.cells #[.int .i64 p, .int .i64 sn.v, .int .i64 sn.h, .slice A2 sn.rows.length c2, .slice A8 X.length c8] 109 (0, 0)) := (hb5.block bb (by omega)).trans HQ3.out
 have hx5 : w5.heap[wr.heap.size]? = some (.cells #[.int .i64 k, .int .i64 a, .int .i64 b, .int .i64 c, .slice none 0 0] 34 (0, 0)) := (hg5.block wr.heap.size (by have := (Array.getElem?_eq_some_iff.1 HX3.out).1; exact this) (fun e => by have := (HOWN.out.lt _ e.symm).2; omega)).trans HX3.out
 have HO5 := Lib.hid hown5; have HG5 := Lib.hid hg5; have HB5 := Lib.hid hb5; have HQ5 := Lib.hid hq5
 obtain ⟨y0, y1, y2, y3, y4⟩ := cells_5 hq5
 obtain ⟨f0, f1, f2, f3, f4⟩ := cells5f hq5
 obtain ⟨x0, x1, x2, x3, x4⟩ := cells_5 hx5
 clear hown5 hg5 hb5 hq5 hx5
 refine hK.out _ _ (fun _ => ⟨y4, x0, x1, x2, x3, x4⟩) (fun hHeld => ?_)
 clear hK K x0 x1 x2 x3 x4
 try simp only [Act.put, List.setIfInBounds_toArray, List.set_cons_zero, List.set_cons_succ]
 have hHeld := hHeld (by decide)
 refine takeQ 8 (v := ?_) rfl (Or.inl ⟨by rfl, ?_⟩) ?_
 rotate_left
 ·intro w h; (try dsimp only at h); go_simp; (try with_reducible rfl)
 simp only [Act.put, List.setIfInBounds_toArray, List.set_cons_zero, List.set_cons_succ]
 refine takeQ 9 (v := ?_) rfl (Or.inl ⟨by rfl, ?_⟩) ?_
 rotate_left
 ·intro w h; (try dsimp only at h); go_simp; (try with_reducible rfl)
 simp only [Act.put, List.setIfInBounds_toArray, List.set_cons_zero, List.set_cons_succ]
 refine oneT (i := 10) (by kernel_rfl) rfl (fun K hK => ?_)
 go_simp
 refine hK.out _ _ (fun h => absurd h (by decide)) (fun _ => ?_)
 clear hK K hHeld HS y0 y1 y2 y3 y4 f0 f1 f2 f3 f4
 try simp only [Act.put, List.setIfInBounds_toArray, List.set_cons_zero, List.set_cons_succ]
 refine doneT (by kernel_rfl) ?_ _
 have hfin : RedAt 109 w (w5.setCell ⟨bb, 4, none⟩ (.slice (some ⟨g5, 0, none⟩) (X.length + 1) cap5)) bb p sn (X ++ [⟨k, a, b, c, []⟩]) ∧ Below bb wr (w5.setCell ⟨bb, 4, none⟩ (.slice (some ⟨g5, 0, none⟩) (X.length + 1) cap5)) := by
  have hb5 : Below bb wr w5 := HBW.out.trans ((show Below bb W3 W3.drew from ⟨rfl, rfl, rfl, Nat.le_refl _, fun _ _ => rfl⟩).trans (HB5.out.mono (by omega)))
  have hbs := hb5.setCell (p := ⟨bb, 4, none⟩) (Nat.le_refl _) (.slice (some ⟨g5, 0, none⟩) (X.length + 1) cap5)
  have hsame : ∀ j, bb + 1 ≤ j → (w5.setCell ⟨bb, 4, none⟩ (.slice (some ⟨g5, 0, none⟩) (X.length + 1) cap5)).heap[j]? = w5.heap[j]? := fun j hj => heap_setCell_other _ _ _ _ (by simp <;> omega)
  refine ⟨⟨hwb, HBEL.out.trans (hbs.mono hwb), A2, c2, some ⟨g5, 0, none⟩, cap5, us ++ [.slice none 0 0], ?_, Or.inr ?_, ?_⟩, hbs⟩
  ·have := set_at4 (v4 := .slice (some ⟨g5, 0, none⟩) (X.length + 1) cap5) HQ5.out
   simpa using this
  ·exact ((HU3.out.ext (Below.refl _ _).drew).keptT (by decide) (by decide) HOWd.out.outer HG5.out).same hsame
  ·have := HO5.out.same hsame
   simpa using this
 have HFIN := Lib.hid hfin
 clear hfin
 go_wp2
 go_end0
 exact ⟨rfl, HFIN.out.1, HFIN.out.2⟩
set_option maxRecDepth 100000 in
set_option maxHeartbeats 2000000 in
theorem specFirst (w wr : World) (b : Nat) (p : Int) (s : Sy) (X : List Stp) (r c : Nat) (h : RedAt 104 w wr b p s X) (hok : s.Ok p) (hr : r ≤ s.rows.length) (hc : (c : Int) < s.v + s.h) :
  Calls Tryz.prog 98 #[.pointer (some ⟨b, 0, none⟩), .int .i64 r, .int .i64 c] wr fun e w' => e = .returned (.int .i64 (firstR s c r : Nat)) ∧ wr = w' := by
 obtain ⟨_, hbel, A, ca, A8, c8, us, hq, hk, _⟩ := h
 have HR := Lib.hid (hk.rows hbel)
 have hn := hok.small
 have hn1 : s.rows.length ≤ 160 := hn.n
 have HLEN := Lib.hid (show ∀ q ∈ s.rows, c < q.length from fun q hq => by have := Sys.len hok q hq; omega)
 obtain ⟨y0, y1, y2, y3, y4⟩ := cells_5 hq
 clear hq hk hbel hok hn
 go_enter Tryz.func98, Tryz.ntmps98
 go_wp2
 go_loop [1] (fun i => ∃ j : Nat, r ≤ j ∧ j ≤ s.rows.length ∧ i = .int .i64 j ∧ Hid (∀ k, r ≤ k → k < j → ent s k c = 0)) (fun i => s.rows.length - (intOf i).toNat)
 case atStart => exact ⟨r, Nat.le_refl _, hr, rfl, Lib.hid (fun k h1 h2 => by omega)⟩
 case round =>
  obtain ⟨j, hj1, hj2, rfl, HZ⟩ := hrel
  by_cases hlt : j < s.rows.length
  ·obtain ⟨q, hq⟩ := get_of_lt hlt
   have hcq := HLEN.out q (List.mem_of_getElem? hq)
   obtain ⟨x, hx⟩ := get_of_lt hcq
   obtain ⟨bb, o, rfl, hc1⟩ := HR.out.here hlt
   obtain ⟨A', cap', hck, hin⟩ := hc1 j q hq
   obtain ⟨b2, o2, rfl, hc2⟩ := hin.here hcq
   have hcx := hc2 c x hx
   have HE := Lib.hid (ent_get hq hx)
   have hci : (c : Int) < (q.length : Int) := by omega
   clear hq hx hc1 hin hc2
   by_cases hz : x = 0
   ·subst hz
    go_wp2
    go_round
    case rel => exact ⟨j + 1, by omega, by omega, by go_num, Lib.hid (fun k h1 h2 => by
     rcases Nat.lt_or_ge k j with h | h
     ·exact HZ.out k h1 h
     ·rw [show k = j by omega]; exact HE.out)⟩
    case measure => simp [intOf]; omega
   ·have hzb : (x != 0) = true := by simp [hz]
    have hzc : (x == 0) = false := by simp [hz]
    have HF := Lib.hid (firstR_eq hj1 hj2 HZ.out (fun _ => by rw [HE.out]; exact hz))
    go_wp2
    go_ret
    exact ⟨ret_int (by rw [HF.out]), rfl⟩
  ·have HF := Lib.hid (firstR_eq hj1 hj2 HZ.out (fun h => absurd h hlt))
   have HJ := Lib.hid (show j = s.rows.length by omega)
   go_wp2
   go_ret
   exact ⟨ret_int (by rw [HF.out]), rfl⟩
set_option maxRecDepth 100000 in
set_option maxHeartbeats 8000000 in
theorem specMake (w wr : World) (bb : Nat) (p : Int) (s : Sy) (X : List Stp) (k a b c : Int) (h : RedAt 104 w wr bb p s X) (hok : s.Ok p) (ho : okTo p s ⟨k, a, b, c, []⟩ = true) (hX : X.length ≤ 1000000) :
  Calls Tryz.prog 99 #[.pointer (some ⟨bb, 0, none⟩), .agg #[.int .i64 k, .int .i64 a, .int .i64 b, .int .i64 c, .slice none 0 0]] wr fun e w' => e = .returned (.tuple #[]) ∧ RedAt 104 w w' bb p (stepTo p s ⟨k, a, b, c, []⟩) (X ++ [⟨k, a, b, c, []⟩]) ∧ Below bb wr w' := by
 obtain ⟨hwb, hbel, A, ca, A8, c8, us, hq, hkp, hown⟩ := h
 have MK := Lib.hid (fun (A cap W h2) => stMakeS p s ⟨k, a, b, c, []⟩ A cap W none 0 h2 (Or.inl rfl) hok ho)
 simp only [List.length_nil] at MK
 obtain ⟨sn, hsn⟩ : ∃ sn, sn = stepTo p s ⟨k, a, b, c, []⟩ := ⟨_, rfl⟩
 rw [← hsn] at MK ⊢
 have hbb : bb < wr.heap.size := (Array.getElem?_eq_some_iff.1 hq).1
 have HQ := Lib.hid hq; have HKP := Lib.hid hkp; have HOWN := Lib.hid hown; have HBEL := Lib.hid hbel; have HSN := Lib.hid hsn
 clear hq hkp hown hbel hok ho hsn
 go_enter Tryz.func99, Tryz.ntmps99
 go_wp2
 obtain ⟨W1, hW1⟩ : ∃ W1, W1 = wr.alloc (.cells #[.int .i64 k, .int .i64 a, .int .i64 b, .int .i64 c, .slice none 0 0] 34) := ⟨_, rfl⟩
 rw [← hW1]
 have hb1 : Below wr.heap.size wr W1 := by rw [hW1]; exact (Below.refl _ _).alloc (Nat.le_refl _) _
 have hx1 : W1.heap[wr.heap.size]? = some (.cells #[.int .i64 k, .int .i64 a, .int .i64 b, .int .i64 c, .slice none 0 0] 34 (0, 0)) := by rw [hW1]; exact heap_at _ _ rfl
 have HB1 := Lib.hid hb1; have HX1 := Lib.hid hx1; have HQ1 := Lib.hid (box_at HQ.out hb1)
 have HKR := Lib.hid ((HKP.out.ext hb1).rows (below_ext HBEL.out hb1))
 have HBD := Lib.hid (below_ext HBEL.out hb1).drew
 obtain ⟨y0, y1, y2, y3, y4⟩ := cells_5 HQ1.out
 obtain ⟨x0, x1, x2, x3, x4⟩ := cells_5 hx1
 clear hb1 hx1 hW1
 refine wp_region_T (S := fun W => W.cell? ⟨bb, 0, none⟩ = some (.int .i64 p) ∧ W.cell? ⟨bb, 1, none⟩ = some (.int .i64 s.v) ∧ W.cell? ⟨bb, 2, none⟩ = some (.int .i64 s.h) ∧ W.cell? ⟨bb, 3, none⟩ = some (.slice A s.rows.length ca) ∧ W.cell? ⟨wr.heap.size, 0, none⟩ = some (.int .i64 k) ∧ W.cell? ⟨wr.heap.size, 1, none⟩ = some (.int .i64 a) ∧ W.cell? ⟨wr.heap.size, 2, none⟩ = some (.int .i64 b) ∧ W.cell? ⟨wr.heap.size, 3, none⟩ = some (.int .i64 c) ∧ W.cell? ⟨wr.heap.size, 4, none⟩ = some (.slice none 0 0)) 13 (by kernel_rfl) ⟨y0, y1, y2, y3, x0, x1, x2, x3, x4⟩ (fun hHeld => ?_)
 refine takeQ 0 (v := ?_) rfl (Or.inl ⟨by rfl, ?_⟩) ?_
 rotate_left
 ·intro w h; (try dsimp only at h); go_simp; (try with_reducible rfl)
 simp only [Act.put, List.setIfInBounds_toArray, List.set_cons_zero, List.set_cons_succ]
 refine takeQ 1 (v := ?_) rfl (Or.inl ⟨by rfl, ?_⟩) ?_
 rotate_left
 ·intro w h; (try dsimp only at h); go_simp; (try with_reducible rfl)
 simp only [Act.put, List.setIfInBounds_toArray, List.set_cons_zero, List.set_cons_succ]
 refine takeQ 2 (v := ?_) rfl (Or.inl ⟨by rfl, ?_⟩) ?_
 rotate_left
 ·intro w h; (try dsimp only at h); go_simp; (try with_reducible rfl)
 simp only [Act.put, List.setIfInBounds_toArray, List.set_cons_zero, List.set_cons_succ]
 refine takeQ 3 (v := ?_) rfl (Or.inl ⟨by rfl, ?_⟩) ?_
 rotate_left
 ·intro w h; (try dsimp only at h); go_simp; (try with_reducible rfl)
 simp only [Act.put, List.setIfInBounds_toArray, List.set_cons_zero, List.set_cons_succ]
 refine takeQ 4 (v := ?_) rfl (Or.inl ⟨by rfl, ?_⟩) ?_
 rotate_left
 ·intro w h; (try dsimp only at h); go_simp; (try with_reducible rfl)
 simp only [Act.put, List.setIfInBounds_toArray, List.set_cons_zero, List.set_cons_succ]
 refine takeQ 5 (v := ?_) rfl (Or.inl ⟨by rfl, ?_⟩) ?_
 rotate_left
 ·intro w h; (try dsimp only at h); go_simp; (try with_reducible rfl)
 simp only [Act.put, List.setIfInBounds_toArray, List.set_cons_zero, List.set_cons_succ]
 refine takeQ 6 (v := ?_) rfl (Or.inl ⟨by rfl, ?_⟩) ?_
 rotate_left
 ·intro w h; (try dsimp only at h); go_simp; (try with_reducible rfl)
 simp only [Act.put, List.setIfInBounds_toArray, List.set_cons_zero, List.set_cons_succ]
 refine takeQ 7 (v := ?_) rfl (Or.inl ⟨by rfl, ?_⟩) ?_
 rotate_left
 ·intro w h; (try dsimp only at h); go_simp; (try with_reducible rfl)
 simp only [Act.put, List.setIfInBounds_toArray, List.set_cons_zero, List.set_cons_succ]
 refine takeQ 8 (v := ?_) rfl (Or.inl ⟨by rfl, ?_⟩) ?_
 rotate_left
 ·intro w h; (try dsimp only at h); go_simp; (try with_reducible rfl)
 simp only [Act.put, List.setIfInBounds_toArray, List.set_cons_zero, List.set_cons_succ]
 refine takeQ 9 (v := ?_) rfl (Or.inl ⟨by rfl, ?_⟩) ?_
 rotate_left
 ·intro w h; (try dsimp only at h); go_simp; (try with_reducible rfl)
 simp only [Act.put, List.setIfInBounds_toArray, List.set_cons_zero, List.set_cons_succ]
 refine oneT (i := 10) (by kernel_rfl) rfl (fun K hK => ?_)
 go_simp
 refine (MK.out _ _ _ (HKR.out.ext (Below.refl _ _).drew)).mono ?_
 rintro e w2 ⟨A2, c2, rfl, hu2, hb2⟩
 have H2 := Lib.hid ((Below.refl W1.heap.size W1).drew.trans hb2)
 have HU2 := Lib.hid hu2
 have HS := Lib.hid (fun w' (h : Below W1.heap.size W1 w') => (⟨ext_cell h y0, ext_cell h y1, ext_cell h y2, ext_cell h y3, ext_cell h x0, ext_cell h x1, ext_cell h x2, ext_cell h x3, ext_cell h x4⟩ : w'.cell? ⟨bb, 0, none⟩ = some (.int .i64 p) ∧ w'.cell? ⟨bb, 1, none⟩ = some (.int .i64 s.v) ∧ w'.cell? ⟨bb, 2, none⟩ = some (.int .i64 s.h) ∧ w'.cell? ⟨bb, 3, none⟩ = some (.slice A s.rows.length ca) ∧ w'.cell? ⟨wr.heap.size, 0, none⟩ = some (.int .i64 k) ∧ w'.cell? ⟨wr.heap.size, 1, none⟩ = some (.int .i64 a) ∧ w'.cell? ⟨wr.heap.size, 2, none⟩ = some (.int .i64 b) ∧ w'.cell? ⟨wr.heap.size, 3, none⟩ = some (.int .i64 c) ∧ w'.cell? ⟨wr.heap.size, 4, none⟩ = some (.slice none 0 0)))
 clear hu2 hb2 x0 x1 x2 x3 x4 y0 y1 y2 y3 y4
 go_simp
 refine hK.out _ _ (fun _ => HS.out _ H2.out) (fun hHeld => ?_)
 clear hK K
 try simp only [Act.put, List.setIfInBounds_toArray, List.set_cons_zero, List.set_cons_succ]
 have hHeld := hHeld (by decide)
 refine takeQ 11 (v := ?_) rfl (Or.inl ⟨by rfl, ?_⟩) ?_
 rotate_left
 ·intro w h; (try dsimp only at h); go_simp; (try with_reducible rfl)
 simp only [Act.put, List.setIfInBounds_toArray, List.set_cons_zero, List.set_cons_succ]
 refine takeQ 12 (v := ?_) rfl (Or.inl ⟨by rfl, ?_⟩) ?_
 rotate_left
 ·intro w h; (try dsimp only at h); go_simp; (try with_reducible rfl)
 simp only [Act.put, List.setIfInBounds_toArray, List.set_cons_zero, List.set_cons_succ]
 obtain ⟨y0, y1, y2, y3, y4⟩ := cells_5 (box_at HQ1.out H2.out)
 obtain ⟨f0, f1, f2, f3, f4⟩ := cells5f (box_at HQ1.out H2.out)
 refine oneT (i := 13) (by kernel_rfl) rfl (fun K hK => ?_)
 go_simp
 refine hK.out _ _ (fun h => absurd h (by decide)) (fun _ => ?_)
 clear hK K hHeld HS y0 y1 y2 y3 y4 f0 f1 f2 f3 f4
 try simp only [Act.put, List.setIfInBounds_toArray, List.set_cons_zero, List.set_cons_succ]
 refine doneT (by kernel_rfl) ?_ _
 obtain ⟨W3, hW3⟩ : ∃ W3, W3 = ((w2.setCell ⟨bb, 1, none⟩ (.int .i64 sn.v)).setCell ⟨bb, 2, none⟩ (.int .i64 sn.h)).setCell ⟨bb, 3, none⟩ (.slice A2 sn.rows.length c2) := ⟨_, rfl⟩
 rw [← hW3]
 have hs1 := HB1.out.size
 have hs2 := H2.out.size
 have hsame : ∀ j, j ≠ bb → W3.heap[j]? = w2.heap[j]? := fun j hj => by
  rw [hW3, heap_setCell_other _ _ _ _ (by simp <;> omega), heap_setCell_other _ _ _ _ (by simp <;> omega), heap_setCell_other _ _ _ _ (by simp <;> omega)]
 have HQ3 := Lib.hid (show W3.heap[bb]? = some (.cells #[.int .i64 p, .int .i64 sn.v, .int .i64 sn.h, .slice A2 sn.rows.length c2, .slice A8 X.length c8] 104 (0, 0)) by rw [hW3]; exact set_at123 (box_at HQ1.out H2.out))
 have HSZ := Lib.hid (show W3.heap.size = w2.heap.size by rw [hW3]; simp)
 have hX3 : W3.heap[wr.heap.size]? = some (.cells #[.int .i64 k, .int .i64 a, .int .i64 b, .int .i64 c, .slice none 0 0] 34 (0, 0)) := (hsame _ (by omega)).trans (box_at HX1.out H2.out)
 have hbw : Below bb wr W3 := by
  have := (HB1.out.trans (H2.out.mono HB1.out.size)).mono (B' := bb) (by omega)
  rw [hW3]; exact below_set3b this _ _ _
 have HBW := Lib.hid hbw
 have HOW3 := Lib.hid (((HOWN.out.ext (HB1.out.trans (H2.out.mono HB1.out.size)))).same (fun j hj => hsame j (by omega)))
 have HU3 := Lib.hid ((HU2.out.mono (B' := bb + 1) (by simp; omega)).same (fun j hj => hsame j (by omega)))
 obtain ⟨y0, y1, y2, y3, y4⟩ := cells_5 HQ3.out
 obtain ⟨x0, x1, x2, x3, x4⟩ := cells_5 hX3
 have HX3 := Lib.hid hX3
 clear hsame hX3 hbw hW3
 go_wp2
 refine wp_region_T (S := fun W => W.cell? ⟨bb, 4, none⟩ = some (.slice A8 X.length c8) ∧ W.cell? ⟨wr.heap.size, 0, none⟩ = some (.int .i64 k) ∧ W.cell? ⟨wr.heap.size, 1, none⟩ = some (.int .i64 a) ∧ W.cell? ⟨wr.heap.size, 2, none⟩ = some (.int .i64 b) ∧ W.cell? ⟨wr.heap.size, 3, none⟩ = some (.int .i64 c) ∧ W.cell? ⟨wr.heap.size, 4, none⟩ = some (.slice none 0 0)) 10 (by kernel_rfl) ⟨y4, x0, x1, x2, x3, x4⟩ (fun hHeld => ?_)
 refine takeQ 0 (v := ?_) rfl (Or.inl ⟨by rfl, ?_⟩) ?_
 rotate_left
 ·intro w h; (try dsimp only at h); go_simp; (try with_reducible rfl)
 simp only [Act.put, List.setIfInBounds_toArray, List.set_cons_zero, List.set_cons_succ]
 refine takeQ 1 (v := ?_) rfl (Or.inl ⟨by rfl, ?_⟩) ?_
 rotate_left
 ·intro w h; (try dsimp only at h); go_simp; (try with_reducible rfl)
 simp only [Act.put, List.setIfInBounds_toArray, List.set_cons_zero, List.set_cons_succ]
 refine takeQ 2 (v := ?_) rfl (Or.inl ⟨by rfl, ?_⟩) ?_
 rotate_left
 ·intro w h; (try dsimp only at h); go_simp; (try with_reducible rfl)
 simp only [Act.put, List.setIfInBounds_toArray, List.set_cons_zero, List.set_cons_succ]
 refine takeQ 3 (v := ?_) rfl (Or.inl ⟨by rfl, ?_⟩) ?_
 rotate_left
 ·intro w h; (try dsimp only at h); go_simp; (try with_reducible rfl)
 simp only [Act.put, List.setIfInBounds_toArray, List.set_cons_zero, List.set_cons_succ]
 refine takeQ 4 (v := ?_) rfl (Or.inl ⟨by rfl, ?_⟩) ?_
 rotate_left
 ·intro w h; (try dsimp only at h); go_simp; (try with_reducible rfl)
 simp only [Act.put, List.setIfInBounds_toArray, List.set_cons_zero, List.set_cons_succ]
 refine takeQ 5 (v := ?_) rfl (Or.inl ⟨by rfl, ?_⟩) ?_
 rotate_left
 ·intro w h; (try dsimp only at h); go_simp; (try with_reducible rfl)
 simp only [Act.put, List.setIfInBounds_toArray, List.set_cons_zero, List.set_cons_succ]
 refine oneT (i := 6) (by kernel_rfl) rfl (fun K hK => ?_)
 have HS := Lib.hid (fun w' (h : Below W3.heap.size W3 w') => (⟨ext_cell h y4, ext_cell h x0, ext_cell h x1, ext_cell h x2, ext_cell h x3, ext_cell h x4⟩ : w'.cell? ⟨bb, 4, none⟩ = some (.slice A8 X.length c8) ∧ w'.cell? ⟨wr.heap.size, 0, none⟩ = some (.int .i64 k) ∧ w'.cell? ⟨wr.heap.size, 1, none⟩ = some (.int .i64 a) ∧ w'.cell? ⟨wr.heap.size, 2, none⟩ = some (.int .i64 b) ∧ w'.cell? ⟨wr.heap.size, 3, none⟩ = some (.int .i64 c) ∧ w'.cell? ⟨wr.heap.size, 4, none⟩ = some (.slice none 0 0)))
 go_simp
 refine hK.out _ _ (fun _ => HS.out _ ((Below.refl _ _).drew.alloc (Nat.le_refl _) _)) (fun hHeld => ?_)
 clear hK K y0 y1 y2 y3 y4 x0 x1 x2 x3 x4
 try simp only [Act.put, List.setIfInBounds_toArray, List.set_cons_zero, List.set_cons_succ]
 have hHeld := hHeld (by decide)
 refine oneT (i := 7) (by kernel_rfl) rfl (fun K hK => ?_)
 have HOWd := Lib.hid (HOW3.out.ext (Below.refl _ _).drew)
 refine step_appendStp rfl (.tmp 21) (.tmp 23) rfl (bb + 1) W3.drew (.slice A8 X.length c8) (.slice none 0 0) X us ⟨k, a, b, c, []⟩ HOWd.out (OwnInts.nil _ _) (fun b hb => by cases hb) (by omega) (by have := HSZ.out; simp; omega) rfl rfl ?_
 intro g5 cap5 w5 hown5 hg5 hb5
 have hq5 : w5.heap[bb]? = some (.cells #[.int .i64 p, .int .i64 sn.v, .int .i64 sn.h, .slice A2 sn.rows.length c2, .slice A8 X.length c8] 104 (0, 0)) := (hb5.block bb (by omega)).trans HQ3.out
 have hx5 : w5.heap[wr.heap.size]? = some (.cells #[.int .i64 k, .int .i64 a, .int .i64 b, .int .i64 c, .slice none 0 0] 34 (0, 0)) := (hg5.block wr.heap.size (by have := (Array.getElem?_eq_some_iff.1 HX3.out).1; exact this) (fun e => by have := (HOWN.out.lt _ e.symm).2; omega)).trans HX3.out
 have HO5 := Lib.hid hown5; have HG5 := Lib.hid hg5; have HB5 := Lib.hid hb5; have HQ5 := Lib.hid hq5
 obtain ⟨y0, y1, y2, y3, y4⟩ := cells_5 hq5
 obtain ⟨f0, f1, f2, f3, f4⟩ := cells5f hq5
 obtain ⟨x0, x1, x2, x3, x4⟩ := cells_5 hx5
 clear hown5 hg5 hb5 hq5 hx5
 refine hK.out _ _ (fun _ => ⟨y4, x0, x1, x2, x3, x4⟩) (fun hHeld => ?_)
 clear hK K x0 x1 x2 x3 x4
 try simp only [Act.put, List.setIfInBounds_toArray, List.set_cons_zero, List.set_cons_succ]
 have hHeld := hHeld (by decide)
 refine takeQ 8 (v := ?_) rfl (Or.inl ⟨by rfl, ?_⟩) ?_
 rotate_left
 ·intro w h; (try dsimp only at h); go_simp; (try with_reducible rfl)
 simp only [Act.put, List.setIfInBounds_toArray, List.set_cons_zero, List.set_cons_succ]
 refine takeQ 9 (v := ?_) rfl (Or.inl ⟨by rfl, ?_⟩) ?_
 rotate_left
 ·intro w h; (try dsimp only at h); go_simp; (try with_reducible rfl)
 simp only [Act.put, List.setIfInBounds_toArray, List.set_cons_zero, List.set_cons_succ]
 refine oneT (i := 10) (by kernel_rfl) rfl (fun K hK => ?_)
 go_simp
 refine hK.out _ _ (fun h => absurd h (by decide)) (fun _ => ?_)
 clear hK K hHeld HS y0 y1 y2 y3 y4 f0 f1 f2 f3 f4
 try simp only [Act.put, List.setIfInBounds_toArray, List.set_cons_zero, List.set_cons_succ]
 refine doneT (by kernel_rfl) ?_ _
 have hfin : RedAt 104 w (w5.setCell ⟨bb, 4, none⟩ (.slice (some ⟨g5, 0, none⟩) (X.length + 1) cap5)) bb p sn (X ++ [⟨k, a, b, c, []⟩]) ∧ Below bb wr (w5.setCell ⟨bb, 4, none⟩ (.slice (some ⟨g5, 0, none⟩) (X.length + 1) cap5)) := by
  have hb5 : Below bb wr w5 := HBW.out.trans ((show Below bb W3 W3.drew from ⟨rfl, rfl, rfl, Nat.le_refl _, fun _ _ => rfl⟩).trans (HB5.out.mono (by omega)))
  have hbs := hb5.setCell (p := ⟨bb, 4, none⟩) (Nat.le_refl _) (.slice (some ⟨g5, 0, none⟩) (X.length + 1) cap5)
  have hsame : ∀ j, bb + 1 ≤ j → (w5.setCell ⟨bb, 4, none⟩ (.slice (some ⟨g5, 0, none⟩) (X.length + 1) cap5)).heap[j]? = w5.heap[j]? := fun j hj => heap_setCell_other _ _ _ _ (by simp <;> omega)
  refine ⟨⟨hwb, HBEL.out.trans (hbs.mono hwb), A2, c2, some ⟨g5, 0, none⟩, cap5, us ++ [.slice none 0 0], ?_, Or.inr ?_, ?_⟩, hbs⟩
  ·have := set_at4 (v4 := .slice (some ⟨g5, 0, none⟩) (X.length + 1) cap5) HQ5.out
   simpa using this
  ·exact ((HU3.out.ext (Below.refl _ _).drew).keptT (by decide) (by decide) HOWd.out.outer HG5.out).same hsame
  ·have := HO5.out.same hsame
   simpa using this
 have HFIN := Lib.hid hfin
 clear hfin
 go_wp2
 go_end0
 exact ⟨rfl, HFIN.out.1, HFIN.out.2⟩
end Go.Proofs.YtjdbfokbgmbphaaGreatDoor
