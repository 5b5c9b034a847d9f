/- One column of an elimination on lists of rows, and a second list of rows carried along. Conditions: 2 ≤ p; entries in 0..p-1. | What a column's step keeps: the annihilator, what the rows carried along mean, that they span. Plain terms. Condition: iv is the inverse of the entry. | The whole elimination on lists of rows, with rows carried along: its answer is reduced; what it keeps. Conditions: p is one of the fields; entries in 0..p-1. | The reduced list of a list of rows: it depends on the annihilator alone. Conditions: p is one of the fields; entries in 0..p-1. | The program's kernel and orthogonal list, in plain terms. Conditions: p is one of the fields; entries in 0..p-1. | The reference's null rows, and: both canonical lists are the same. Plain terms. Conditions: p is one of the fields; entries in 0..p-1. | Taking the first columns out of each row, in the program's way. Plain terms. -/
import Derived.Test.YtjdbfokbgmbphaaGreatDoorPk41
import Derived.Test.YtjdbfokbgmbphaaGreatDoorPk34
namespace Go.Proofs.YtjdbfokbgmbphaaGreatDoor
set_option linter.unusedVariables false
set_option linter.unusedSimpArgs false
open Go.RowKit
def eM (M : List (List Int)) (i d : Nat) : Int := (M.getD i []).getD d 0
def Shp (p : Int) (N n : Nat) (M : List (List Int)) : Prop := M.length = N ∧ (∀ i, i < N → (M.getD i []).length = n) ∧ ∀ i d, i < N → d < n → 0 ≤ eM M i d ∧ eM M i d < p
theorem getD_set1 {M : List (List Int)} {a i : Nat} {r : List Int} (ha : a < M.length) : (M.set a r).getD i [] = if i = a then r else M.getD i [] := by
 rw [List.getD_eq_getElem?_getD, List.getElem?_set]
 by_cases h : a = i
 ·subst h; rw [if_pos rfl, if_pos ha, if_pos rfl]; rfl
 ·rw [if_neg h, if_neg (Ne.symm h), List.getD_eq_getElem?_getD]
theorem eM_set {M : List (List Int)} {a i d : Nat} {r : List Int} (ha : a < M.length) : eM (M.set a r) i d = if i = a then r.getD d 0 else eM M i d := by
 unfold eM
 rw [getD_set1 ha]
 split <;> rfl
theorem mulRow_ent {p f : Int} {xs : List Int} {d : Nat} (hd : d < xs.length) : (mulRow p f xs).getD d 0 = xs.getD d 0 * f % p := by
 unfold mulRow
 obtain ⟨x, hx⟩ := get_of_lt hd
 rw [List.getD_eq_getElem?_getD, List.getElem?_map, List.getD_eq_getElem?_getD, hx]; rfl
/-- A row of the right shape in place of another one. -/
theorem Shp.set {p : Int} {N n a : Nat} {M : List (List Int)} {r : List Int} (h : Shp p N n M) (ha : a < N) (hl : r.length = n) (hb : ∀ d, d < n → 0 ≤ r.getD d 0 ∧ r.getD d 0 < p) : Shp p N n (M.set a r) := by
 have ha' : a < M.length := by rw [h.1]; exact ha
 refine ⟨by rw [List.length_set]; exact h.1, fun i hi => ?_, fun i d hi hd => ?_⟩
 ·rw [getD_set1 ha']; split
  ·exact hl
  ·exact h.2.1 i hi
 ·rw [eM_set ha']; split
  ·exact hb d hd
  ·exact h.2.2 i d hi hd
def swL (M : List (List Int)) (a b : Nat) : List (List Int) := (M.set a (M.getD b [])).set b (M.getD a [])
def scL (p f : Int) (M : List (List Int)) (r : Nat) : List (List Int) := M.set r (mulRow p f (M.getD r []))
def clrL (p : Int) (r c : Nat) : Nat → List (List Int) × List (List Int) → List (List Int) × List (List Int)
 | 0, q => q
 | i + 1, q => if i ≠ r ∧ eM (clrL p r c i q).1 i c ≠ 0 then
   ((clrL p r c i q).1.set i (addRow p (-(eM (clrL p r c i q).1 i c)) ((clrL p r c i q).1.getD i []) ((clrL p r c i q).1.getD r [])),
    (clrL p r c i q).2.set i (addRow p (-(eM (clrL p r c i q).1 i c)) ((clrL p r c i q).2.getD i []) ((clrL p r c i q).2.getD r [])))
  else clrL p r c i q
def colL (p : Int) (r k c : Nat) (q : List (List Int) × List (List Int)) : List (List Int) × List (List Int) :=
 clrL p r c q.1.length (scL p (invP p (eM (swL q.1 r k) r c)) (swL q.1 r k) r, scL p (invP p (eM (swL q.1 r k) r c)) (swL q.2 r k) r)
theorem swL_shp {p : Int} {N n r k : Nat} {M : List (List Int)} (h : Shp p N n M) (hr : r < N) (hk : k < N) : Shp p N n (swL M r k) :=
 (h.set hr (h.2.1 k hk) (fun d hd => h.2.2 k d hk hd)).set hk (h.2.1 r hr) (fun d hd => h.2.2 r d hr hd)
theorem swL_e {p : Int} {N n r k i d : Nat} {M : List (List Int)} (h : Shp p N n M) (hr : r < N) (hk : k < N) : eM (swL M r k) i d = eM M (swN r k i) d := by
 unfold swL
 rw [eM_set (by rw [List.length_set, h.1]; exact hk), eM_set (by rw [h.1]; exact hr)]
 unfold swN
 by_cases h1 : i = k
 ·subst h1
  rw [if_pos rfl]
  by_cases h2 : i = r
  ·subst h2; rw [if_pos rfl]; rfl
  ·rw [if_neg h2, if_pos rfl]; rfl
 ·rw [if_neg h1]
  by_cases h2 : i = r
  ·rw [if_pos h2, if_pos h2]; rfl
  ·rw [if_neg h2, if_neg h2, if_neg h1]
theorem scL_shp {p f : Int} {N n r : Nat} {M : List (List Int)} (h2 : 2 ≤ p) (h : Shp p N n M) (hr : r < N) : Shp p N n (scL p f M r) := by
 refine h.set hr (by rw [mulRow, List.length_map]; exact h.2.1 r hr) (fun d hd => ?_)
 rw [mulRow_ent (by rw [h.2.1 r hr]; exact hd)]
 exact ⟨Int.emod_nonneg _ (by omega), Int.emod_lt_of_pos _ (by omega)⟩
theorem scL_e {p f : Int} {N n r i d : Nat} {M : List (List Int)} (h : Shp p N n M) (hr : r < N) (hd : d < n) : eM (scL p f M r) i d = if i = r then eM M r d * f % p else eM M i d := by
 unfold scL
 rw [eM_set (by rw [h.1]; exact hr)]
 split
 ·rw [mulRow_ent (by rw [h.2.1 r hr]; exact hd)]; rfl
 ·rfl
/-- What the clearing of the first i rows has made. -/
structure ClrL (p : Int) (N n n2 r c : Nat) (q z : List (List Int) × List (List Int)) (i : Nat) : Prop where
 s1 : Shp p N n z.1
 s2 : Shp p N n2 z.2
 e1 : ∀ j d, j < N → d < n → eM z.1 j d = if j < i ∧ j ≠ r then (eM q.1 j d - eM q.1 j c * eM q.1 r d) % p else eM q.1 j d
 e2 : ∀ j d, j < N → d < n2 → eM z.2 j d = if j < i ∧ j ≠ r then (eM q.2 j d - eM q.1 j c * eM q.2 r d) % p else eM q.2 j d
theorem add_row {p : Int} {N n i r : Nat} {f : Int} {M : List (List Int)} (h2 : 2 ≤ p) (h : Shp p N n M) (hi : i < N) (hr : r < N) :
  Shp p N n (M.set i (addRow p f (M.getD i []) (M.getD r []))) ∧ ∀ j d, d < n → eM (M.set i (addRow p f (M.getD i []) (M.getD r []))) j d = if j = i then (eM M i d + f * eM M r d) % p else eM M j d := by
 have hl : (M.getD i []).length = (M.getD r []).length := by rw [h.2.1 i hi, h.2.1 r hr]
 have he : ∀ d, d < n → (addRow p f (M.getD i []) (M.getD r [])).getD d 0 = (eM M i d + f * eM M r d) % p := fun d hd => addRow_ent hl (by rw [h.2.1 i hi]; exact hd)
 refine ⟨h.set hi (by rw [addRow_len, h.2.1 i hi, h.2.1 r hr]; omega) (fun d hd => ?_), fun j d hd => ?_⟩
 ·rw [he d hd]
  exact ⟨Int.emod_nonneg _ (by omega), Int.emod_lt_of_pos _ (by omega)⟩
 ·rw [eM_set (by rw [h.1]; exact hi)]
  split
  ·exact he d hd
  ·rfl
theorem clrL_all {p : Int} {N n n2 r c : Nat} {q : List (List Int) × List (List Int)} (h2 : 2 ≤ p) (s1 : Shp p N n q.1) (s2 : Shp p N n2 q.2) (hr : r < N) (hc : c < n) : ∀ i, i ≤ N → ClrL p N n n2 r c q (clrL p r c i q) i
 | 0, _ => ⟨s1, s2, fun j d _ _ => by rw [if_neg (by omega)]; rfl, fun j d _ _ => by rw [if_neg (by omega)]; rfl⟩
 | i + 1, hi => by
  have ih := clrL_all h2 s1 s2 hr hc i (by omega)
  obtain ⟨z, hz⟩ : ∃ z, z = clrL p r c i q := ⟨_, rfl⟩
  unfold clrL
  rw [← hz] at ih ⊢
  have hic : eM z.1 i c = eM q.1 i c := by rw [ih.e1 i c (by omega) hc, if_neg (by omega)]
  have hr1 : ∀ d, d < n → eM z.1 r d = eM q.1 r d := fun d hd => by rw [ih.e1 r d hr hd, if_neg (by omega)]
  have hr2 : ∀ d, d < n2 → eM z.2 r d = eM q.2 r d := fun d hd => by rw [ih.e2 r d hr hd, if_neg (by omega)]
  split
  ·rename_i hif
   obtain ⟨a1, a2⟩ := add_row (f := -(eM z.1 i c)) h2 ih.s1 (show i < N by omega) hr
   obtain ⟨b1, b2⟩ := add_row (f := -(eM z.1 i c)) h2 ih.s2 (show i < N by omega) hr
   refine ⟨a1, b1, fun j d hj hd => ?_, fun j d hj hd => ?_⟩
   ·rw [a2 j d hd]
    by_cases e : j = i
    ·subst e
     rw [if_pos rfl, if_pos ⟨by omega, hif.1⟩, ih.e1 j d hj hd, if_neg (by omega), hr1 d hd, hic, Int.neg_mul, ← Int.sub_eq_add_neg]
    ·rw [if_neg e, ih.e1 j d hj hd]
     by_cases h3 : j < i ∧ j ≠ r
     ·rw [if_pos h3, if_pos ⟨by omega, h3.2⟩]
     ·rw [if_neg h3, if_neg (by omega)]
   ·rw [b2 j d hd]
    by_cases e : j = i
    ·subst e
     rw [if_pos rfl, if_pos ⟨by omega, hif.1⟩, ih.e2 j d hj hd, if_neg (by omega), hr2 d hd, hic, Int.neg_mul, ← Int.sub_eq_add_neg]
    ·rw [if_neg e, ih.e2 j d hj hd]
     by_cases h3 : j < i ∧ j ≠ r
     ·rw [if_pos h3, if_pos ⟨by omega, h3.2⟩]
     ·rw [if_neg h3, if_neg (by omega)]
  ·rename_i hif
   have h0 : i ≠ r → eM q.1 i c = 0 := fun hne => by
    rw [← hic]
    exact Classical.byContradiction fun h => hif ⟨hne, h⟩
   refine ⟨ih.s1, ih.s2, fun j d hj hd => ?_, fun j d hj hd => ?_⟩
   ·rw [ih.e1 j d hj hd]
    by_cases e : j = i
    ·subst e
     rw [if_neg (by omega)]
     by_cases hne : j = r
     ·rw [if_neg (by omega)]
     ·have := s1.2.2 j d hj hd
      rw [if_pos ⟨by omega, hne⟩, h0 hne, Int.zero_mul, Int.sub_zero, Int.emod_eq_of_lt this.1 this.2]
    ·by_cases h3 : j < i ∧ j ≠ r
     ·rw [if_pos h3, if_pos ⟨by omega, h3.2⟩]
     ·rw [if_neg h3, if_neg (by omega)]
   ·rw [ih.e2 j d hj hd]
    by_cases e : j = i
    ·subst e
     rw [if_neg (by omega)]
     by_cases hne : j = r
     ·rw [if_neg (by omega)]
     ·have := s2.2.2 j d hj hd
      rw [if_pos ⟨by omega, hne⟩, h0 hne, Int.zero_mul, Int.sub_zero, Int.emod_eq_of_lt this.1 this.2]
    ·by_cases h3 : j < i ∧ j ≠ r
     ·rw [if_pos h3, if_pos ⟨by omega, h3.2⟩]
     ·rw [if_neg h3, if_neg (by omega)]
/-- A column's step is stepM. -/
theorem colL_e {p : Int} {N n n2 r k c : Nat} {q : List (List Int) × List (List Int)} (h2 : 2 ≤ p) (s1 : Shp p N n q.1) (s2 : Shp p N n2 q.2) (hr : r < N) (hk : k < N) (hc : c < n) :
  Shp p N n (colL p r k c q).1 ∧ Shp p N n2 (colL p r k c q).2 ∧
  (∀ i d, i < N → d < n → eM (colL p r k c q).1 i d = stepM p r k c (invP p (eM q.1 k c)) (eM q.1) (eM q.1) i d) ∧
  (∀ i d, i < N → d < n2 → eM (colL p r k c q).2 i d = stepM p r k c (invP p (eM q.1 k c)) (eM q.1) (eM q.2) i d) := by
 have hiv : eM (swL q.1 r k) r c = eM q.1 k c := by rw [swL_e s1 hr hk, swN_self]
 have w1 := swL_shp s1 hr hk
 have w2 := swL_shp s2 hr hk
 have z := clrL_all (r := r) (c := c) (q := (scL p (invP p (eM q.1 k c)) (swL q.1 r k) r, scL p (invP p (eM q.1 k c)) (swL q.2 r k) r)) h2 (scL_shp h2 w1 hr) (scL_shp h2 w2 hr) hr hc N (Nat.le_refl _)
 unfold colL
 rw [hiv, s1.1]
 refine ⟨z.s1, z.s2, fun i d hi hd => ?_, fun i d hi hd => ?_⟩
 ·rw [z.e1 i d hi hd]
  dsimp only
  rw [scL_e w1 hr hd, scL_e w1 hr hc, scL_e w1 hr hd]
  unfold stepM
  by_cases e : i = r
  ·subst e
   rw [if_neg (by omega), if_pos rfl, if_pos rfl, swL_e s1 hr hk, swN_self]
  ·rw [if_pos ⟨hi, e⟩, if_neg e, if_neg e, if_neg e, if_pos rfl, swL_e s1 hr hk, swL_e s1 hr hk, swL_e s1 hr hk, swN_self]
 ·rw [z.e2 i d hi hd]
  dsimp only
  rw [scL_e w2 hr hd, scL_e w1 hr hc, scL_e w2 hr hd]
  unfold stepM
  by_cases e : i = r
  ·subst e
   rw [if_neg (by omega), if_pos rfl, if_pos rfl, swL_e s2 hr hk, swN_self]
  ·rw [if_pos ⟨hi, e⟩, if_neg e, if_neg e, if_neg e, if_pos rfl, swL_e s1 hr hk, swL_e s2 hr hk, swL_e s2 hr hk, swN_self]
theorem emod_dvd (a p : Int) : p ∣ a % p - a := ⟨-(a / p), by rw [Int.mul_neg]; have := Int.emod_add_mul_ediv a p; omega⟩
section
variable {p : Int} {r k c : Nat} {iv : Int} {M X : Nat → Nat → Int}
theorem linTo_ent (d : Nat) : LinTo p r k iv (fun i => M i c) (fun i => X i d) (fun i => stepM p r k c iv M X i d) := by
 have hr : stepM p r k c iv M X r d = X k d * iv % p := by unfold stepM; rw [if_pos rfl]
 refine ⟨?_, fun i hi => ?_⟩
 ·try dsimp only
  rw [hr]; exact emod_dvd _ _
 ·try dsimp only
  rw [hr]
  unfold stepM
  rw [if_neg hi]; exact emod_dvd _ _
theorem LinTo.add {g f f' h h' : Nat → Int} (a : LinTo p r k iv g f f') (b : LinTo p r k iv g h h') : LinTo p r k iv g (fun i => f i + h i) (fun i => f' i + h' i) := by
 refine ⟨?_, fun i hi => ?_⟩
 ·have := Int.dvd_add a.top b.top
  try dsimp only
  rwa [show f' r - f k * iv + (h' r - h k * iv) = f' r + h' r - (f k + h k) * iv by rw [Int.add_mul]; omega] at this
 ·have := Int.dvd_add (a.oth i hi) (b.oth i hi)
  try dsimp only
  rwa [show f' i - (f (swN r k i) - g (swN r k i) * f' r) + (h' i - (h (swN r k i) - g (swN r k i) * h' r)) = f' i + h' i - (f (swN r k i) + h (swN r k i) - g (swN r k i) * (f' r + h' r)) by rw [Int.mul_add]; omega] at this
theorem LinTo.mul {g f f' : Nat → Int} (a : LinTo p r k iv g f f') (x : Int) : LinTo p r k iv g (fun i => f i * x) (fun i => f' i * x) := by
 refine ⟨?_, fun i hi => ?_⟩
 ·have := Int.dvd_trans a.top (⟨x, rfl⟩ : f' r - f k * iv ∣ (f' r - f k * iv) * x)
  try dsimp only
  rwa [Int.sub_mul, Int.mul_right_comm] at this
 ·have := Int.dvd_trans (a.oth i hi) (⟨x, rfl⟩ : f' i - (f (swN r k i) - g (swN r k i) * f' r) ∣ (f' i - (f (swN r k i) - g (swN r k i) * f' r)) * x)
  try dsimp only
  rwa [Int.sub_mul, Int.sub_mul, Int.mul_assoc (g (swN r k i))] at this
theorem LinTo.zero (g : Nat → Int) : LinTo p r k iv g (fun _ => 0) (fun _ => 0) := ⟨⟨0, by simp⟩, fun i _ => ⟨0, by simp⟩⟩
theorem linTo_sum (x : Nat → Int) : ∀ (n : Nat), LinTo p r k iv (fun i => M i c) (fun i => sumN (fun d => X i d * x d) n) (fun i => sumN (fun d => stepM p r k c iv M X i d * x d) n)
 | 0 => LinTo.zero _
 | n + 1 => (linTo_sum x n).add ((linTo_ent n).mul (x n))
/-- (A) The annihilator is kept. -/
theorem step_ann {n N : Nat} (hr : r < N) (hk : k < N) (hb : p ∣ M k c * iv - 1) (x : Nat → Int) :
  (∀ i, i < N → p ∣ sumN (fun d => X i d * x d) n) ↔ (∀ i, i < N → p ∣ sumN (fun d => stepM p r k c iv M X i d * x d) n) :=
 ⟨fun h => (linTo_sum x n).all hr hk h, fun h => (linTo_sum x n).back hr hk hb h⟩
/-- (B) The rows are still what the rows carried along say. -/
theorem step_mul {n N n2 : Nat} {G : Nat → Nat → Int} (hr : r < N) (hk : k < N) (h : ∀ i, i < N → ∀ d, d < n → p ∣ M i d - sumN (fun j => X i j * G j d) n2) :
  ∀ i, i < N → ∀ d, d < n → p ∣ stepM p r k c iv M M i d - sumN (fun j => stepM p r k c iv M X i j * G j d) n2 := by
 intro i hi d hd
 have L := (linTo_ent (p := p) (r := r) (k := k) (c := c) (iv := iv) (M := M) (X := M) d).add ((linTo_sum (p := p) (r := r) (k := k) (c := c) (iv := iv) (M := M) (X := X) (fun j => G j d) n2).mul (-1))
 have := L.all hr hk (fun i hi => by
  have := h i hi d hd
  try dsimp only
  rwa [show M i d + sumN (fun j => X i j * G j d) n2 * -1 = M i d - sumN (fun j => X i j * G j d) n2 by omega]) i hi
 try dsimp only at this
 rwa [show stepM p r k c iv M M i d + sumN (fun j => stepM p r k c iv M X i j * G j d) n2 * -1 = stepM p r k c iv M M i d - sumN (fun j => stepM p r k c iv M X i j * G j d) n2 by omega] at this
end
theorem sumN_single (a : Nat → Int) {k n : Nat} (hk : k < n) : sumN (fun i => if i = k then a i else 0) n = a k := by
 rw [sumN_one hk (fun c _ hne => if_neg hne), if_pos rfl]
theorem sumN_swN (f : Nat → Int) {r k N : Nat} (hr : r < N) (hk : k < N) : sumN (fun i => f (swN r k i)) N = sumN f N := by
 by_cases h : r = k
 ·subst h
  exact sumN_congr fun c _ => by unfold swN; split <;> (try split) <;> simp_all
 ·have e : ∀ i, i < N → f (swN r k i) = f i + ((if i = r then f k - f r else 0) + (if i = k then f r - f k else 0)) := fun i _ => by
   unfold swN
   by_cases h1 : i = r
   ·subst h1; rw [if_pos rfl, if_pos rfl, if_neg h]; omega
   ·by_cases h2 : i = k
    ·subst h2; rw [if_neg h1, if_pos rfl, if_neg h1, if_pos rfl]; omega
    ·rw [if_neg h1, if_neg h2, if_neg h1, if_neg h2]; omega
  rw [sumN_congr e, sumN_add, sumN_add, sumN_single (fun _ => f k - f r) hr, sumN_single (fun _ => f r - f k) hk]
  omega
/-- (C) The rows carried along still span. -/
theorem step_all {p : Int} {r k c N n2 : Nat} {iv : Int} {M X : Nat → Nat → Int} (hr : r < N) (hk : k < N) (hb : p ∣ M k c * iv - 1)
  (h : ∀ x : Nat → Int, ∃ y : Nat → Int, ∀ j, j < n2 → p ∣ x j - sumN (fun i => y i * X i j) N) :
  ∀ x : Nat → Int, ∃ y : Nat → Int, ∀ j, j < n2 → p ∣ x j - sumN (fun i => y i * stepM p r k c iv M X i j) N := by
 intro x
 obtain ⟨y, hy⟩ := h x
 obtain ⟨S, hS⟩ : ∃ S, S = sumN (fun i => if i = r then 0 else y (swN r k i) * M (swN r k i) c) N := ⟨_, rfl⟩
 refine ⟨fun i => if i = r then M k c * y k + S else y (swN r k i), fun j hj => ?_⟩
 have L := linTo_ent (p := p) (r := r) (k := k) (c := c) (iv := iv) (M := M) (X := X) j
 obtain ⟨F, hF⟩ : ∃ F : Nat → Int, F = fun i => stepM p r k c iv M X i j := ⟨_, rfl⟩
 have LF : LinTo p r k iv (fun i => M i c) (fun i => X i j) F := by rw [hF]; exact L
 have hFi : ∀ i, stepM p r k c iv M X i j = F i := fun i => by rw [hF]
 -- the new combination, term by term
 have t1 : ∀ i, i < N → p ∣ (if i = r then M k c * y k + S else y (swN r k i)) * F i - (y (swN r k i) * X (swN r k i) j + ((if i = r then S * F r else 0) + -1 * ((if i = r then 0 else y (swN r k i) * M (swN r k i) c) * F r))) := by
  intro i hi
  by_cases e : i = r
  ·subst e
   rw [if_pos rfl, if_pos rfl, if_pos rfl, swN_self]
   have h1 := Int.dvd_trans LF.top (⟨M k c * y k, rfl⟩ : F i - X k j * iv ∣ (F i - X k j * iv) * (M k c * y k))
   have h2 := Int.dvd_trans hb (⟨X k j * y k, rfl⟩ : M k c * iv - 1 ∣ (M k c * iv - 1) * (X k j * y k))
   have h3 := Int.dvd_add h1 h2
   rwa [show (F i - X k j * iv) * (M k c * y k) + (M k c * iv - 1) * (X k j * y k) = (M k c * y k + S) * F i - (y k * X k j + (S * F i + -1 * (0 * F i))) from by grind] at h3
  ·rw [if_neg e, if_neg e, if_neg e]
   have h1 := Int.dvd_trans (LF.oth i e) (⟨y (swN r k i), rfl⟩ : F i - (X (swN r k i) j - M (swN r k i) c * F r) ∣ (F i - (X (swN r k i) j - M (swN r k i) c * F r)) * y (swN r k i))
   rwa [show (F i - (X (swN r k i) j - M (swN r k i) c * F r)) * y (swN r k i) = y (swN r k i) * F i - (y (swN r k i) * X (swN r k i) j + (0 + -1 * (y (swN r k i) * M (swN r k i) c * F r))) from by grind] at h1
 have t2 := sumN_dvd_sub t1
 rw [sumN_add, sumN_add, sumN_single (fun _ => S * F r) hr, sumN_mul, sumN_mul_right, ← hS, sumN_swN (fun i => y i * X i j) hr hk] at t2
 have t3 := Int.dvd_sub (hy j hj) t2
 rw [show sumN (fun i => (if i = r then M k c * y k + S else y (swN r k i)) * stepM p r k c iv M X i j) N = sumN (fun i => (if i = r then M k c * y k + S else y (swN r k i)) * F i) N from sumN_congr fun i _ => by rw [hFi]]
 rwa [show ∀ a b d e : Int, a - b - (d - (b + (e + -1 * e))) = a - d from fun a b d e => by omega] at t3
def fstL (M : List (List Int)) (c r : Nat) : Nat := firstR ⟨0, 0, M⟩ c r
theorem fstL_spec (M : List (List Int)) (c r : Nat) (hr : r ≤ M.length) : r ≤ fstL M c r ∧ fstL M c r ≤ M.length ∧ (∀ j, r ≤ j → j < fstL M c r → eM M j c = 0) ∧ (fstL M c r < M.length → eM M (fstL M c r) c ≠ 0) := firstR_spec ⟨0, 0, M⟩ c r hr
def elimL (p : Int) : Nat → Nat → Nat × (List (List Int) × List (List Int)) → Nat × (List (List Int) × List (List Int))
 | 0, _, z => z
 | m + 1, c, z => if z.1 < z.2.1.length then elimL p m (c + 1) (if fstL z.2.1 c z.1 = z.2.1.length then z else (z.1 + 1, colL p z.1 (fstL z.2.1 c z.1) c z.2)) else z
theorem inve_congr {p : Int} {n N r c : Nat} {A B : Nat → Nat → Int} {l : Nat → Nat} (h : InvE p n N A r c l) (e : ∀ i d, i < N → d < n → B i d = A i d) : InvE p n N B r c l :=
 ⟨fun i d hi hd => by rw [e i d hi hd]; exact h.bd i d hi hd, h.rN, h.cn, h.lt, h.inc,
  fun i hi => by have := h.lt i hi; have := h.cn; have := h.rN; rw [e i _ (by omega) (by omega)]; exact h.one i hi,
  fun i d hi hd => by have := h.lt i hi; have := h.cn; have := h.rN; rw [e i d (by omega) (by omega)]; exact h.low i d hi hd,
  fun i j hi hj hne => by have := h.lt i hi; have := h.cn; rw [e j _ hj (by omega)]; exact h.col i j hi hj hne,
  fun j d hj hjn hd => by have := h.cn; rw [e j d hjn (by omega)]; exact h.z j d hj hjn hd⟩
/-- What holds in front of the column c. -/
structure ElimAt (p : Int) (N n n2 : Nat) (M0 X0 : List (List Int)) (c : Nat) (z : Nat × (List (List Int) × List (List Int))) : Prop where
 s1 : Shp p N n z.2.1
 s2 : Shp p N n2 z.2.2
 inv : ∃ l, InvE p n N (eM z.2.1) z.1 c l
 ann : ∀ x : Nat → Int, (∀ i, i < N → p ∣ sumN (fun d => eM M0 i d * x d) n) ↔ (∀ i, i < N → p ∣ sumN (fun d => eM z.2.1 i d * x d) n)
 mul : ∀ G : Nat → Nat → Int, (∀ i, i < N → ∀ d, d < n → p ∣ eM M0 i d - sumN (fun j => eM X0 i j * G j d) n2) → ∀ i, i < N → ∀ d, d < n → p ∣ eM z.2.1 i d - sumN (fun j => eM z.2.2 i j * G j d) n2
 all : (∀ x : Nat → Int, ∃ y : Nat → Int, ∀ j, j < n2 → p ∣ x j - sumN (fun i => y i * eM X0 i j) N) → ∀ x : Nat → Int, ∃ y : Nat → Int, ∀ j, j < n2 → p ∣ x j - sumN (fun i => y i * eM z.2.2 i j) N
theorem elim_start {p : Int} {N n n2 : Nat} {M X : List (List Int)} (s1 : Shp p N n M) (s2 : Shp p N n2 X) : ElimAt p N n n2 M X 0 (0, (M, X)) :=
 ⟨s1, s2, ⟨_, inve_start s1.2.2⟩, fun _ => Iff.rfl, fun _ h => h, fun h => h⟩
theorem elim_step {p : Int} {N n n2 c : Nat} {M0 X0 : List (List Int)} {z : Nat × (List (List Int) × List (List Int))} (hf : fieldB p = true) (h2 : 2 ≤ p) (h : ElimAt p N n n2 M0 X0 c z) (hc : c < n) :
  ElimAt p N n n2 M0 X0 (c + 1) (if fstL z.2.1 c z.1 = z.2.1.length then z else (z.1 + 1, colL p z.1 (fstL z.2.1 c z.1) c z.2)) := by
 obtain ⟨l, hi⟩ := h.inv
 have hl := h.s1.1
 obtain ⟨f1, f2, f3, f4⟩ := fstL_spec z.2.1 c z.1 (by rw [hl]; exact hi.rN)
 obtain ⟨k, hk⟩ : ∃ k, k = fstL z.2.1 c z.1 := ⟨_, rfl⟩
 rw [← hk] at f1 f2 f3 f4 ⊢
 split
 ·rename_i e
  exact ⟨h.s1, h.s2, ⟨l, inve_none hi hc (fun j h1 h3 => f3 j h1 (by omega))⟩, h.ann, h.mul, h.all⟩
 ·rename_i e
  have hkN : k < N := by omega
  have hrN : z.1 < N := by omega
  have hb := h.s1.2.2 k c hkN hc
  have hne := f4 (by omega)
  obtain ⟨i1, _, _⟩ := inv_spec hf (show 1 ≤ eM z.2.1 k c by omega) hb.2
  have hdv : p ∣ eM z.2.1 k c * invP p (eM z.2.1 k c) - 1 := by
   have := emod_dvd (eM z.2.1 k c * invP p (eM z.2.1 k c)) p
   rw [i1] at this
   have := Int.dvd_neg.2 this
   rwa [show -(1 - eM z.2.1 k c * invP p (eM z.2.1 k c)) = eM z.2.1 k c * invP p (eM z.2.1 k c) - 1 by omega] at this
  obtain ⟨c1, c2, c3, c4⟩ := colL_e (r := z.1) (k := k) (c := c) h2 h.s1 h.s2 hrN hkN hc
  refine ⟨c1, c2, ⟨_, inve_congr (inve_step h2 hi hc f1 hkN i1) c3⟩, fun x => ?_, fun G hG => ?_, fun hA => ?_⟩
  ·refine (h.ann x).trans ((step_ann hrN hkN hdv x).trans ⟨fun h5 i hi' => ?_, fun h5 i hi' => ?_⟩)
   ·have := h5 i hi'
    rwa [sumN_congr (fun d hd => by rw [← c3 i d hi' hd])] at this
   ·have := h5 i hi'
    dsimp only at this
    rwa [sumN_congr (fun d hd => by rw [c3 i d hi' hd])] at this
  ·intro i hi' d hd
   have := step_mul (c := c) (iv := invP p (eM z.2.1 k c)) hrN hkN (h.mul G hG) i hi' d hd
   dsimp only
   rw [c3 i d hi' hd, sumN_congr (fun j hj => by rw [c4 i j hi' hj])]
   exact this
  ·intro x
   obtain ⟨y, hy⟩ := step_all (c := c) (iv := invP p (eM z.2.1 k c)) hrN hkN hdv (h.all hA) x
   refine ⟨y, fun j hj => ?_⟩
   have := hy j hj
   dsimp only
   rw [sumN_congr (fun i hi' => by rw [c4 i j hi' hj])]
   exact this
theorem elim_all {p : Int} {N n n2 : Nat} {M0 X0 : List (List Int)} (hf : fieldB p = true) (h2 : 2 ≤ p) : ∀ (m c : Nat) (z : Nat × (List (List Int) × List (List Int))), ElimAt p N n n2 M0 X0 c z → c + m = n →
  ∃ c', ElimAt p N n n2 M0 X0 c' (elimL p m c z) ∧ (c' = n ∨ (elimL p m c z).1 = N)
 | 0, c, z, h, hm => ⟨c, h, Or.inl hm⟩
 | m + 1, c, z, h, hm => by
  unfold elimL
  split
  ·exact elim_all hf h2 m (c + 1) _ (elim_step hf h2 h (by omega)) (by omega)
  ·rename_i hr
   obtain ⟨l, hi⟩ := h.inv
   have := hi.rN
   have := h.s1.1
   exact ⟨c, h, Or.inr (by omega)⟩
/-- The elimination's answer. -/
def elimQ (p : Int) (n : Nat) (M X : List (List Int)) : Nat × (List (List Int) × List (List Int)) := elimL p n 0 (0, (M, X))
theorem elimQ_spec {p : Int} {N n n2 : Nat} {M X : List (List Int)} (hf : fieldB p = true) (h2 : 2 ≤ p) (s1 : Shp p N n M) (s2 : Shp p N n2 X) :
  ∃ c l, ElimAt p N n n2 M X c (elimQ p n M X) ∧ (elimQ p n M X).1 ≤ N ∧ RedF p n (elimQ p n M X).1 (eM (elimQ p n M X).2.1) l ∧ ∀ i, (elimQ p n M X).1 ≤ i → i < N → ∀ d, d < n → eM (elimQ p n M X).2.1 i d = 0 := by
 obtain ⟨c, h1, h3⟩ := elim_all hf h2 n 0 (0, (M, X)) (elim_start s1 s2) (by omega)
 obtain ⟨l, hi⟩ := h1.inv
 exact ⟨c, l, h1, hi.rN, inve_red hi, inve_zero hi h3⟩
theorem shp_nil (p : Int) (N : Nat) : Shp p N 0 (List.replicate N []) :=
 ⟨List.length_replicate, fun i hi => by rw [List.getD_eq_getElem?_getD, List.getElem?_replicate, if_pos hi]; rfl, fun i d _ hd => by omega⟩
theorem eM_take {M : List (List Int)} {r i d : Nat} (hi : i < r) : eM (M.take r) i d = eM M i d := by
 unfold eM
 rw [List.getD_eq_getElem?_getD (l := M.take r), List.getElem?_take, if_pos hi, List.getD_eq_getElem?_getD (l := M)]
theorem Shp.take {p : Int} {N n r : Nat} {M : List (List Int)} (h : Shp p N n M) (hr : r ≤ N) : Shp p r n (M.take r) := by
 refine ⟨by rw [List.length_take, h.1]; omega, fun i hi => ?_, fun i d hi hd => ?_⟩
 ·rw [List.getD_eq_getElem?_getD, List.getElem?_take, if_pos hi, ← List.getD_eq_getElem?_getD]
  exact h.2.1 i (by omega)
 ·rw [eM_take hi]; exact h.2.2 i d (by omega) hd
theorem shp_ext {p : Int} {r n : Nat} {A B : List (List Int)} (hA : Shp p r n A) (hB : Shp p r n B) (h : ∀ i, i < r → ∀ d, d < n → eM A i d = eM B i d) : A = B := by
 apply List.ext_getElem?
 intro i
 by_cases hi : i < r
 ·obtain ⟨a, ha⟩ := get_of_lt (show i < A.length by rw [hA.1]; exact hi)
  obtain ⟨b, hb⟩ := get_of_lt (show i < B.length by rw [hB.1]; exact hi)
  have la := hA.2.1 i hi
  have lb := hB.2.1 i hi
  rw [List.getD_eq_getElem?_getD, ha] at la
  rw [List.getD_eq_getElem?_getD, hb] at lb
  rw [ha, hb]
  have : a = b := by
   apply List.ext_getElem?
   intro d
   by_cases hd : d < n
   ·have e := h i hi d hd
    unfold eM at e
    rw [List.getD_eq_getElem?_getD (l := A), ha, List.getD_eq_getElem?_getD (l := B), hb] at e
    obtain ⟨x, hx⟩ := get_of_lt (show d < a.length by simpa using (by have : a.length = n := la; omega : d < a.length))
    obtain ⟨y, hy⟩ := get_of_lt (show d < b.length by simpa using (by have : b.length = n := lb; omega : d < b.length))
    simp only [Option.getD_some, List.getD_eq_getElem?_getD, hx, hy] at e
    rw [hx, hy, e]
   ·rw [List.getElem?_eq_none (by have : a.length = n := la; omega), List.getElem?_eq_none (by have : b.length = n := lb; omega)]
  rw [this]
 ·rw [List.getElem?_eq_none (by rw [hA.1]; omega), List.getElem?_eq_none (by rw [hB.1]; omega)]
def redI (p : Int) (n : Nat) (M : List (List Int)) : List (List Int) := (elimQ p n M (List.replicate M.length [])).2.1.take (elimQ p n M (List.replicate M.length [])).1
theorem redI_spec {p : Int} {N n : Nat} {M : List (List Int)} (hf : fieldB p = true) (h2 : 2 ≤ p) (s : Shp p N n M) :
  ∃ r l, r ≤ N ∧ Shp p r n (redI p n M) ∧ RedF p n r (eM (redI p n M)) l ∧ ∀ x : Nat → Int, (∀ i, i < N → p ∣ sumN (fun d => eM M i d * x d) n) ↔ AnnF p n r (eM (redI p n M)) x := by
 obtain ⟨c, l, e, hr, hred, hz⟩ := elimQ_spec (n2 := 0) hf h2 s (by have := shp_nil p N; rwa [← s.1] at this ⊢)
 unfold redI
 rw [← s.1] at hr hz ⊢
 obtain ⟨z, hz'⟩ : ∃ z, z = elimQ p n M (List.replicate M.length []) := ⟨_, rfl⟩
 rw [← hz'] at e hr hred hz ⊢
 have e1 : ∀ i d, i < z.1 → eM (z.2.1.take z.1) i d = eM z.2.1 i d := fun i d hi => eM_take hi
 have hs := e.s1
 rw [← s.1] at hs
 refine ⟨z.1, l, hr, hs.take hr, ⟨fun i d hi hd => by rw [e1 i d hi]; exact hred.bd i d hi hd, hred.ln, hred.inc, fun i hi => by rw [e1 i _ hi]; exact hred.one i hi, fun i d hi hd => by rw [e1 i d hi]; exact hred.low i d hi hd, fun i j hi hj hne => by rw [e1 i _ hi]; exact hred.col i j hi hj hne⟩, fun x => ?_⟩
 have ha := e.ann x
 rw [← s.1] at ha
 refine ha.trans ⟨fun h i hi => ?_, fun h i hi => ?_⟩
 ·rw [sumN_congr (fun d _ => by rw [e1 i d hi])]
  exact h i (by omega)
 ·by_cases hir : i < z.1
  ·have := h i hir
   rwa [sumN_congr (fun d _ => by rw [e1 i d hir])] at this
  ·rw [sumN_zero fun d hd => by rw [hz i (by omega) hi d hd, Int.zero_mul]]
   exact ⟨0, by simp⟩
/-- Two lists of rows with the same annihilator have the same reduced list. -/
theorem redI_eq {p : Int} {N N' n : Nat} {M M' : List (List Int)} (hf : fieldB p = true) (h2 : 2 ≤ p) (s : Shp p N n M) (s' : Shp p N' n M')
  (h : ∀ x : Nat → Int, (∀ i, i < N → p ∣ sumN (fun d => eM M i d * x d) n) ↔ (∀ i, i < N' → p ∣ sumN (fun d => eM M' i d * x d) n)) : redI p n M = redI p n M' := by
 obtain ⟨r, l, _, a1, a2, a3⟩ := redI_spec hf h2 s
 obtain ⟨r', l', _, b1, b2, b3⟩ := redI_spec hf h2 s'
 obtain ⟨e1, e2⟩ := red_unique h2 a2 b2 (fun x => (a3 x).symm.trans ((h x).trans (b3 x)))
 subst e1
 exact shp_ext a1 b1 e2
def trL (M : List (List Int)) (n : Nat) : List (List Int) := (List.range n).map fun j => M.map fun r => r.getD j 0
theorem trL_e {M : List (List Int)} {n i j : Nat} (hj : j < n) : eM (trL M n) j i = eM M i j := by
 unfold eM trL
 rw [List.getD_eq_getElem?_getD (l := List.map _ _), List.getElem?_map, List.getElem?_range hj]
 simp only [Option.map_some, Option.getD_some, List.getD_eq_getElem?_getD, List.getElem?_map]
 cases M[i]? <;> simp
theorem trL_shp {p : Int} {N n : Nat} {M : List (List Int)} (h : Shp p N n M) : Shp p n N (trL M n) := by
 refine ⟨by simp [trL], fun i hi => ?_, fun i d hi hd => ?_⟩
 ·unfold trL
  rw [List.getD_eq_getElem?_getD, List.getElem?_map, List.getElem?_range hi]
  simp [h.1]
 ·rw [trL_e hi]; exact h.2.2 d i hd hi
theorem idL_e {n i j : Nat} (hi : i < n) (hj : j < n) : eM (idL n) i j = if j = i then 1 else 0 := by
 unfold eM
 rw [List.getD_eq_getElem?_getD (l := idL n), idL_get hi]
 show (unitL n i).getD j 0 = _
 unfold unitL
 rw [List.getD_eq_getElem?_getD, List.getElem?_set]
 by_cases h : i = j
 ·subst h; rw [if_pos rfl, if_pos (by simpa using hi), if_pos rfl]; rfl
 ·rw [if_neg h, if_neg (Ne.symm h), List.getElem?_replicate, if_pos hj]; rfl
theorem idL_shp {p : Int} {n : Nat} (h2 : 2 ≤ p) : Shp p n n (idL n) := by
 refine ⟨idL_len n, fun i hi => ?_, fun i d hi hd => ?_⟩
 ·rw [List.getD_eq_getElem?_getD, idL_get hi]; exact unitL_len n i
 ·rw [idL_e hi hd]; split <;> omega
theorem eM_drop (M : List (List Int)) (r i d : Nat) : eM (M.drop r) i d = eM M (r + i) d := by
 unfold eM
 rw [List.getD_eq_getElem?_getD (l := M.drop r), List.getElem?_drop, ← List.getD_eq_getElem?_getD]
theorem Shp.drop {p : Int} {N n r : Nat} {M : List (List Int)} (h : Shp p N n M) (hr : r ≤ N) : Shp p (N - r) n (M.drop r) := by
 refine ⟨by rw [List.length_drop, h.1], fun i hi => ?_, fun i d hi hd => ?_⟩
 ·rw [List.getD_eq_getElem?_getD, List.getElem?_drop, ← List.getD_eq_getElem?_getD]
  exact h.2.1 (r + i) (by omega)
 ·rw [eM_drop]; exact h.2.2 (r + i) d (by omega) hd
/-- The rows that kernel hands to reduced. -/
def kerK (p : Int) (n : Nat) (M : List (List Int)) : List (List Int) := (elimQ p n M (idL M.length)).2.2.drop (elimQ p n M (idL M.length)).1
def kerI (p : Int) (n : Nat) (M : List (List Int)) : List (List Int) := redI p M.length (kerK p n M)
theorem kerK_spec {p : Int} {N n : Nat} {M : List (List Int)} (hf : fieldB p = true) (h2 : 2 ≤ p) (s : Shp p N n M) :
  ∃ N', N' ≤ N ∧ Shp p N' N (kerK p n M) ∧ ∀ y : Nat → Int, (∀ i, i < N' → p ∣ sumN (fun d => eM (kerK p n M) i d * y d) N) ↔ (∀ x : Nat → Int, (∀ c, c < n → p ∣ sumN (fun k => x k * eM M k c) N) → p ∣ sumN (fun k => x k * y k) N) := by
 have hid := idL_shp (n := N) h2
 obtain ⟨c, l, e, hr, hred, hz⟩ := elimQ_spec (n2 := N) hf h2 s hid
 unfold kerK
 rw [s.1]
 obtain ⟨z, hz'⟩ : ∃ z, z = elimQ p n M (idL N) := ⟨_, rfl⟩
 rw [← hz'] at e hr hred hz ⊢
 have hmul := e.mul (eM M) (fun i hi d hd => by
  rw [sumN_one hi (fun j hj hne => by rw [idL_e hi hj, if_neg hne, Int.zero_mul]), idL_e hi hi, if_pos rfl]
  exact ⟨0, by omega⟩)
 have hall := e.all (fun x => ⟨x, fun j hj => by
  rw [sumN_one hj (fun i hi hne => by rw [idL_e hi hj, if_neg (Ne.symm hne), Int.mul_zero]), idL_e hj hj, if_pos rfl]
  exact ⟨0, by omega⟩⟩)
 refine ⟨N - z.1, by omega, e.s2.drop hr, fun y => ?_⟩
 have key := kernel_span hr hred hz hmul hall y
 refine Iff.trans ⟨fun h i h1 h3 => ?_, fun h i hi => ?_⟩ key
 ·have := h (i - z.1) (by omega)
  rwa [sumN_congr (fun d _ => by rw [eM_drop, show z.1 + (i - z.1) = i by omega])] at this
 ·rw [sumN_congr (fun d _ => by rw [eM_drop])]
  exact h (z.1 + i) (by omega) (by omega)
/-- The vectors whose product is 0 with all that the rows of M annihilate. -/
def Perp (p : Int) (N n : Nat) (M : List (List Int)) (y : Nat → Int) : Prop := ∀ x : Nat → Int, (∀ i, i < N → p ∣ sumN (fun d => eM M i d * x d) n) → p ∣ sumN (fun d => x d * y d) n
def orthK (p : Int) (M : List (List Int)) (n : Nat) : List (List Int) := kerK p M.length (trL M n)
def orthI (p : Int) (M : List (List Int)) (n : Nat) : List (List Int) := kerI p M.length (trL M n)
theorem orthI_red {p : Int} {N n : Nat} {M : List (List Int)} (s : Shp p N n M) : orthI p M n = redI p n (orthK p M n) := by
 unfold orthI kerI orthK
 rw [(trL_shp s).1]
theorem orthK_spec {p : Int} {N n : Nat} {M : List (List Int)} (hf : fieldB p = true) (h2 : 2 ≤ p) (s : Shp p N n M) :
  ∃ N', N' ≤ n ∧ Shp p N' n (orthK p M n) ∧ ∀ y : Nat → Int, (∀ i, i < N' → p ∣ sumN (fun d => eM (orthK p M n) i d * y d) n) ↔ Perp p N n M y := by
 obtain ⟨N', h1, h3, h4⟩ := kerK_spec hf h2 (trL_shp s)
 unfold orthK
 rw [s.1]
 refine ⟨N', h1, h3, fun y => (h4 y).trans ?_⟩
 unfold Perp
 refine forall_congr' fun x => imp_congr_left (forall_congr' fun i => forall_congr' fun _ => ?_)
 rw [sumN_congr (fun k hk => by rw [trL_e hk, Int.mul_comm])]
/-- The program's orthogonal list: it is reduced, and its annihilator is Perp. -/
theorem orthI_spec {p : Int} {N n : Nat} {M : List (List Int)} (hf : fieldB p = true) (h2 : 2 ≤ p) (s : Shp p N n M) :
  ∃ r l, r ≤ n ∧ Shp p r n (orthI p M n) ∧ RedF p n r (eM (orthI p M n)) l ∧ ∀ y : Nat → Int, AnnF p n r (eM (orthI p M n)) y ↔ Perp p N n M y := by
 obtain ⟨N', h1, h3, h4⟩ := orthK_spec hf h2 s
 obtain ⟨r, l, a1, a2, a3, a4⟩ := redI_spec hf h2 h3
 rw [orthI_red s]
 exact ⟨r, l, by omega, a2, a3, fun y => (a4 y).symm.trans (h4 y)⟩
theorem leadOf_eq {xs : List Int} {k : Nat} (hk : k < xs.length) (h0 : ∀ c, c < k → xs.getD c 0 = 0) (h1 : xs.getD k 0 ≠ 0) : leadOf xs = k := by
 rcases Nat.lt_trichotomy (leadOf xs) k with h | h | h
 ·obtain ⟨x, hx⟩ := get_of_lt (show leadOf xs < xs.length by omega)
  have := h0 _ h
  rw [List.getD_eq_getElem?_getD, hx] at this
  exact absurd this (leadOf_at hx)
 ·exact h
 ·have := leadOf_zero h
  rw [List.getD_eq_getElem?_getD, this] at h1
  exact absurd rfl h1
def ldF (R : List (List Int)) (i : Nat) : Nat := leadOf (R.getD i [])
theorem ldF_red {p : Int} {n r : Nat} {R : List (List Int)} {l : Nat → Nat} (s : Shp p r n R) (h : RedF p n r (eM R) l) : RedF p n r (eM R) (ldF R) := by
 have e : ∀ i, i < r → ldF R i = l i := fun i hi => leadOf_eq (by rw [s.2.1 i hi]; exact h.ln i hi) (fun c hc => h.low i c hi hc) (by have := h.one i hi; unfold eM at this; omega)
 exact ⟨h.bd, fun i hi => by rw [e i hi]; exact h.ln i hi, fun i j hij hj => by rw [e i (by omega), e j hj]; exact h.inc i j hij hj, fun i hi => by rw [e i hi]; exact h.one i hi, fun i c hi hc => h.low i c hi (by rw [← e i hi]; exact hc), fun i j hi hj hne => by rw [e j hj]; exact h.col i j hi hj hne⟩
def freeRow (p : Int) (n : Nat) (R : List (List Int)) (j : Nat) : List Int := (List.range n).map fun c => freeV (eM R) (ldF R) R.length j c % p
def freeJ (n : Nat) (R : List (List Int)) : List Nat := (List.range n).filter fun j => (List.range R.length).all fun i => decide (ldF R i ≠ j)
def freeK (p : Int) (n : Nat) (R : List (List Int)) : List (List Int) := (freeJ n R).map (freeRow p n R)
theorem freeJ_mem {n j : Nat} {R : List (List Int)} : j ∈ freeJ n R ↔ j < n ∧ FreeC (ldF R) R.length j := by
 unfold freeJ FreeC
 simp [List.mem_filter, List.all_eq_true]
theorem freeK_e {p : Int} {n i j d : Nat} {R : List (List Int)} (hj : (freeJ n R)[i]? = some j) (hd : d < n) : eM (freeK p n R) i d = freeV (eM R) (ldF R) R.length j d % p := by
 show ((freeK p n R).getD i []).getD d 0 = _
 have h1 : (freeK p n R).getD i [] = freeRow p n R j := by
  unfold freeK
  rw [List.getD_eq_getElem?_getD, List.getElem?_map, hj]; rfl
 rw [h1]
 unfold freeRow
 rw [List.getD_eq_getElem?_getD, List.getElem?_map, List.getElem?_range hd]; rfl
theorem freeK_shp {p : Int} {n : Nat} {R : List (List Int)} (h2 : 2 ≤ p) : Shp p (freeJ n R).length n (freeK p n R) := by
 refine ⟨by simp [freeK], fun i hi => ?_, fun i d hi hd => ?_⟩
 ·obtain ⟨j, hj⟩ := get_of_lt hi
  unfold freeK freeRow
  rw [List.getD_eq_getElem?_getD, List.getElem?_map, hj]
  simp
 ·obtain ⟨j, hj⟩ := get_of_lt hi
  rw [freeK_e hj hd]
  exact ⟨Int.emod_nonneg _ (by omega), Int.emod_lt_of_pos _ (by omega)⟩
def nullK (p : Int) (n : Nat) (M : List (List Int)) : List (List Int) := freeK p n (redI p n M)
def nullS (p : Int) (n : Nat) (M : List (List Int)) : List (List Int) := redI p n (nullK p n M)
theorem nullK_spec {p : Int} {N n : Nat} {M : List (List Int)} (hf : fieldB p = true) (h2 : 2 ≤ p) (s : Shp p N n M) :
  ∃ N', N' ≤ n ∧ Shp p N' n (nullK p n M) ∧ ∀ y : Nat → Int, (∀ i, i < N' → p ∣ sumN (fun d => eM (nullK p n M) i d * y d) n) ↔ Perp p N n M y := by
 obtain ⟨r, l, _, a2, a3, a4⟩ := redI_spec hf h2 s
 unfold nullK
 obtain ⟨R, hR⟩ : ∃ R, R = redI p n M := ⟨_, rfl⟩
 rw [← hR] at a2 a3 a4 ⊢
 have hrl : R.length = r := a2.1
 have red := ldF_red a2 a3
 refine ⟨(freeJ n R).length, Nat.le_trans (List.length_filter_le _ _) (by simp), freeK_shp h2, fun y => ?_⟩
 have key := null_span red y
 have hperp : (∀ x, AnnF p n r (eM R) x → p ∣ sumN (fun c => x c * y c) n) ↔ Perp p N n M y := forall_congr' fun x => imp_congr_left (a4 x).symm
 refine Iff.trans ⟨fun h j hj hfj => ?_, fun h i hi => ?_⟩ (key.trans hperp)
 ·obtain ⟨i, hi⟩ := List.mem_iff_getElem?.1 (freeJ_mem.2 ⟨hj, by rw [hrl]; exact hfj⟩)
  have h1 := h i (List.getElem?_eq_some_iff.1 hi).1
  have h3 : p ∣ sumN (fun d => eM (freeK p n R) i d * y d) n - sumN (fun c => freeV (eM R) (ldF R) r j c * y c) n := sumN_dvd_sub fun d hd => by
   rw [freeK_e hi hd, hrl]; exact dvd_mul_sub (emod_dvd _ _)
  have := Int.dvd_sub h1 h3
  rwa [show ∀ a b : Int, a - (a - b) = b from fun a b => by omega] at this
 ·obtain ⟨j, hj⟩ := get_of_lt hi
  obtain ⟨hjn, hfj⟩ := freeJ_mem.1 (List.mem_of_getElem? hj)
  rw [hrl] at hfj
  refine dvd_of_sub (b := sumN (fun c => freeV (eM R) (ldF R) r j c * y c) n) (sumN_dvd_sub fun d hd => ?_) (h j hjn hfj)
  rw [freeK_e hj hd, hrl]; exact dvd_mul_sub (emod_dvd _ _)
theorem nullS_spec {p : Int} {N n : Nat} {M : List (List Int)} (hf : fieldB p = true) (h2 : 2 ≤ p) (s : Shp p N n M) :
  ∃ r l, r ≤ n ∧ Shp p r n (nullS p n M) ∧ RedF p n r (eM (nullS p n M)) l ∧ ∀ y : Nat → Int, AnnF p n r (eM (nullS p n M)) y ↔ Perp p N n M y := by
 obtain ⟨N', h1, h3, h4⟩ := nullK_spec hf h2 s
 obtain ⟨r, l, a1, a2, a3, a4⟩ := redI_spec hf h2 h3
 exact ⟨r, l, by omega, a2, a3, fun y => (a4 y).symm.trans (h4 y)⟩
/-- The first v elements of each row. -/
def cutL (v : Nat) (M : List (List Int)) : List (List Int) := M.map fun r => r.take v
theorem cutL_e {v i d : Nat} {M : List (List Int)} (hd : d < v) : eM (cutL v M) i d = eM M i d := by
 unfold eM cutL
 rw [List.getD_eq_getElem?_getD (l := List.map _ _), List.getElem?_map, List.getD_eq_getElem?_getD (l := M)]
 cases M[i]? with
 | none => simp
 | some r => simp [List.getD_eq_getElem?_getD, List.getElem?_take, hd]
theorem cutL_shp {p : Int} {N v n : Nat} {M : List (List Int)} (h : Shp p N n M) (hv : v ≤ n) : Shp p N v (cutL v M) := by
 refine ⟨by simp [cutL, h.1], fun i hi => ?_, fun i d hi hd => by rw [cutL_e hd]; exact h.2.2 i d hi (by omega)⟩
 have := h.2.1 i hi
 unfold cutL
 obtain ⟨r, hr⟩ := get_of_lt (show i < M.length by rw [h.1]; exact hi)
 rw [List.getD_eq_getElem?_getD, hr] at this
 rw [List.getD_eq_getElem?_getD, List.getElem?_map, hr]
 simp only [Option.map_some, Option.getD_some, List.length_take] at this ⊢
 omega
theorem sumN_ext (f : Nat → Int) (v : Nat) : ∀ (h : Nat), (∀ c, v ≤ c → f c = 0) → sumN f (v + h) = sumN f v
 | 0, _ => rfl
 | h + 1, h0 => by rw [← Nat.add_assoc, sumN, sumN_ext f v h h0, h0 _ (by omega)]; omega
def padF (v : Nat) (x : Nat → Int) (c : Nat) : Int := if c < v then x c else 0
theorem cut_ann {p : Int} {N v h : Nat} {M : List (List Int)} (x : Nat → Int) : (∀ i, i < N → p ∣ sumN (fun d => eM (cutL v M) i d * x d) v) ↔ AnnF p (v + h) N (eM M) (padF v x) := by
 refine forall_congr' fun i => forall_congr' fun _ => ?_
 rw [sumN_ext _ v h (fun c hc => by unfold padF; rw [if_neg (by omega), Int.mul_zero]), sumN_congr (f := fun d => eM (cutL v M) i d * x d) (g := fun d => eM M i d * padF v x d) (fun d hd => by
  try dsimp only
  rw [cutL_e hd]; unfold padF; rw [if_pos hd])]
def canI (p : Int) (v h : Nat) (M : List (List Int)) : List (List Int) := orthI p (redI p v (cutL v (orthI p M (v + h)))) v
def canS (p : Int) (v h : Nat) (M : List (List Int)) : List (List Int) := nullS p v (cutL v (nullS p (v + h) M))
theorem canon_eq {p : Int} {N v h : Nat} {M : List (List Int)} (hf : fieldB p = true) (h2 : 2 ≤ p) (s : Shp p N (v + h) M) : canI p v h M = canS p v h M := by
 obtain ⟨r1, l1, _, a1, _, a2⟩ := orthI_spec hf h2 s
 obtain ⟨r2, l2, _, b1, _, b2⟩ := nullS_spec hf h2 s
 have ca := cutL_shp a1 (show v ≤ v + h by omega)
 have cb := cutL_shp b1 (show v ≤ v + h by omega)
 obtain ⟨r3, l3, _, d1, _, d2⟩ := redI_spec hf h2 ca
 unfold canI canS
 rw [orthI_red d1]
 obtain ⟨N1, _, k1, k2⟩ := orthK_spec hf h2 d1
 obtain ⟨N2, _, m1, m2⟩ := nullK_spec hf h2 cb
 refine redI_eq hf h2 k1 m1 fun y => (k2 y).trans (Iff.trans ?_ (m2 y).symm)
 unfold Perp
 refine forall_congr' fun x => imp_congr_left ?_
 exact (d2 x).symm.trans ((cut_ann (h := h) x).trans ((a2 _).trans ((b2 _).symm.trans (cut_ann (h := h) x).symm)))
theorem pick1_iota {r : List Int} {v : Nat} (h : v ≤ r.length) : pick1 r (iota v) = r.take v := by
 apply List.ext_getElem?
 intro i
 unfold pick1
 rw [List.getElem?_map, List.getElem?_take]
 by_cases hi : i < v
 ·rw [iota_get hi, if_pos hi]
  obtain ⟨x, hx⟩ := get_of_lt (show i < r.length by omega)
  simp [List.getD_eq_getElem?_getD, hx]
 ·rw [if_neg hi, List.getElem?_eq_none (by rw [iota_len]; omega)]; rfl
theorem Shp.row {p : Int} {N n : Nat} {M : List (List Int)} (h : Shp p N n M) : ∀ r ∈ M, r.length = n := fun r hr => by
 obtain ⟨i, hi⟩ := List.mem_iff_getElem?.1 hr
 have hl := (List.getElem?_eq_some_iff.1 hi).1
 have := h.2.1 i (by rw [← h.1]; exact hl)
 rwa [List.getD_eq_getElem?_getD, hi] at this
theorem pickAll_iota {p : Int} {N n v : Nat} {M : List (List Int)} (h : Shp p N n M) (hv : v ≤ n) : pickAll M (iota v) = cutL v M :=
 List.map_congr_left fun r hr => pick1_iota (by rw [h.row r hr]; exact hv)
/-- Rows of a valid system have the shape. -/
theorem shp_of_ok {p : Int} {s : Sy} (h : s.Ok p) : Shp p s.rows.length (s.v + s.h).toNat s.rows := by
 refine ⟨rfl, fun i hi => ?_, fun i d hi hd => ?_⟩
 ·have := Sys.len h _ (getD_mem hi)
  omega
 ·exact ent_bd h hi (by have := Sys.v0 h; have := Sys.h0 h; omega)
end Go.Proofs.YtjdbfokbgmbphaaGreatDoor
