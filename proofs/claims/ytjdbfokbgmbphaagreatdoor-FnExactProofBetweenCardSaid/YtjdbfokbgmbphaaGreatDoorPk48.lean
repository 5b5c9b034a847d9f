/- The steps of a reduction run: each of them is possible, and they lead to the reduced system. Condition: the system is valid. | How many steps a reduction has. Plain terms. Condition: the system is valid. | Steps of the call's own behind other steps of the call's own: append of a whole slice. Conditions: at most 2^20 steps. | proofBetween: the program's proof between two systems. Condition: both systems are valid. -/
import Derived.Test.YtjdbfokbgmbphaaGreatDoorPk36
import Derived.Test.YtjdbfokbgmbphaaGreatDoorPk33
import Derived.Test.YtjdbfokbgmbphaaGreatDoorPk45
import Derived.Test.YtjdbfokbgmbphaaGreatDoorPk37
import Derived.Test.YtjdbfokbgmbphaaGreatDoorPk28
namespace Go.Proofs.YtjdbfokbgmbphaaGreatDoor
set_option linter.unusedVariables false
set_option linter.unusedSimpArgs false
open Go.RowKit
theorem runs_snoc {p : Int} {x : Stp} : ∀ (X : List Stp) (s : Sy), firstBad p s X = X.length → okTo p (sysAt p s X X.length) x = true → firstBad p s (X ++ [x]) = X.length + 1 ∧ sysAt p s (X ++ [x]) (X.length + 1) = stepTo p (sysAt p s X X.length) x
 | [], s, _, ho => by
  have ho : okTo p s x = true := ho
  refine ⟨?_, rfl⟩
  show firstBad p s [x] = 1
  unfold firstBad
  rw [if_pos ho]; rfl
 | y :: X, s, hb, ho => by
  unfold firstBad at hb
  split at hb
  ·rename_i hy
   have hb' : firstBad p (stepTo p s y) X = X.length := by simpa using hb
   have ho' : okTo p (sysAt p (stepTo p s y) X X.length) x = true := ho
   obtain ⟨h1, h2⟩ := runs_snoc X _ hb' ho'
   refine ⟨?_, h2⟩
   show firstBad p s (y :: (X ++ [x])) = _
   unfold firstBad
   rw [if_pos hy, h1]; rfl
  ·simp at hb
structure Runs (p : Int) (s : Sy) (q : Sy × List Stp) : Prop where
 bad : firstBad p s q.2 = q.2.length
 sys : sysAt p s q.2 q.2.length = q.1
theorem runs_start (p : Int) (s : Sy) : Runs p s (s, []) := ⟨rfl, rfl⟩
theorem runs_push {p : Int} {s : Sy} {q : Sy × List Stp} {x : Stp} (h : Runs p s q) (ho : okTo p q.1 x = true) : Runs p s (push p q x) := by
 obtain ⟨h1, h2⟩ := runs_snoc q.2 s h.bad (by rw [h.sys]; exact ho)
 rw [h.sys] at h2
 refine ⟨?_, ?_⟩
 ·show firstBad p s (q.2 ++ [x]) = (q.2 ++ [x]).length
  rw [h1]; simp
 ·show sysAt p s (q.2 ++ [x]) (q.2 ++ [x]).length = stepTo p q.1 x
  rw [List.length_append]
  exact h2
theorem runs_clr {p : Int} {s : Sy} {a c : Nat} {iv : Int} {q : Sy × List Stp} (h : Runs p s q) (hok : q.1.Ok p) (ha : a < q.1.rows.length) (hc : (c : Int) < q.1.v + q.1.h) (hiv : (ent q.1 a c * iv) % p = 1) : ∀ i, i ≤ q.1.rows.length → Runs p s (clr p a c iv i q)
 | 0, _ => h
 | i + 1, hi => by
  have ih := runs_clr h hok ha hc hiv i (by omega)
  have k := clr_all (X := q.2) hok ha hc hiv i (by omega)
  obtain ⟨h1, _⟩ := clr_step (Sys.p2 hok) ha hc hiv k (by omega)
  unfold clr
  split
  ·rename_i hif; exact runs_push ih (h1 hif).1
  ·exact ih
theorem runs_red1 {p : Int} {s : Sy} : ∀ (b : Nat) (q : Sy × List Stp), Runs p s q → q.1.Ok p → q.1.h = b → Runs p s (red1 p b q) ∧ (red1 p b q).1.Ok p ∧ (red1 p b q).1.h = 0 ∧ (red1 p b q).1.v = q.1.v
 | 0, q, h, hok, hb => ⟨h, hok, hb, rfl⟩
 | b + 1, q, h, hok, hb => by
  by_cases hf : firstR q.1 (q.1.v + b).toNat 0 = q.1.rows.length
  ·obtain ⟨ho, h1, h2, h3, _⟩ := st1_none (b := b) hok (by omega) hf
   rw [red1_none hf]
   obtain ⟨k1, k2, k3, k4⟩ := runs_red1 b (r1N p b q) (runs_push h ho) h1 h3
   exact ⟨k1, k2, k3, k4.trans h2⟩
  ·obtain ⟨f1, f2, _, _⟩ := firstR_spec q.1 (q.1.v + b).toNat 0 (Nat.zero_le _)
   have hlt : firstR q.1 (q.1.v + b).toNat 0 < q.1.rows.length := by omega
   obtain ⟨hne, c1, ho, h1, h2, h3, _⟩ := st1_some (b := b) hok (by omega) rfl hlt
   have hv := Sys.v0 hok
   have hcv : ((q.1.v + b).toNat : Int) < q.1.v + q.1.h := by omega
   have he := ent_bd hok hlt hcv
   obtain ⟨i1, _, _⟩ := inv_spec (Sys.f hok) (show 1 ≤ ent q.1 (firstR q.1 (q.1.v + b).toNat 0) (q.1.v + b).toNat by omega) he.2
   have hr := runs_clr h hok hlt hcv i1 q.1.rows.length (Nat.le_refl _)
   rw [red1_some hf]
   obtain ⟨k1, k2, k3, k4⟩ := runs_red1 b (r1S p b q) (runs_push hr ho) h1 h3
   exact ⟨k1, k2, k3, k4.trans h2⟩
theorem inv2_none {p v : Int} {c r : Nat} {s : Sy} (h : Inv2 p v c r s) (hf : firstR s c r = s.rows.length) : Inv2 p v (c + 1) r s := by
 obtain ⟨f1, f2, f3, _⟩ := firstR_spec s c r h.hr
 refine ⟨h.ok, h.hh, h.hv, h.hr, fun d hd j hj hjn => ?_⟩
 by_cases hdc : d = c
 ·subst hdc; exact f3 j hj (by omega)
 ·exact h.z d (by omega) j hj hjn
theorem runs_red2 {p v : Int} {s : Sy} : ∀ (m c : Nat) (z : Nat × (Sy × List Stp)), Runs p s z.2 → Inv2 p v c z.1 z.2.1 → (c + m : Int) ≤ v → Runs p s (red2 p m c z).2 ∧ Inv2 p v (c + m) (red2 p m c z).1 (red2 p m c z).2.1
 | 0, c, z, h, hi, _ => ⟨h, hi⟩
 | m + 1, c, (r, q), h, hi, hm => by
  rw [show c + (m + 1) = (c + 1) + m by omega]
  by_cases hf : firstR q.1 c r = q.1.rows.length
  ·rw [red2_none hf]
   exact runs_red2 m (c + 1) (r, q) h (inv2_none hi hf) (by omega)
  ·obtain ⟨f1, f2, _, _⟩ := firstR_spec q.1 c r hi.hr
   have hcv : (c : Int) < v := by omega
   obtain ⟨a1, a2, a3, a4⟩ := red2a_inv hi hcv (by show firstR q.1 c r < _; dsimp only at f2 ⊢; omega)
   obtain ⟨b1, b2, b3, b4⟩ := red2b_inv a2 hcv a3 a4
   have c1 := red2c_inv b2 hcv b3 b4
   have ra : Runs p s (red2a p c r q) := by
    unfold red2a
    split
    ·rename_i hne; exact runs_push h (a1 hne)
    ·exact h
   have rb : Runs p s (red2b p c r (red2a p c r q)) := by
    unfold red2b
    split
    ·rename_i hne; exact runs_push ra (b1 hne)
    ·exact ra
   have hcv2 : (c : Int) < (red2b p c r (red2a p c r q)).1.v + (red2b p c r (red2a p c r q)).1.h := by rw [b2.hv, b2.hh]; omega
   have hp := Sys.p2 b2.ok
   have b5 : ent (red2b p c r (red2a p c r q)).1 r c = 1 := b4
   obtain ⟨i1, _, _⟩ := inv_spec (Sys.f b2.ok) (show 1 ≤ ent (red2b p c r (red2a p c r q)).1 r c by omega) (show ent (red2b p c r (red2a p c r q)).1 r c < p by omega)
   have rc : Runs p s (red2c p c r (red2b p c r (red2a p c r q))) := runs_clr rb b2.ok b3 hcv2 i1 _ (Nat.le_refl _)
   rw [red2_some hf]
   exact runs_red2 m (c + 1) (r + 1, _) rc c1 (by omega)
theorem runs_red3 {p : Int} {s : Sy} {r : Nat} : ∀ (n : Nat) (q : Sy × List Stp), Runs p s q → Inv3 p r q.1 → q.1.rows.length = n → Runs p s (red3 p r n q) ∧ Inv3 p r (red3 p r n q).1 ∧ (red3 p r n q).1.rows.length = r
 | 0, q, h, hi, hn => ⟨h, hi, by have := hi.hr; show q.1.rows.length = r; omega⟩
 | n + 1, q, h, hi, hn => by
  by_cases hr : r ≤ n
  ·obtain ⟨h1, h2, h3⟩ := inv3_step hi hn hr
   rw [red3_go hr]
   exact runs_red3 n (push p q ⟨4, n, 0, 0, []⟩) (runs_push h h1) h2 h3
  ·rw [red3_end (by omega)]
   exact ⟨h, hi, by have := hi.hr; omega⟩
theorem redQ_runs {p : Int} {s : Sy} (hok : s.Ok p) : Runs p s (redQ p s) := by
 have hh := Sys.h0 hok
 have hv := Sys.v0 hok
 obtain ⟨k1, k2, k3, k4⟩ := runs_red1 s.h.toNat (s, []) (runs_start p s) hok (by show s.h = _; omega)
 obtain ⟨m1, m2⟩ := runs_red2 (v := s.v) s.v.toNat 0 (0, red1 p s.h.toNat (s, [])) k1 ⟨k2, k3, k4, Nat.zero_le _, fun d hd => by omega⟩ (by omega)
 obtain ⟨n1, _⟩ := runs_red3 (r := (red2 p s.v.toNat 0 (0, red1 p s.h.toNat (s, []))).1) _ _ m1 ⟨m2.ok, m2.hh, m2.hr, fun d hd j hj hjn => m2.z d (by rw [m2.hv] at hd; omega) j hj hjn⟩ rfl
 exact n1
theorem clr_lenL {p : Int} {a c : Nat} {iv : Int} {q : Sy × List Stp} : ∀ i, (clr p a c iv i q).2.length ≤ q.2.length + i
 | 0 => Nat.le_refl _
 | i + 1 => by
  have ih := clr_lenL (p := p) (a := a) (c := c) (iv := iv) (q := q) i
  unfold clr
  split
  ·unfold push; dsimp only; rw [List.length_append]; simp; omega
  ·omega
theorem len_red1 {p : Int} : ∀ (b : Nat) (q : Sy × List Stp), q.1.Ok p → q.1.h = b → (red1 p b q).2.length ≤ q.2.length + b * 161 ∧ (red1 p b q).1.Ok p ∧ (red1 p b q).1.h = 0 ∧ (red1 p b q).1.v = q.1.v
 | 0, q, hok, hb => ⟨Nat.le_refl _, hok, hb, rfl⟩
 | b + 1, q, hok, hb => by
  have hn := Sys.n hok
  by_cases hf : firstR q.1 (q.1.v + b).toNat 0 = q.1.rows.length
  ·obtain ⟨ho, h1, h2, h3, h4⟩ := st1_none (b := b) hok (by omega) hf
   rw [red1_none hf]
   obtain ⟨k1, k2, k3, k4⟩ := len_red1 b (r1N p b q) h1 h3
   exact ⟨by omega, k2, k3, k4.trans h2⟩
  ·obtain ⟨f1, f2, _, _⟩ := firstR_spec q.1 (q.1.v + b).toNat 0 (Nat.zero_le _)
   obtain ⟨hne, c1, ho, h1, h2, h3, _, h5⟩ := st1_some (b := b) hok (by omega) rfl (show firstR q.1 (q.1.v + b).toNat 0 < q.1.rows.length by omega)
   rw [red1_some hf]
   obtain ⟨k1, k2, k3, k4⟩ := len_red1 b (r1S p b q) h1 h3
   exact ⟨by omega, k2, k3, k4.trans h2⟩
theorem len_red2 {p v : Int} : ∀ (m c : Nat) (z : Nat × (Sy × List Stp)), Inv2 p v c z.1 z.2.1 → (c + m : Int) ≤ v → (red2 p m c z).2.2.length ≤ z.2.2.length + m * 162 ∧ Inv2 p v (c + m) (red2 p m c z).1 (red2 p m c z).2.1
 | 0, c, z, hi, _ => ⟨Nat.le_refl _, hi⟩
 | m + 1, c, (r, q), hi, hm => by
  rw [show c + (m + 1) = (c + 1) + m by omega]
  by_cases hf : firstR q.1 c r = q.1.rows.length
  ·rw [red2_none hf]
   obtain ⟨k1, k2⟩ := len_red2 m (c + 1) (r, q) (inv2_none hi hf) (by omega)
   exact ⟨by dsimp only at k1 ⊢; omega, k2⟩
  ·obtain ⟨f1, f2, _, _⟩ := firstR_spec q.1 c r hi.hr
   have hcv : (c : Int) < v := by omega
   obtain ⟨a1, a2, a3, a4⟩ := red2a_inv hi hcv (by show firstR q.1 c r < _; dsimp only at f2 ⊢; omega)
   obtain ⟨b1, b2, b3, b4⟩ := red2b_inv a2 hcv a3 a4
   have c1 := red2c_inv b2 hcv b3 b4
   have la : (red2a p c r q).2.length ≤ q.2.length + 1 := by
    unfold red2a
    split
    ·unfold push; simp
    ·omega
   have lb : (red2b p c r (red2a p c r q)).2.length ≤ (red2a p c r q).2.length + 1 := by
    unfold red2b
    split
    ·unfold push; simp
    ·omega
   have lc : (red2c p c r (red2b p c r (red2a p c r q))).2.length ≤ (red2b p c r (red2a p c r q)).2.length + 160 := by
    have hn2 : (red2b p c r (red2a p c r q)).1.rows.length ≤ 160 := Sys.n b2.ok
    refine Nat.le_trans (clr_lenL _) (by omega)
   rw [red2_some hf]
   obtain ⟨k1, k2⟩ := len_red2 m (c + 1) (r + 1, red2c p c r (red2b p c r (red2a p c r q))) c1 (by omega)
   exact ⟨by dsimp only at k1 ⊢; omega, k2⟩
theorem len_red3 {p : Int} {r : Nat} : ∀ (n : Nat) (q : Sy × List Stp), (red3 p r n q).2.length ≤ q.2.length + n
 | 0, q => Nat.le_refl _
 | n + 1, q => by
  by_cases hr : r ≤ n
  ·rw [red3_go hr]
   have := len_red3 (p := p) (r := r) n (push p q ⟨4, n, 0, 0, []⟩)
   have h2 : (push p q ⟨4, n, 0, 0, []⟩).2.length = q.2.length + 1 := by unfold push; simp
   omega
  ·rw [red3_end (by omega)]; omega
theorem redQ_len {p : Int} {s : Sy} (hok : s.Ok p) : (redQ p s).2.length ≤ 30000 := by
 have hh := Sys.h0 hok; have hv := Sys.v0 hok; have hh1 := Sys.h100 hok; have hv1 := Sys.v24 hok
 obtain ⟨k1, k2, k3, k4⟩ := len_red1 s.h.toNat (s, []) hok (by show s.h = _; omega)
 obtain ⟨m1, m2⟩ := len_red2 (v := s.v) s.v.toNat 0 (0, red1 p s.h.toNat (s, [])) ⟨k2, k3, k4, Nat.zero_le _, fun d hd => by omega⟩ (by omega)
 have n1 := len_red3 (p := p) (r := (red2 p s.v.toNat 0 (0, red1 p s.h.toNat (s, []))).1) (red2 p s.v.toNat 0 (0, red1 p s.h.toNat (s, []))).2.1.rows.length (red2 p s.v.toNat 0 (0, red1 p s.h.toNat (s, []))).2
 have hr := Sys.n m2.ok
 have e : redQ p s = red3 p (red2 p s.v.toNat 0 (0, red1 p s.h.toNat (s, []))).1 (red2 p s.v.toNat 0 (0, red1 p s.h.toNat (s, []))).2.1.rows.length (red2 p s.v.toNat 0 (0, red1 p s.h.toNat (s, []))).2 := rfl
 rw [← e] at n1
 have hl : ([] : List Stp).length = 0 := rfl
 dsimp only at m1 k1
 rw [hl] at k1
 have q1 : s.h.toNat * 161 ≤ 100 * 161 := Nat.mul_le_mul_right _ (by omega)
 have q2 : s.v.toNat * 162 ≤ 24 * 162 := Nat.mul_le_mul_right _ (by omega)
 omega
theorem flatS_app : ∀ {xs ys : List Stp} {us us2 : List Value}, us.length = xs.length → flatS (xs ++ ys) (us ++ us2) = flatS xs us ++ flatS ys us2
 | [], ys, us, us2, h => by
  have : us = [] := List.eq_nil_of_length_eq_zero (by simpa using h)
  subst this; simp [flatS]
 | x :: xs, ys, [], _, h => by simp at h
 | x :: xs, ys, u :: us, us2, h => by
  have := flatS_app (xs := xs) (ys := ys) (us := us) (us2 := us2) (by simpa using h)
  simp [flatS, this]
theorem flatS_one : ∀ {xs : List Stp} {us : List Value}, (∀ u ∈ us, ∃ A n c, u = .slice A n c) → ∀ z ∈ flatS xs us, z.oneCell' = true
 | [], us, _, z, hz => by simp [flatS] at hz
 | x :: xs, [], _, z, hz => by simp [flatS] at hz
 | x :: xs, u :: us, h, z, hz => by
  rw [flatS] at hz
  rcases List.mem_append.1 hz with h1 | h1
  ·obtain ⟨A, n, c, rfl⟩ := h u (List.mem_cons_self ..)
   simp [stpCells] at h1
   rcases h1 with rfl | rfl | rfl | rfl | rfl <;> rfl
  ·exact flatS_one (fun u hu => h u (List.mem_cons_of_mem _ hu)) z h1
theorem OwnStepsW.appendAll {w w' : World} {B B2 : Nat} {v v2 v' : Value} {xs ys : List Stp} {us us2 : List Value} (h : OwnStepsW w B v xs us) (h2 : OwnStepsW w B2 v2 ys us2) (hB : B ≤ B2) (hd : ∀ u ∈ us, ∀ b, u.ownBlock = some b → b < B2)
  (hown : w'.ownsRow B 34 5 v' (xs.length + ys.length) (flatS xs us ++ flatS ys us2)) (hg : w.grownBy w' v.ownBlock) : OwnStepsW w' B v' (xs ++ ys) (us ++ us2) := by
 refine ⟨by simp [h.len, h2.len], by rw [flatS_app h.len]; simpa using hown, ?_, ?_⟩
 ·intro k u x hu hx
  by_cases hk : k < us.length
  ·rw [List.getElem?_append_left hk] at hu
   rw [List.getElem?_append_left (by rw [← h.len]; exact hk)] at hx
   exact OwnInts.kept (h.each k u x hu hx) hg (apart_ty (by decide) (h.each k u x hu hx) h.outer)
  ·rw [List.getElem?_append_right (by omega)] at hu
   rw [List.getElem?_append_right (by rw [← h.len]; omega), ← h.len] at hx
   exact (OwnInts.kept (h2.each _ u x hu hx) hg (apart_ty (by decide) (h2.each _ u x hu hx) h.outer)).mono hB
 ·have cross : ∀ (u u' : Value) (b : Nat), u ∈ us → u' ∈ us2 → u.ownBlock = some b → u'.ownBlock = some b → False := fun u u' b hu hu' hb hb' => by
   have h1 := hd u hu b hb
   obtain ⟨k, hk⟩ := List.mem_iff_getElem?.1 hu'
   obtain ⟨x, _, ho⟩ := h2.getR hk
   have := (ho.lt b hb').1
   omega
  intro i j u1 u2 b h1 h2' h3 h4
  by_cases ci : i < us.length <;> by_cases cj : j < us.length
  ·rw [List.getElem?_append_left ci] at h1
   rw [List.getElem?_append_left cj] at h2'
   exact h.apart i j u1 u2 b h1 h2' h3 h4
  ·rw [List.getElem?_append_left ci] at h1
   rw [List.getElem?_append_right (by omega)] at h2'
   exact (cross u1 u2 b (List.mem_of_getElem? h1) (List.mem_of_getElem? h2') h3 h4).elim
  ·rw [List.getElem?_append_right (by omega)] at h1
   rw [List.getElem?_append_left cj] at h2'
   exact (cross u2 u1 b (List.mem_of_getElem? h2') (List.mem_of_getElem? h1) h4 h3).elim
  ·rw [List.getElem?_append_right (by omega)] at h1
   rw [List.getElem?_append_right (by omega)] at h2'
   have := h2.apart _ _ u1 u2 b h1 h2' h3 h4
   omega
/-- 'append(there, rest...)' of steps: both slices are the call's own, rest the younger one. -/
theorem wp_appendSteps {ops : Array Oper} {rest : List Oper} {o : Oper} {a : Act} {Q : Exit → Act → World → Prop} (hgd : o.guard = none) (s x : Operand)
  (ho : o.op = .call { callee := .builtin .append, args := #[s, x], argTypes := #[45, 45] }) (B B2 : Nat) (W : World) (v v2 : Value) (xs ys : List Stp)
  (h1 : OwnSteps W B v xs) (h2 : OwnSteps W B2 v2 ys) (hd : ∃ w0, w0.heap.size ≤ B2 ∧ OwnSteps w0 B v xs ∧ Below w0.heap.size w0 W) (hB : B ≤ B2) (hB2 : B2 ≤ W.heap.size) (hlen : xs.length + ys.length ≤ 1048576)
  (hs : a.eval s = v) (hx : a.eval x = v2)
  (h : ∀ v' w', OwnSteps w' B v' (xs ++ ys) → Below B W w' → wpList Tryz.prog ops Q rest (a.put o.dst v') w') :
  wpList Tryz.prog ops Q (o :: rest) a W := by
 obtain ⟨i0, hi, hz0, hz1, hz2⟩ := info_parts infoStp
 obtain ⟨w0, hw0, ⟨us, ho0⟩, hbw⟩ := hd
 have ho1 := ho0.ext hbw
 obtain ⟨us2, ho2⟩ := h2
 have hlt : ∀ u ∈ us, ∀ b, u.ownBlock = some b → b < B2 := fun u hu b hb => by
  obtain ⟨k, hk⟩ := List.mem_iff_getElem?.1 hu
  obtain ⟨x, _, hx⟩ := ho0.getR hk
  have := (hx.lt b hb).2
  omega
 have hsl : ∀ u ∈ us2, ∃ A n c, u = .slice A n c := fun u hu => by
  obtain ⟨k, hk⟩ := List.mem_iff_getElem?.1 hu
  obtain ⟨x, _, hx⟩ := ho2.getR hk
  obtain ⟨A, c, e, _⟩ := hx.view
  exact ⟨A, _, c, e⟩
 rcases ho2.outer.2 with ⟨rfl, h0⟩ | ⟨g, cap, cur, rfl, hgB, hg, hnc, hcm, hcs, htake⟩
 ·have hy : ys = [] := List.eq_nil_of_length_eq_zero h0
  subst hy
  refine wpList_plain hgd fun K hK => ?_
  have hrun : (Builtin.append_ #[45, 45] o.type #[v, .slice none 0 0]).run Tryz.prog W = .ok v W := by
   rcases ho1.outer.2 with ⟨rfl, h0⟩ | ⟨g, cap, cur, rfl, _, _, hnc, _⟩
   ·simp [Builtin.append_, run_underlying Tryz.underlying45, sizeOf, typeInfo, hi, Builtin.lenOf, Builtin.firstCells]
   ·simp [Builtin.append_, run_underlying Tryz.underlying45, sizeOf, typeInfo, hi, Builtin.lenOf, Builtin.firstCells, hnc, storeCells]
  unfold Oper.wp
  simp [execOp, ho, resolve, invoke, builtin, hs, hx, hrun, Result.andThen]
  exact hK _ _ (h v W ⟨us, by simpa using ho1⟩ (Below.refl _ _))
 ·have hcells := World.ownsRow.cells ho2.outer (g := g) rfl
  refine wpList_append_own _ hgd s x 45 ho B 34 i0 (.agg #[.int .i64 0, .int .i64 0, .int .i64 0, .int .i64 0, .slice none 0 0]) 5 56 Tryz.underlying45 hi hz0 hz1 hz2 rfl (by decide) v _ _ hs ho1.outer ⟨g, 0, none⟩ ys.length cap (flatS ys us2) hx (flatS_len ho2.len) (fun j u hj => hcells j u hj) (flatS_one hsl) ?_ ?_ ?_ ?_
  ·unfold maxLen; omega
  ·omega
  ·omega
  ·intro v' w' hown' hgrow _
   exact h v' w' ⟨_, ho1.appendAll ho2 hB hlt hown' hgrow⟩ ((Below.refl _ _).grown hgrow (by omega) fun k hk => (World.ownsRow.lt ho1.outer k hk).1)
theorem canSy_small {p : Int} {s : Sy} (h : s.Ok p) : (canSy p s).rows.length ≤ 24 ∧ ∀ r ∈ (canSy p s).rows, r.length ≤ 24 := by
 obtain ⟨r, hr, hsh⟩ := relV_shp h
 obtain ⟨r2, _, h2, a1, _, _⟩ := orthI_spec (Sys.f h) (Sys.p2 h) hsh
 rw [canSy_rel]
 have := Sys.v24 h
 exact ⟨by rw [a1.1]; omega, fun q hq => by rw [a1.row q hq]; omega⟩
def pbB (p : Int) (a b : Sy) : Bool := sySame (canSy p a) (canSy p b) && decide ((redQ p a).2.length + (redQ p b).2.length ≤ 3000)
def pbY (p : Int) (a b : Sy) : List Stp := (redQ p a).2 ++ (undL p b (redQ p b).2 (redQ p b).2.length).reverse
def pbZ (p : Int) (a b : Sy) : List Stp := if pbB p a b = true then pbY p a b else []
theorem pbZ_no {p : Int} {a b : Sy} (h : pbB p a b = false) : pbZ p a b = [] := by unfold pbZ; rw [h, if_neg (by decide)]
theorem pbZ_yes {p : Int} {a b : Sy} (h : pbB p a b = true) : pbZ p a b = pbY p a b := by unfold pbZ; rw [if_pos h]
set_option maxRecDepth 100000 in
set_option maxHeartbeats 8000000 in
theorem proofBetween_any (p : Int) (a b : Sy) (A1 A2 : Option Addr) (cap1 cap2 : Nat) (w : World) (hP : Primes w) (hR1 : RowsAt w A1 a.rows) (hR2 : RowsAt w A2 b.rows) (hk1 : a.Ok p) (hk2 : b.Ok p) :
  Calls Tryz.prog 77 #[.int .i64 p, .agg #[.int .i64 a.v, .int .i64 a.h, .slice A1 a.rows.length cap1], .agg #[.int .i64 b.v, .int .i64 b.h, .slice A2 b.rows.length cap2]] w (SteppedTo (pbZ p a b) (pbB p a b) w) := by
 obtain ⟨s1, s2⟩ := canSy_small hk1
 obtain ⟨s3, s4⟩ := canSy_small hk2
 have HC1 := Lib.hid (fun (W : World) (h : RowsAt W A1 a.rows) => canonical_any p a A1 cap1 W h hk1)
 have HC2 := Lib.hid (fun (W : World) (h : RowsAt W A2 b.rows) => canonical_any p b A2 cap2 W h hk2)
 have HD1 := Lib.hid (fun (W : World) (hP : Primes W) (h : RowsAt W A1 a.rows) => reduceSteps_any p a A1 cap1 W hP h hk1)
 have HD2 := Lib.hid (fun (W : World) (hP : Primes W) (h : RowsAt W A2 b.rows) => reduceSteps_any p b A2 cap2 W hP h hk2)
 have hrun := redQ_runs hk2
 have hln1 := redQ_len hk1
 have hln2 := redQ_len hk2
 have hrows := redQ_rows p b
 have HY := Lib.hid (show pbY p a b = (redQ p a).2 ++ (undL p b (redQ p b).2 (redQ p b).2.length).reverse from rfl)
 have HB := Lib.hid (show pbB p a b = (sySame (canSy p a) (canSy p b) && decide ((redQ p a).2.length + (redQ p b).2.length ≤ 3000)) from rfl)
 obtain ⟨C1, hC1⟩ : ∃ C, C = canSy p a := ⟨_, rfl⟩
 obtain ⟨C2, hC2⟩ : ∃ C, C = canSy p b := ⟨_, rfl⟩
 obtain ⟨X1, hX1⟩ : ∃ X, X = (redQ p a).2 := ⟨_, rfl⟩
 obtain ⟨X2, hX2⟩ : ∃ X, X = (redQ p b).2 := ⟨_, rfl⟩
 rw [← hC1] at s1 s2 HC1 HB
 rw [← hC2] at s3 s4 HC2 HB
 rw [← hX1] at HD1 HY HB hln1
 have hfb : firstBad p b X2 = X2.length := by rw [hX2]; exact hrun.bad
 rw [← hX2] at HD2 HY HB hrows hln2
 have HU := Lib.hid (fun (W : World) (XA : Option Addr) (xcap : Nat) (hP : Primes W) (h : RowsAt W A2 b.rows) (hX : StepsAt W XA X2) (hm : X2.length ≤ 3000) => undoSteps_any p b A2 cap2 X2 W XA xcap hP h hX hk2 hm (fun x hx => by rw [hrows x hx]; simp))
 have HFB := Lib.hid hfb
 have HSAME := Lib.hid (fun (W : World) (B1 B2 : Option Addr) (c1 c2 : Nat) (h1 : RowsAt W B1 C1.rows) (h2 : RowsAt W B2 C2.rows) => equalSystems_any C1 C2 B1 B2 c1 c2 W h1 h2 (len_max (by omega)) (len_max (by omega)) (fun r hr => len_max (by have := s2 r hr; omega)) (fun r hr => len_max (by have := s4 r hr; omega)))
 have HP := Lib.hid hP; have HR1 := Lib.hid hR1; have HR2 := Lib.hid hR2
 obtain ⟨sm, hsm⟩ : ∃ sm, sm = sySame C1 C2 := ⟨_, rfl⟩
 rw [← hsm] at HSAME HB
 clear s1 s2 s3 s4 hrun hrows hC1 hC2 hX1 hX2 hfb hsm hP hR1 hR2 hk1 hk2
 have HNO := Lib.hid (fun h => pbZ_no (p := p) (a := a) (b := b) h)
 have HYES := Lib.hid (fun h => pbZ_yes (p := p) (a := a) (b := b) h)
 obtain ⟨Z, hZ⟩ : ∃ Z, Z = pbZ p a b := ⟨_, rfl⟩
 obtain ⟨OK, hOK⟩ : ∃ OK, OK = pbB p a b := ⟨_, rfl⟩
 rw [← hZ, ← hOK] at HNO HYES
 rw [← hOK] at HB
 rw [← hZ, ← hOK]
 clear hZ hOK
 go_enter Tryz.func77, Tryz.ntmps77
 go_upto_region 1 with (fail)
 have hB : Below w.heap.size w ((w.alloc (.cells #[.int .i64 a.v, .int .i64 a.h, .slice A1 a.rows.length cap1] 30)).alloc (.cells #[.int .i64 b.v, .int .i64 b.h, .slice A2 b.rows.length cap2] 30)) := ((Below.refl _ _).alloc (Nat.le_refl _) _).alloc (by simp) _
 have hq : ((w.alloc (.cells #[.int .i64 a.v, .int .i64 a.h, .slice A1 a.rows.length cap1] 30)).alloc (.cells #[.int .i64 b.v, .int .i64 b.h, .slice A2 b.rows.length cap2] 30)).heap[w.heap.size]? = some (.cells #[.int .i64 a.v, .int .i64 a.h, .slice A1 a.rows.length cap1] 30 (0, 0)) := (heap_past _ _ (by simp)).trans (heap_at _ _ rfl)
 have hq2 : ((w.alloc (.cells #[.int .i64 a.v, .int .i64 a.h, .slice A1 a.rows.length cap1] 30)).alloc (.cells #[.int .i64 b.v, .int .i64 b.h, .slice A2 b.rows.length cap2] 30)).heap[w.heap.size + 1]? = some (.cells #[.int .i64 b.v, .int .i64 b.h, .slice A2 b.rows.length cap2] 30 (0, 0)) := heap_at _ _ (by simp)
 obtain ⟨W1, hW1⟩ : ∃ W1, W1 = (w.alloc (.cells #[.int .i64 a.v, .int .i64 a.h, .slice A1 a.rows.length cap1] 30)).alloc (.cells #[.int .i64 b.v, .int .i64 b.h, .slice A2 b.rows.length cap2] 30) := ⟨_, rfl⟩
 rw [← hW1] at hB hq hq2 ⊢
 clear hW1
 obtain ⟨x0, x1, x2⟩ := cells_3 hq
 obtain ⟨y0, y1, y2⟩ := cells_3 hq2
 have HBW := Lib.hid hB
 have HRW1 := Lib.hid (HR1.out.ext hB); have HRW2 := Lib.hid (HR2.out.ext hB); have HPW := Lib.hid (HP.out.ext hB)
 clear hq hq2 hB HR1 HR2 HP
 go_region_held3 (fun W => W.cell? ⟨w.heap.size, 0, none⟩ = some (.int .i64 a.v) ∧ W.cell? ⟨w.heap.size, 1, none⟩ = some (.int .i64 a.h) ∧ W.cell? ⟨w.heap.size, 2, none⟩ = some (.slice A1 a.rows.length cap1) ∧ W.cell? ⟨w.heap.size + 1, 0, none⟩ = some (.int .i64 b.v) ∧ W.cell? ⟨w.heap.size + 1, 1, none⟩ = some (.int .i64 b.h) ∧ W.cell? ⟨w.heap.size + 1, 2, none⟩ = some (.slice A2 b.rows.length cap2))
  (first | exact t3 | exact t2 | exact t1 | exact ⟨x0, x1, x2, y0, y1, y2⟩)
  ((first | (go_at_call 109; (with_reducible refine (HC1.out _ (HRW1.out.ext (Below.refl _ _).drew)).mono ?_); rintro e w2 ⟨B1, d1, rfl, hr2, hb2⟩; have t1 := (⟨ext_cell hb2 x0, ext_cell hb2 x1, ext_cell hb2 x2, ext_cell hb2 y0, ext_cell hb2 y1, ext_cell hb2 y2⟩ : And _ (And _ (And _ (And _ (And _ _))))); have HQ2 := Lib.hid hr2.at; have HB2 := Lib.hid ((Below.refl W1.heap.size W1).drew.trans hb2); clear hr2 hb2) | (go_at_call 109; (with_reducible refine (HC2.out _ (HRW2.out.ext HB2.out)).mono ?_); rintro e w3 ⟨B2, d2, rfl, hr3, hb3⟩; have t2 := (⟨ext_cell hb3 t1.1, ext_cell hb3 t1.2.1, ext_cell hb3 t1.2.2.1, ext_cell hb3 t1.2.2.2.1, ext_cell hb3 t1.2.2.2.2.1, ext_cell hb3 t1.2.2.2.2.2⟩ : And _ (And _ (And _ (And _ (And _ _))))); have HQ3 := Lib.hid hr3.at; have HQ2b := Lib.hid (HQ2.out.ext hb3); have HB3 := Lib.hid (HB2.out.trans (hb3.mono HB2.out.size)); clear hr3 hb3) | (go_at_call 103; refine (HSAME.out _ _ _ _ _ HQ2b.out HQ3.out).mono ?_; rintro e w4 ⟨rfl, hb4⟩; have t3 := (⟨ext_cell hb4 t2.1, ext_cell hb4 t2.2.1, ext_cell hb4 t2.2.2.1, ext_cell hb4 t2.2.2.2.1, ext_cell hb4 t2.2.2.2.2.1, ext_cell hb4 t2.2.2.2.2.2⟩ : And _ (And _ (And _ (And _ (And _ _))))); have HB4 := Lib.hid (HB3.out.trans (hb4.mono HB3.out.size)); clear hb4)))
 have HE4 := Lib.hid (HBW.out.trans (HB4.out.mono HBW.out.size))
 obtain ⟨a0, a1, a2, b0, b1, b2⟩ := t3
 have HRV1 := Lib.hid (HRW1.out.ext HB4.out); have HRV2 := Lib.hid (HRW2.out.ext HB4.out); have HPV := Lib.hid (HPW.out.ext HB4.out)
 clear t2 t1 x0 x1 x2 y0 y1 y2
 cases hsm : sm with
 | false =>
  have h1 : OK = false := by rw [HB.out, hsm]; rfl
  have HZ := Lib.hid (HNO.out h1)
  have HOK := Lib.hid h1
  clear h1
  subst hsm
  go_wp2
  refine bodyPost_ret (v := .tuple #[.slice none 0 0, .bool false]) (by simp [results, Tryz.results77, go_sem]) rfl ?_
  rw [HZ.out, HOK.out]
  exact SteppedTo.mk rfl (OwnSteps.nil _ _) HE4.out
 | true =>
  subst hsm
  go_wp2_with fail
  go_region_held3 (fun W => W.cell? ⟨w.heap.size, 0, none⟩ = some (.int .i64 a.v) ∧ W.cell? ⟨w.heap.size, 1, none⟩ = some (.int .i64 a.h) ∧ W.cell? ⟨w.heap.size, 2, none⟩ = some (.slice A1 a.rows.length cap1) ∧ W.cell? ⟨w.heap.size + 1, 0, none⟩ = some (.int .i64 b.v) ∧ W.cell? ⟨w.heap.size + 1, 1, none⟩ = some (.int .i64 b.h) ∧ W.cell? ⟨w.heap.size + 1, 2, none⟩ = some (.slice A2 b.rows.length cap2))
   (first | exact t2 | exact t1 | exact ⟨a0, a1, a2, b0, b1, b2⟩)
   ((first | (go_at_call 67; (with_reducible refine (HD1.out _ (HPV.out.ext (Below.refl _ _).drew) (HRV1.out.ext (Below.refl _ _).drew)).mono ?_); rintro e w5 ⟨u5, rfl, hu5, hb5⟩; obtain ⟨A5, c5, rfl, -, hc5, -⟩ := hu5.view; have t1 := (⟨ext_cell hb5 a0, ext_cell hb5 a1, ext_cell hb5 a2, ext_cell hb5 b0, ext_cell hb5 b1, ext_cell hb5 b2⟩ : And _ (And _ (And _ (And _ (And _ _))))); have HU5 := Lib.hid hu5; have HB5 := Lib.hid ((Below.refl w4.heap.size w4).drew.trans hb5); clear hu5 hb5) | (go_at_call 67; (with_reducible refine (HD2.out _ (HPV.out.ext HB5.out) (HRV2.out.ext HB5.out)).mono ?_); rintro e w6 ⟨u6, rfl, hu6, hb6⟩; obtain ⟨A6, c6, rfl, hst6, hc6, -⟩ := hu6.view; have t2 := (⟨ext_cell hb6 t1.1, ext_cell hb6 t1.2.1, ext_cell hb6 t1.2.2.1, ext_cell hb6 t1.2.2.2.1, ext_cell hb6 t1.2.2.2.2.1, ext_cell hb6 t1.2.2.2.2.2⟩ : And _ (And _ (And _ (And _ (And _ _))))); have HU5b := Lib.hid (HU5.out.ext hb6); have HST6 := Lib.hid hst6; have HB6 := Lib.hid (HB5.out.trans (hb6.mono HB5.out.size)); clear hst6 hu6 hb6)))
  obtain ⟨-, -, -, b0', b1', b2'⟩ := t2
  clear t1 a0 a1 a2 b0 b1 b2
  have HRV3 := Lib.hid (HRV2.out.ext HB6.out); have HPV3 := Lib.hid (HPV.out.ext HB6.out)
  have HE6 := Lib.hid (HE4.out.trans (HB6.out.mono HE4.out.size))
  by_cases hlen : X1.length + X2.length ≤ 3000
  ·have h1 : OK = true := by rw [HB.out, decide_eq_true hlen]; rfl
   have HZ := Lib.hid ((HYES.out h1).trans HY.out)
   have HOK := Lib.hid h1
   clear h1
   go_wp2_with fail
   refine (HU.out _ _ _ HPV3.out HRV3.out HST6.out (by omega)).mono ?_
   rintro e w7 ⟨-, hu7, hb7⟩
   obtain ⟨A7, c7, rfl, ho7⟩ := hu7 HFB.out
   have HU7 := Lib.hid ho7; have HB7 := Lib.hid hb7
   have hz6 := HB6.out.size
   have hz7 := hb7.size
   have HL7 := Lib.hid (show X1.length + (undL p b X2 X2.length).reverse.length ≤ 1048576 by rw [List.length_reverse, undL_len]; omega)
   clear hu7 ho7 hb7
   go_wp2_with ((at_builtin; refine wp_appendSteps rfl _ _ rfl w4.heap.size w6.heap.size w7 _ _ _ _ (HU5b.out.ext HB7.out) HU7.out ⟨w6, Nat.le_refl _, HU5b.out, HB7.out⟩ hz6 hz7 HL7.out rfl rfl ?_; intro v8 w8 hu8 hb8; have HU8 := Lib.hid hu8; have HB8 := Lib.hid hb8; clear hu8 hb8))
   refine bodyPost_ret (v := .tuple #[v8, .bool true]) (by simp [results, Tryz.results77, go_sem]) rfl ?_
   rw [HZ.out, HOK.out]
   have hz4 := HE4.out.size
   exact SteppedTo.mk rfl (HU8.out.mono (by omega)) ((HE6.out.trans (HB7.out.mono HE6.out.size)).trans (HB8.out.mono (by omega)))
  ·have h1 : OK = false := by rw [HB.out, decide_eq_false hlen]; rfl
   have HZ := Lib.hid (HNO.out h1)
   have HOK := Lib.hid h1
   clear h1
   go_wp2
   refine bodyPost_ret (v := .tuple #[.slice none 0 0, .bool false]) (by simp [results, Tryz.results77, go_sem]) rfl ?_
   rw [HZ.out, HOK.out]
   exact SteppedTo.mk rfl (OwnSteps.nil _ _) HE6.out
end Go.Proofs.YtjdbfokbgmbphaaGreatDoor
