/- Steps that undo each other, in plain terms; equality of steps on both sides; copyStep. Conditions: lengths of at most 2^20. | Slices of systems that may share rows with the arguments; the last element taken off a slice; appends of a block that lies anywhere. Conditions: lengths of at most 2^20. -/
import Derived.Test.YtjdbfokbgmbphaaGreatDoorPk33
import Derived.Test.YtjdbfokbgmbphaaGreatDoorPk28
import Derived.Deep.AppendLies
namespace Go.Proofs.YtjdbfokbgmbphaaGreatDoor
set_option linter.unusedVariables false
set_option linter.unusedSimpArgs false
open Go.RowKit

def stpSame (x y : Stp) : Bool := decide (x.k = y.k) && (decide (x.a = y.a) && (decide (x.b = y.b) && (decide (x.c = y.c) && decide (x.row = y.row))))
theorem stpSame_comm (x y : Stp) : stpSame x y = stpSame y x := by
  unfold stpSame
  simp only [eq_comm (a := x.k), eq_comm (a := x.a), eq_comm (a := x.b), eq_comm (a := x.c), eq_comm (a := x.row)]

/-- The step x that begins at t, behind a stack of steps and the systems where they begin. -/
def cmpTo (p : Int) (l : List (Stp × Sy)) (x : Stp) (t : Sy) : List (Stp × Sy) :=
  match l.getLast? with
  | some q => if stpSame (undoTo p q.2 q.1) x = true then l.dropLast else l ++ [(x, t)]
  | none => [(x, t)]
def cmpL (p : Int) (s : Sy) (xs : List Stp) : Nat → List (Stp × Sy)
  | 0 => []
  | k + 1 => match xs[k]? with
    | some x => cmpTo p (cmpL p s xs k) x (sysAt p s xs k)
    | none => cmpL p s xs k
theorem cmpL_succ {p : Int} {s : Sy} {xs : List Stp} {k : Nat} {x : Stp} (h : xs[k]? = some x) : cmpL p s xs (k + 1) = cmpTo p (cmpL p s xs k) x (sysAt p s xs k) := by
  rw [cmpL, h]
theorem cmpTo_len (p : Int) (l : List (Stp × Sy)) (x : Stp) (t : Sy) : (cmpTo p l x t).length ≤ l.length + 1 := by
  unfold cmpTo
  split
  · split
    · simp; omega
    · simp
  · simp
theorem cmpL_len (p : Int) (s : Sy) (xs : List Stp) : ∀ k, (cmpL p s xs k).length ≤ k
  | 0 => Nat.le_refl _
  | k + 1 => by
    have := cmpL_len p s xs k
    rw [cmpL]
    split
    · rename_i x _
      have := cmpTo_len p (cmpL p s xs k) x (sysAt p s xs k)
      omega
    · omega
theorem cmpTo_mem {p : Int} {l : List (Stp × Sy)} {x : Stp} {t : Sy} {q : Stp × Sy} (h : q ∈ cmpTo p l x t) : q ∈ l ∨ q = (x, t) := by
  unfold cmpTo at h
  split at h
  · split at h
    · exact Or.inl (List.dropLast_subset _ h)
    · simpa using h
  · exact Or.inr (by simpa using h)
/-- Each kept step comes from the list, and is possible where it begins. -/
theorem cmpL_mem {p : Int} {s : Sy} {xs : List Stp} (hs : s.Ok p) : ∀ (k : Nat), k ≤ firstBad p s xs → ∀ q ∈ cmpL p s xs k, q.1 ∈ xs ∧ q.2.Ok p ∧ okTo p q.2 q.1 = true
  | 0, _, q, h => by simp [cmpL] at h
  | k + 1, hk, q, h => by
    have hl := firstBad_le p xs s
    obtain ⟨x, hx⟩ := get_of_lt (show k < xs.length by omega)
    rw [cmpL_succ hx] at h
    rcases cmpTo_mem h with h | h
    · exact cmpL_mem hs k (by omega) q h
    · subst h
      exact ⟨List.mem_of_getElem? hx, sysAt_ok hs (by omega), bad_ok (by omega) hx⟩
theorem cmpTo_nil (p : Int) (x : Stp) (t : Sy) : cmpTo p [] x t = [(x, t)] := rfl
theorem cmpTo_last {p : Int} {l : List (Stp × Sy)} {x : Stp} {t : Sy} {n : Nat} {q : Stp × Sy} (hn : l.length = n + 1) (hq : l[n]? = some q) :
    cmpTo p l x t = if stpSame (undoTo p q.2 q.1) x = true then l.take n else l ++ [(x, t)] := by
  unfold cmpTo
  rw [List.getLast?_eq_getElem?, hn, Nat.add_sub_cancel, hq, List.dropLast_eq_take, hn, Nat.add_sub_cancel]

set_option maxRecDepth 100000 in
set_option maxHeartbeats 4000000 in
theorem equalSteps_any (x y : Stp) (A A2 : Option Addr) (cap cap2 : Nat) (w : World) (h : IntsAt w A x.row) (h2 : IntsAt w A2 y.row) (hm : x.row.length ≤ maxLen) (hm2 : y.row.length ≤ maxLen) :
    Calls Tryz.prog 106 #[.agg #[.int .i64 x.k, .int .i64 x.a, .int .i64 x.b, .int .i64 x.c, .slice A x.row.length cap], .agg #[.int .i64 y.k, .int .i64 y.a, .int .i64 y.b, .int .i64 y.c, .slice A2 y.row.length cap2]] w fun e w' => e = .returned (.bool (stpSame x y)) ∧ Below w.heap.size w w' := by
  have hB := ((Below.refl w.heap.size w).alloc (by simp) (.cells #[.int .i64 x.k, .int .i64 x.a, .int .i64 x.b, .int .i64 x.c, .slice A x.row.length cap] 34)).alloc (by simp) (.cells #[.int .i64 y.k, .int .i64 y.a, .int .i64 y.b, .int .i64 y.c, .slice A2 y.row.length cap2] 34)
  have HB := Lib.hid hB
  have HR := Lib.hid (sliceEqual_any A A2 cap cap2 x.row y.row _ (h.ext hB) (h2.ext hB) hm hm2)
  clear hB h h2
  by_cases hk : x.k = y.k
  · have hkb : (x.k == y.k) = true := by simp [hk]
    have H0K := Lib.hid (decide_eq_true hk)
    clear hk
    by_cases ha : x.a = y.a
    · have hab : (x.a == y.a) = true := by simp [ha]
      have H0A := Lib.hid (decide_eq_true ha)
      clear ha
      by_cases hb : x.b = y.b
      · have hbb : (x.b == y.b) = true := by simp [hb]
        have H0B := Lib.hid (decide_eq_true hb)
        clear hb
        by_cases hc : x.c = y.c
        · have hcb : (x.c == y.c) = true := by simp [hc]
          have H0C := Lib.hid (decide_eq_true hc)
          clear hc
          obtain ⟨q, hq⟩ : ∃ q, q = decide (x.row = y.row) := ⟨_, rfl⟩
          rw [← hq] at HR
          have HQ := Lib.hid hq
          clear hq
          go_enter Tryz.func106, Tryz.ntmps106
          go_wp2_with (go_at_call 119; refine HR.out.mono ?_; rintro e w2 ⟨rfl, hb2⟩; have HB2 := Lib.hid (below_ext HB.out hb2); clear hb2)
          go_ret
          exact ⟨ret_bool (by rw [stpSame, H0K.out, H0A.out, H0B.out, H0C.out, ← HQ.out]; rfl), HB2.out⟩
        · have hcb : (x.c == y.c) = false := by simp [hc]
          have H0C := Lib.hid (decide_eq_false hc)
          clear hc
          go_enter Tryz.func106, Tryz.ntmps106
          go_wp2
          go_ret
          exact ⟨ret_bool (by rw [stpSame, H0K.out, H0A.out, H0B.out, H0C.out]; rfl), HB.out⟩
      · have hbb : (x.b == y.b) = false := by simp [hb]
        have H0B := Lib.hid (decide_eq_false hb)
        clear hb
        go_enter Tryz.func106, Tryz.ntmps106
        go_wp2
        go_ret
        exact ⟨ret_bool (by rw [stpSame, H0K.out, H0A.out, H0B.out]; rfl), HB.out⟩
    · have hab : (x.a == y.a) = false := by simp [ha]
      have H0A := Lib.hid (decide_eq_false ha)
      clear ha
      go_enter Tryz.func106, Tryz.ntmps106
      go_wp2
      go_ret
      exact ⟨ret_bool (by rw [stpSame, H0K.out, H0A.out]; rfl), HB.out⟩
  · have hkb : (x.k == y.k) = false := by simp [hk]
    have H0K := Lib.hid (decide_eq_false hk)
    clear hk
    go_enter Tryz.func106, Tryz.ntmps106
    go_wp2
    go_ret
    exact ⟨ret_bool (by rw [stpSame, H0K.out]; rfl), HB.out⟩

set_option maxRecDepth 100000 in
set_option maxHeartbeats 4000000 in
theorem stEqual_any (x y : Stp) (A A2 : Option Addr) (cap cap2 : Nat) (w : World) (h : IntsAt w A x.row) (h2 : IntsAt w A2 y.row) (hm : x.row.length ≤ maxLen) (hm2 : y.row.length ≤ maxLen) :
    Calls Tryz.prog 73 #[.agg #[.int .i64 x.k, .int .i64 x.a, .int .i64 x.b, .int .i64 x.c, .slice A x.row.length cap], .agg #[.int .i64 y.k, .int .i64 y.a, .int .i64 y.b, .int .i64 y.c, .slice A2 y.row.length cap2]] w fun e w' => e = .returned (.bool (stpSame x y)) ∧ Below w.heap.size w w' := by
  have hB := ((Below.refl w.heap.size w).alloc (by simp) (.cells #[.int .i64 x.k, .int .i64 x.a, .int .i64 x.b, .int .i64 x.c, .slice A x.row.length cap] 34)).alloc (by simp) (.cells #[.int .i64 y.k, .int .i64 y.a, .int .i64 y.b, .int .i64 y.c, .slice A2 y.row.length cap2] 34)
  have HB := Lib.hid hB
  have HR := Lib.hid (l1Same_any A A2 cap cap2 x.row y.row _ (h.ext hB) (h2.ext hB) hm hm2)
  clear hB h h2
  by_cases hk : x.k = y.k
  · have hkb : (x.k == y.k) = true := by simp [hk]
    have H0K := Lib.hid (decide_eq_true hk)
    clear hk
    by_cases ha : x.a = y.a
    · have hab : (x.a == y.a) = true := by simp [ha]
      have H0A := Lib.hid (decide_eq_true ha)
      clear ha
      by_cases hb : x.b = y.b
      · have hbb : (x.b == y.b) = true := by simp [hb]
        have H0B := Lib.hid (decide_eq_true hb)
        clear hb
        by_cases hc : x.c = y.c
        · have hcb : (x.c == y.c) = true := by simp [hc]
          have H0C := Lib.hid (decide_eq_true hc)
          clear hc
          obtain ⟨q, hq⟩ : ∃ q, q = decide (x.row = y.row) := ⟨_, rfl⟩
          rw [← hq] at HR
          have HQ := Lib.hid hq
          clear hq
          go_enter Tryz.func73, Tryz.ntmps73
          go_wp2_with (go_at_call 105; refine HR.out.mono ?_; rintro e w2 ⟨rfl, hb2⟩; have HB2 := Lib.hid (below_ext HB.out hb2); clear hb2)
          go_ret
          exact ⟨ret_bool (by rw [stpSame, H0K.out, H0A.out, H0B.out, H0C.out, ← HQ.out]; rfl), HB2.out⟩
        · have hcb : (x.c == y.c) = false := by simp [hc]
          have H0C := Lib.hid (decide_eq_false hc)
          clear hc
          go_enter Tryz.func73, Tryz.ntmps73
          go_wp2
          go_ret
          exact ⟨ret_bool (by rw [stpSame, H0K.out, H0A.out, H0B.out, H0C.out]; rfl), HB.out⟩
      · have hbb : (x.b == y.b) = false := by simp [hb]
        have H0B := Lib.hid (decide_eq_false hb)
        clear hb
        go_enter Tryz.func73, Tryz.ntmps73
        go_wp2
        go_ret
        exact ⟨ret_bool (by rw [stpSame, H0K.out, H0A.out, H0B.out]; rfl), HB.out⟩
    · have hab : (x.a == y.a) = false := by simp [ha]
      have H0A := Lib.hid (decide_eq_false ha)
      clear ha
      go_enter Tryz.func73, Tryz.ntmps73
      go_wp2
      go_ret
      exact ⟨ret_bool (by rw [stpSame, H0K.out, H0A.out]; rfl), HB.out⟩
  · have hkb : (x.k == y.k) = false := by simp [hk]
    have H0K := Lib.hid (decide_eq_false hk)
    clear hk
    go_enter Tryz.func73, Tryz.ntmps73
    go_wp2
    go_ret
    exact ⟨ret_bool (by rw [stpSame, H0K.out]; rfl), HB.out⟩

set_option maxRecDepth 100000 in
set_option maxHeartbeats 2000000 in
theorem copyStep_any (x : Stp) (A : Option Addr) (cap : Nat) (w : World) (hR : IntsAt w A x.row) (hm : x.row.length ≤ 1048576) :
    Calls Tryz.prog 107 #[.agg #[.int .i64 x.k, .int .i64 x.a, .int .i64 x.b, .int .i64 x.c, .slice A x.row.length cap]] w fun e w' => ∃ A2 c2, e = .returned (.agg #[.int .i64 x.k, .int .i64 x.a, .int .i64 x.b, .int .i64 x.c, .slice A2 x.row.length c2]) ∧ OwnInts w' w.heap.size (.slice A2 x.row.length c2) x.row ∧ Below w.heap.size w w' := by
  have HM := Lib.hid (show x.row.length ≤ 1099511627776 by omega)
  clear hm
  go_enter Tryz.func107, Tryz.ntmps107
  go_wp2_with fail
  refine (clone_any _ _ _ _ (hR.ext ((Below.refl _ _).alloc (by simp) _ |>.alloc (by simp) _)) HM.out).mono ?_
  rintro e w' ⟨u2, rfl, hu2, hbel2⟩
  obtain ⟨A2, c2, rfl, _⟩ := hu2.view
  obtain ⟨⟨x0, x1, x2, x3, x4⟩, x5, x6, x7, x8, x9⟩ := box5 hbel2 (b := w.heap.size + 1) (heap_at _ _ (by simp))
  obtain ⟨⟨y0, y1, y2, y3, y4⟩, y5, y6, y7, y8, y9⟩ := box5 hbel2 (b := w.heap.size) ((heap_past _ _ (by simp)).trans (heap_at _ _ (by simp)))
  simp only [World.size_alloc] at hu2
  have hbel3 := hbel2.mono (B' := w.heap.size) (by simp <;> omega)
  have hb3 := ((Below.refl w.heap.size w).alloc (by simp) _ |>.alloc (by simp) _).trans hbel3
  have H3 := Lib.hid hu2
  have HB := Lib.hid hb3
  clear hu2 hb3 hbel3 hbel2
  go_wp2
  refine bodyPost_ret (v := .agg #[.int .i64 x.k, .int .i64 x.a, .int .i64 x.b, .int .i64 x.c, .slice A2 x.row.length c2]) (by simp [results, Tryz.results107, go_sem, *]) rfl ⟨_, _, rfl, ?_, ?_⟩
  · exact ((((((H3.out.setCell (by simp <;> omega) _).setCell (by simp <;> omega) _).setCell (by simp <;> omega) _).setCell (by simp <;> omega) _).setCell (by simp <;> omega) _).setCell (by simp <;> omega) _).mono (by omega)
  · exact (((((HB.out.setCell (by simp <;> omega) _).setCell (by simp <;> omega) _).setCell (by simp <;> omega) _).setCell (by simp <;> omega) _).setCell (by simp <;> omega) _).setCell (by simp <;> omega) _
end Go.Proofs.YtjdbfokbgmbphaaGreatDoor

namespace Go.Proofs.YtjdbfokbgmbphaaGreatDoor
set_option linter.unusedVariables false
set_option linter.unusedSimpArgs false
open Go.RowKit

theorem ownsRow_pop {w : World} {B s n m cap : Nat} {T : TypeId} {A : Option Addr} {xs : List Value} (h : w.ownsRow B T s (.slice A m cap) m xs) (hn : n ≤ m) : w.ownsRow B T s (.slice A n cap) n (xs.take (n * s)) := by
  have hs : n * s ≤ m * s := Nat.mul_le_mul_right _ hn
  refine ⟨by rw [List.length_take, h.1]; omega, ?_⟩
  rcases h.2 with ⟨e, h0⟩ | ⟨g, c, cur, e, h1, h2, h3, h4, h5, h6⟩
  · left
    obtain rfl : n = 0 := by omega
    cases e
    exact ⟨rfl, rfl⟩
  · right
    cases e
    refine ⟨g, cap, cur, rfl, h1, h2, by omega, h4, h5, ?_⟩
    rw [← h6, List.take_take, Nat.min_eq_left hs]
theorem flatS_take : ∀ {xs : List Stp} {us : List Value} (n : Nat), us.length = xs.length → flatS (xs.take n) (us.take n) = (flatS xs us).take (n * 5)
  | [], us, n, h => by
    have : us = [] := List.eq_nil_of_length_eq_zero (by simpa using h)
    subst this; simp [flatS]
  | x :: xs, [], _, h => by simp at h
  | x :: xs, u :: us, 0, h => by simp [flatS]
  | x :: xs, u :: us, n + 1, h => by
    have := flatS_take (xs := xs) (us := us) n (by simpa using h)
    simp only [List.take_succ_cons, flatS, this]
    rw [show (n + 1) * 5 = (stpCells x u).length + n * 5 by simp [stpCells]; omega, List.take_length_add_append]
theorem flatY_take : ∀ {xs : List Sy} {us : List Value} (n : Nat), us.length = xs.length → flatY (xs.take n) (us.take n) = (flatY xs us).take (n * 3)
  | [], us, n, h => by
    have : us = [] := List.eq_nil_of_length_eq_zero (by simpa using h)
    subst this; simp [flatY]
  | x :: xs, [], _, h => by simp at h
  | x :: xs, u :: us, 0, h => by simp [flatY]
  | x :: xs, u :: us, n + 1, h => by
    have := flatY_take (xs := xs) (us := us) n (by simpa using h)
    simp only [List.take_succ_cons, flatY, this]
    rw [show (n + 1) * 3 = (syCells x u).length + n * 3 by simp [syCells]; omega, List.take_length_add_append]
theorem take_get {α : Type} {l : List α} {n k : Nat} {x : α} (h : (l.take n)[k]? = some x) : l[k]? = some x := by
  rw [List.getElem?_take] at h
  split at h
  · exact h
  · cases h
theorem OwnStepsW.pop {w : World} {B n m cap : Nat} {A : Option Addr} {xs : List Stp} {us : List Value} (h : OwnStepsW w B (.slice A m cap) xs us) (hm : m = xs.length) (hn : n ≤ m) : OwnStepsW w B (.slice A n cap) (xs.take n) (us.take n) := by
  subst hm
  have hl : (xs.take n).length = n := by rw [List.length_take]; omega
  refine ⟨by simp [h.len], ?_, fun k u x hu hx => h.each k u x (take_get hu) (take_get hx), fun i j u u' b hi hj => h.apart i j u u' b (take_get hi) (take_get hj)⟩
  rw [hl, flatS_take n h.len]
  exact ownsRow_pop h.outer hn
/-- Where one element lies. -/
theorem OwnStepsW.at5 {w : World} {B g n cap k : Nat} {ys : List Stp} {us : List Value} {y : Stp} (hn : n = ys.length) (h : OwnStepsW w B (.slice (some ⟨g, 0, none⟩) n cap) ys us) (hy : ys[k]? = some y) :
    ∃ A c, StpAt w g (k * 5) y A c ∧ IntsAt w A y.row := by
  subst hn
  have hk := (List.getElem?_eq_some_iff.1 hy).1
  obtain ⟨u, hu, ho⟩ := h.get hy
  obtain ⟨A, c, rfl, hr, _⟩ := ho.view
  have hj : ∀ j, j < 5 → w.cell? ⟨g, k * 5 + j, none⟩ = (stpCells y (.slice A y.row.length c))[j]? := fun j h5 => by rw [h.outer.cellAt _ (by omega), flatS_get h5 hy hu]
  exact ⟨A, c, ⟨hj 0 (by decide), hj 1 (by decide), hj 2 (by decide), hj 3 (by decide), hj 4 (by decide)⟩, hr⟩
theorem OwnStepsW.form {w : World} {B n cap : Nat} {A : Option Addr} {ys : List Stp} {us : List Value} (h : OwnStepsW w B (.slice A n cap) ys us) (hn : 0 < ys.length) : ∃ g, A = some ⟨g, 0, none⟩ ∧ n ≤ cap ∧ cap ≤ maxLen ∧ n = ys.length := by
  rcases h.outer.2 with ⟨e, h0⟩ | ⟨g, c, cur, e, h1, h2, h3, h4, _⟩
  · omega
  · cases e; exact ⟨g, rfl, h3, h4, rfl⟩

structure KSyW (w0 w : World) (B : Nat) (v : Value) (xs : List Sy) (us : List Value) : Prop where
  len : us.length = xs.length
  outer : w.ownsRow B 30 3 v xs.length (flatY xs us)
  each : ∀ (k : Nat) (u : Value) (x : Sy), us[k]? = some u → xs[k]? = some x → ∃ A c, u = .slice A x.rows.length c ∧ Kept w0 w B A c x.rows

theorem Kept.keptT {w w' w0 : World} {B B' s n c : Nat} {T : TypeId} {A : Option Addr} {v : Value} {rows : List (List Int)} {xs : List Value} (h : Kept w0 w B A c rows) (h1 : 25 ≠ T) (h2 : 3 ≠ T) (hv : w.ownsRow B' T s v n xs) (hg : w.grownBy w' v.ownBlock) : Kept w0 w' B A c rows :=
  h.imp id fun h => h.keptT h1 h2 hv hg
theorem Kept.same {w0 w w' : World} {B c : Nat} {A : Option Addr} {rows : List (List Int)} (h : Kept w0 w B A c rows) (hs : ∀ k, B ≤ k → w'.heap[k]? = w.heap[k]?) : Kept w0 w' B A c rows :=
  h.imp id fun h => h.same hs
theorem Kept.mono {w0 w : World} {B B' c : Nat} {A : Option Addr} {rows : List (List Int)} (h : Kept w0 w B A c rows) (hB : B' ≤ B) : Kept w0 w B' A c rows :=
  h.imp id fun h => h.mono hB

section
variable {w0 w w' : World} {B : Nat} {v : Value} {xs : List Sy} {us : List Value}
theorem KSyW.ext (h : KSyW w0 w B v xs us) (hb : Below w.heap.size w w') : KSyW w0 w' B v xs us :=
  ⟨h.len, World.ownsRow.kept h.outer (row := none) ⟨hb.os, hb.tape, hb.output, hb.size, fun k hk _ => hb.block k hk⟩ (by cases v.ownBlock <;> simp), fun k u r hu hr => by
    obtain ⟨A, c, e, hk⟩ := h.each k u r hu hr
    exact ⟨A, c, e, hk.ext hb⟩⟩
theorem KSyW.same (h : KSyW w0 w B v xs us) (hs : ∀ k, B ≤ k → w'.heap[k]? = w.heap[k]?) : KSyW w0 w' B v xs us :=
  ⟨h.len, ⟨h.outer.1, h.outer.2.imp id fun ⟨g, cap, cur, a1, a2, a3, a4⟩ => ⟨g, cap, cur, a1, a2, by rw [hs g a2]; exact a3, a4⟩⟩, fun k u r hu hr => by
    obtain ⟨A, c, e, hk⟩ := h.each k u r hu hr
    exact ⟨A, c, e, hk.same hs⟩⟩
theorem KSyW.keptT {B' s n : Nat} {T : TypeId} {v' : Value} {ys : List Value} (h : KSyW w0 w B v xs us) (h0 : 30 ≠ T) (h1 : 25 ≠ T) (h2 : 3 ≠ T) (hv : w.ownsRow B' T s v' n ys) (hg : w.grownBy w' v'.ownBlock) : KSyW w0 w' B v xs us :=
  ⟨h.len, World.ownsRow.kept h.outer hg (apart_ty h0 h.outer hv), fun k u r hu hr => by
    obtain ⟨A, c, e, hk⟩ := h.each k u r hu hr
    exact ⟨A, c, e, hk.keptT h1 h2 hv hg⟩⟩
theorem KSyW.lit (w0 W : World) (B : Nat) (hB : B ≤ W.heap.size) : KSyW w0 (W.alloc (.cells #[] 30)) B (.slice (some ⟨W.heap.size, 0, none⟩) 0 0) [] [] :=
  ⟨rfl, World.ownsRow_lit W #[] 0 hB (by decide) rfl, fun k u r hu => by simp at hu⟩
theorem KSyW.pop {n m cap : Nat} {A : Option Addr} (h : KSyW w0 w B (.slice A m cap) xs us) (hm : m = xs.length) (hn : n ≤ m) : KSyW w0 w B (.slice A n cap) (xs.take n) (us.take n) := by
  subst hm
  have hl : (xs.take n).length = n := by rw [List.length_take]; omega
  refine ⟨by simp [h.len], ?_, fun k u x hu hx => h.each k u x (take_get hu) (take_get hx)⟩
  rw [hl, flatY_take n h.len]
  exact ownsRow_pop h.outer hn
theorem KSyW.at3 {g n cap k : Nat} {y : Sy} (hn : n = xs.length) (h : KSyW w0 w B (.slice (some ⟨g, 0, none⟩) n cap) xs us) (hy : xs[k]? = some y) :
    ∃ A c, (w.cell? ⟨g, k * 3, none⟩ = some (.int .i64 y.v) ∧ w.cell? ⟨g, k * 3 + 1, none⟩ = some (.int .i64 y.h) ∧ w.cell? ⟨g, k * 3 + 2, none⟩ = some (.slice A y.rows.length c)) ∧ Kept w0 w B A c y.rows := by
  subst hn
  have hk := (List.getElem?_eq_some_iff.1 hy).1
  obtain ⟨u, hu⟩ := get_of_lt (show k < us.length by rw [h.len]; exact hk)
  obtain ⟨A, c, rfl, hr⟩ := h.each k u y hu hy
  have hj : ∀ j, j < 3 → w.cell? ⟨g, k * 3 + j, none⟩ = (syCells y (.slice A y.rows.length c))[j]? := fun j h5 => by rw [h.outer.cellAt _ (by omega), flatY_get h5 hy hu]
  exact ⟨A, c, ⟨hj 0 (by decide), hj 1 (by decide), hj 2 (by decide)⟩, hr⟩
theorem KSyW.form {n cap : Nat} {A : Option Addr} (h : KSyW w0 w B (.slice A n cap) xs us) (hn : 0 < xs.length) : ∃ g, A = some ⟨g, 0, none⟩ ∧ n ≤ cap ∧ cap ≤ maxLen ∧ n = xs.length := by
  rcases h.outer.2 with ⟨e, h0⟩ | ⟨g, c, cur, e, h1, h2, h3, h4, _⟩
  · omega
  · cases e; exact ⟨g, rfl, h3, h4, rfl⟩
theorem KSyW.snoc {v' : Value} {A : Option Addr} {c : Nat} {x : Sy} (h : KSyW w0 w B v xs us) (hu : Kept w0 w B A c x.rows)
    (hown : w'.ownsRow B 30 3 v' (xs.length + 1) (flatY xs us ++ syCells x (.slice A x.rows.length c))) (hg : w.grownBy w' v.ownBlock) : KSyW w0 w' B v' (xs ++ [x]) (us ++ [.slice A x.rows.length c]) := by
  refine ⟨by simp [h.len], by rw [flatY_snoc _ _ h.len]; simpa using hown, ?_⟩
  intro k u' x' hu' hx'
  by_cases hk : k < us.length
  · rw [List.getElem?_append_left hk] at hu'
    rw [List.getElem?_append_left (by rw [← h.len]; exact hk)] at hx'
    obtain ⟨A1, c1, e, hk1⟩ := h.each k u' x' hu' hx'
    exact ⟨A1, c1, e, hk1.keptT (by decide) (by decide) h.outer hg⟩
  · have hk' : k = us.length := by
      have := (List.getElem?_eq_some_iff.1 hu').1
      simp at this; omega
    subst hk'
    simp at hu'
    rw [h.len] at hx'
    simp at hx'
    subst hu' hx'
    exact ⟨A, c, rfl, hu.keptT (by decide) (by decide) h.outer hg⟩
end

/-- 'append(out, x)' of a step that lies in a block of its own. -/
theorem step_appendStpG {ops : Array Oper} {o : Oper} {a : Act} {K : Act → World → Prop} {Q : Exit → Act → World → Prop} {E : Prop} (hgd : o.guard = none) (s x : Operand)
    (ho : o.op = .call { callee := .builtin .append, args := #[s, x], argTypes := #[45, 45] }) (B : Nat) (W : World) (v u : Value) (xs : List Stp) (us : List Value) (y : Stp) (b0 : Nat)
    (hW : OwnStepsW W B v xs us) (hu : OwnInts W B u y.row) (hd : ∀ b, u.ownBlock = some b → ∀ u' ∈ us, u'.ownBlock ≠ some b) (hlen : xs.length + 1 ≤ 1048576) (hB : B ≤ W.heap.size) (hs : a.eval s = v) (hx : a.eval x = .slice (some ⟨b0, 0, none⟩) 1 1)
    (hq : W.heap[b0]? = some (.cells #[.int .i64 y.k, .int .i64 y.a, .int .i64 y.b, .int .i64 y.c, u] 34 (0, 0)))
    (h : ∀ g cap w', OwnStepsW w' B (.slice (some ⟨g, 0, none⟩) (xs.length + 1) cap) (xs ++ [y]) (us ++ [u]) → W.grownBy w' v.ownBlock → Below B W w' → K (a.put o.dst (.slice (some ⟨g, 0, none⟩) (xs.length + 1) cap)) w') :
    if Region.wanted o (yielded ops a.tmps) = true then Oper.wp Tryz.prog o a W K Q else E := by
  obtain ⟨i0, hi, hz0, hz1, hz2⟩ := info_parts infoStp
  obtain ⟨A', c', rfl, _⟩ := hu.view
  refine step_append_lies (w := W) hgd s x 45 ho B 34 i0 (.agg #[.int .i64 0, .int .i64 0, .int .i64 0, .int .i64 0, .slice none 0 0]) 5 56 Tryz.underlying45 hi hz0 hz1 hz2 rfl (by decide) v _ _ hs hW.outer ⟨b0, 0, none⟩ 1 1 (stpCells y (.slice A' y.row.length c')) hx rfl (World.news_of_block hq) ?_ (by decide) ?_ ?_ hB _ rfl ?_
  · intro u' hu'; simp [stpCells] at hu'; rcases hu' with rfl | rfl | rfl | rfl | rfl <;> rfl
  · unfold maxLen; omega
  · omega
  · intro g cap w' hown' hgrow _ _
    exact h g cap w' (hW.snoc hu hd hown' hgrow) hgrow ((Below.refl _ _).grown hgrow hB fun k hk => (World.ownsRow.lt hW.outer k hk).1)
/-- The same of a system. -/
theorem step_appendKSy {ops : Array Oper} {o : Oper} {a : Act} {K : Act → World → Prop} {Q : Exit → Act → World → Prop} {E : Prop} (hgd : o.guard = none) (s x : Operand)
    (ho : o.op = .call { callee := .builtin .append, args := #[s, x], argTypes := #[72, 72] }) (B : Nat) (w0 W : World) (v : Value) (A : Option Addr) (c : Nat) (xs : List Sy) (us : List Value) (y : Sy) (b0 : Nat)
    (hW : KSyW w0 W B v xs us) (hu : Kept w0 W B A c y.rows) (hlen : xs.length + 1 ≤ 1048576) (hB : B ≤ W.heap.size) (hs : a.eval s = v) (hx : a.eval x = .slice (some ⟨b0, 0, none⟩) 1 1)
    (hq : W.heap[b0]? = some (.cells #[.int .i64 y.v, .int .i64 y.h, .slice A y.rows.length c] 30 (0, 0)))
    (h : ∀ g cap w', KSyW w0 w' B (.slice (some ⟨g, 0, none⟩) (xs.length + 1) cap) (xs ++ [y]) (us ++ [.slice A y.rows.length c]) → W.grownBy w' v.ownBlock → Below B W w' → K (a.put o.dst (.slice (some ⟨g, 0, none⟩) (xs.length + 1) cap)) w') :
    if Region.wanted o (yielded ops a.tmps) = true then Oper.wp Tryz.prog o a W K Q else E := by
  obtain ⟨i0, hi, hz0, hz1, hz2⟩ := info_parts infoSy
  refine step_append_lies (w := W) hgd s x 72 ho B 30 i0 (.agg #[.int .i64 0, .int .i64 0, .slice none 0 0]) 3 40 Tryz.underlying72 hi hz0 hz1 hz2 rfl (by decide) v _ _ hs hW.outer ⟨b0, 0, none⟩ 1 1 (syCells y (.slice A y.rows.length c)) hx rfl (World.news_of_block hq) ?_ (by decide) ?_ ?_ hB _ rfl ?_
  · intro u' hu'; simp [syCells] at hu'; rcases hu' with rfl | rfl | rfl <;> rfl
  · unfold maxLen; omega
  · omega
  · intro g cap w' hown' hgrow _ _
    exact h g cap w' (hW.snoc hu hown' hgrow) hgrow ((Below.refl _ _).grown hgrow hB fun k hk => (World.ownsRow.lt hW.outer k hk).1)
end Go.Proofs.YtjdbfokbgmbphaaGreatDoor
