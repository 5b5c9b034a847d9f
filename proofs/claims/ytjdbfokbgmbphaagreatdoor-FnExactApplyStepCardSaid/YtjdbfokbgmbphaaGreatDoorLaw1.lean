/- The law's own functions: sizes, equality of lists, systems and steps. Conditions: lengths of at most maxLen. -/
import Derived.Test.YtjdbfokbgmbphaaGreatDoorSys1
namespace Go.Proofs.YtjdbfokbgmbphaaGreatDoor
set_option linter.unusedVariables false
set_option linter.unusedSimpArgs false
open Go.RowKit

theorem drewN_below (w : World) (n : Nat) : Below w.heap.size w (w.drewN n) := by
  induction n with
  | zero => exact Below.refl _ _
  | succ n ih => exact ih.trans ⟨rfl, rfl, rfl, Nat.le_refl _, fun _ _ => rfl⟩

/-- What is left of a budget: negative, or a number from which the sizes can be read off. -/
def Left (left r : Int) (n : Nat) : Prop := r < 0 ∨ (0 ≤ r ∧ r ≤ left ∧ (n : Int) ≤ left)

theorem szIntS_any (A : Option Addr) (n cap : Nat) (left : Int) (w : World) (hm : n ≤ maxLen) (hl : 0 ≤ left) (hl' : left ≤ 1048576) :
    Calls Tryz.prog 46 #[.slice A n cap, .int .i64 left] w fun e w' => ∃ r, e = .returned (.int .i64 r) ∧ Left left r n ∧ w = w' := by
  unfold maxLen at hm
  by_cases h : left - n < 0
  · go_enter Tryz.func46, Tryz.ntmps46
    go_wp2
    go_ret
    exact ⟨_, rfl, Or.inl (by decide), rfl⟩
  · go_enter Tryz.func46, Tryz.ntmps46
    go_wp2
    go_ret
    exact ⟨_, rfl, Or.inr (by omega), rfl⟩

/-- Of rows: how many there are, and how long each is. -/
def LeftRows (left r : Int) (rows : List (List Int)) : Prop := r < 0 ∨ (0 ≤ r ∧ r ≤ left ∧ (rows.length : Int) ≤ left ∧ ∀ x ∈ rows, (x.length : Int) ≤ left)

set_option maxHeartbeats 400000 in
theorem szIntSS_any (A : Option Addr) (cap : Nat) (rows : List (List Int)) (left : Int) (w : World) (hR : RowsAt w A rows) (hm : rows.length ≤ maxLen) (hms : ∀ r ∈ rows, r.length ≤ maxLen) (hl : 0 ≤ left) (hl' : left ≤ 1048576) :
    Calls Tryz.prog 45 #[.slice A rows.length cap, .int .i64 left] w fun e w' => ∃ r, e = .returned (.int .i64 r) ∧ LeftRows left r rows ∧ w = w' := by
  unfold maxLen at hm
  by_cases h : left - rows.length < 0
  · go_enter Tryz.func45, Tryz.ntmps45
    go_wp2
    go_ret
    exact ⟨_, rfl, Or.inl (by decide), rfl⟩
  · go_enter Tryz.func45, Tryz.ntmps45
    go_wp2
    go_loop [1, 5] (fun l i => ∃ (k : Nat) (q : Int), k ≤ rows.length ∧ i = .int .i64 k ∧ l = .int .i64 q ∧ 0 ≤ q ∧ q ≤ left ∧ ∀ x ∈ rows.take k, (x.length : Int) ≤ left) (fun _ i => rows.length - (intOf i).toNat)
    case atStart => exact ⟨0, _, Nat.zero_le _, rfl, rfl, by omega, by omega, fun x hx => by simp at hx⟩
    case round =>
      obtain ⟨k, q, hk, rfl, rfl, hq, hq', hall⟩ := hrel
      have Hall := Lib.hid hall; clear hall
      by_cases hlt : k < rows.length
      · obtain ⟨r, hr⟩ := get_of_lt hlt
        obtain ⟨b, o, rfl, hc⟩ := hR.here hlt
        obtain ⟨A', cap', hck, hin⟩ := hc k r hr
        have HM := Lib.hid (hms r (List.mem_of_getElem? hr))
        have Hr := Lib.hid hr; clear hr hc hms hR
        go_wp2_with ((go_at_call 46; refine (szIntS_any _ _ _ _ _ HM.out hq (by omega)).mono ?_; rintro e w' ⟨q2, rfl, hq2, rfl⟩; have Q2 := Lib.hid hq2; clear hq2))
        · go_ret
          exact ⟨_, rfl, Or.inl (by decide), rfl⟩
        · go_round
          case rel =>
            rcases Q2.out with h1 | ⟨h1, h2, h3⟩
            · omega
            · exact ⟨k+1, q2, by omega, by go_num, rfl, h1, by omega, fun x hx => by
                rw [List.take_add_one, Hr.out] at hx
                rcases List.mem_append.1 hx with hx | hx
                · exact Hall.out x hx
                · simp at hx; subst hx; omega⟩
          case measure => simp [intOf]; omega
      · go_wp2
        go_ret
        refine ⟨_, rfl, Or.inr ⟨hq, hq', by omega, fun x hx => Hall.out x ?_⟩, rfl⟩
        rwa [List.take_of_length_le (by omega)]

theorem szSystem_any (v h : Int) (A : Option Addr) (cap : Nat) (rows : List (List Int)) (left : Int) (w : World) (hR : RowsAt w A rows) (hm : rows.length ≤ maxLen) (hms : ∀ r ∈ rows, r.length ≤ maxLen) (hl : 0 ≤ left) (hl' : left ≤ 1048576) :
    Calls Tryz.prog 12 #[.agg #[.int .i64 v, .int .i64 h, .slice A rows.length cap], .int .i64 left] w fun e w' => ∃ r, e = .returned (.int .i64 r) ∧ LeftRows left r rows ∧ Below w.heap.size w w' := by
  have hB := (Below.refl w.heap.size w).alloc (by simp) (.cells #[.int .i64 v, .int .i64 h, .slice A rows.length cap] 24)
  have HB := Lib.hid hB
  have hR' := hR.ext hB
  clear hB hR
  go_enter Tryz.func12, Tryz.ntmps12
  go_wp2_with ((go_at_call 45; refine (szIntSS_any _ _ _ _ _ hR' hm hms hl hl').mono ?_; rintro e w' ⟨q2, rfl, hq2, rfl⟩; have Q2 := Lib.hid hq2; clear hq2))
  · go_ret
    exact ⟨_, rfl, Or.inl (by decide), HB.out⟩
  · go_ret
    exact ⟨_, rfl, Q2.out, HB.out⟩
theorem szStep_any (k a b c : Int) (A : Option Addr) (n cap : Nat) (left : Int) (w : World) (hm : n ≤ maxLen) (hl : 0 ≤ left) (hl' : left ≤ 1048576) :
    Calls Tryz.prog 13 #[.agg #[.int .i64 k, .int .i64 a, .int .i64 b, .int .i64 c, .slice A n cap], .int .i64 left] w fun e w' => ∃ r, e = .returned (.int .i64 r) ∧ Left left r n ∧ Below w.heap.size w w' := by
  have hB := (Below.refl w.heap.size w).alloc (by simp) (.cells #[.int .i64 k, .int .i64 a, .int .i64 b, .int .i64 c, .slice A n cap] 27)
  have HB := Lib.hid hB
  clear hB
  go_enter Tryz.func13, Tryz.ntmps13
  go_wp2_with ((go_at_call 46; refine (szIntS_any _ _ _ _ _ hm hl hl').mono ?_; rintro e w' ⟨q2, rfl, hq2, rfl⟩; have Q2 := Lib.hid hq2; clear hq2))
  · go_ret
    exact ⟨_, rfl, Or.inl (by decide), HB.out⟩
  · go_ret
    exact ⟨_, rfl, Q2.out, HB.out⟩

/-- Two lists part at a place. -/
theorem ne_at {α : Type} {xs ys : List α} {k : Nat} {x y : α} (hx : xs[k]? = some x) (hy : ys[k]? = some y) (h : x ≠ y) : xs ≠ ys := by
  intro e; subst e; rw [hx] at hy; cases hy; exact h rfl
theorem take_eq_succ {α : Type} {xs ys : List α} {k : Nat} {x : α} (h : xs.take k = ys.take k) (hx : xs[k]? = some x) (hy : ys[k]? = some x) : xs.take (k + 1) = ys.take (k + 1) := by
  rw [List.take_add_one, List.take_add_one, h, hx, hy]
theorem eq_of_take {α : Type} {xs ys : List α} {k : Nat} (h : xs.take k = ys.take k) (hx : xs.length ≤ k) (hy : ys.length ≤ k) : xs = ys := by
  rwa [List.take_of_length_le hx, List.take_of_length_le hy] at h

set_option maxHeartbeats 1000000 in
theorem eqIntS_any (A A2 : Option Addr) (cap cap2 : Nat) (xs ys : List Int) (w : World) (h : IntsAt w A xs) (h2 : IntsAt w A2 ys) (hm : xs.length ≤ maxLen) (hm2 : ys.length ≤ maxLen) :
    Calls Tryz.prog 55 #[.slice A xs.length cap, .slice A2 ys.length cap2] w fun e w' => e = .returned (.bool (decide (xs = ys))) ∧ Below w.heap.size w w' := by
  unfold maxLen at hm hm2
  by_cases hn : xs.length = ys.length
  · have hb : ((xs.length : Int) != (ys.length : Int)) = false := by simp [hn]
    have Hn := Lib.hid hn; clear hn
    go_enter Tryz.func55, Tryz.ntmps55
    go_wp2
    go_loopw [5] (fun i wr => ∃ k : Nat, k ≤ xs.length ∧ i = .int .i64 k ∧ xs.take k = ys.take k ∧ Below w.heap.size w wr) (fun i _ => xs.length - (intOf i).toNat)
    case atStart => exact ⟨0, Nat.zero_le _, rfl, by simp, Below.refl _ _⟩
    case round =>
      obtain ⟨k, hk, rfl, hall, hbel⟩ := hrel
      have Hall := Lib.hid hall; clear hall
      by_cases hlt : k < xs.length
      · have hlt2 : k < ys.length := by have := Hn.out; omega
        obtain ⟨x, hx⟩ := get_of_lt hlt
        obtain ⟨y, hy⟩ := get_of_lt hlt2
        obtain ⟨b, o, rfl, hc⟩ := h.here hlt
        obtain ⟨b2, o2, rfl, hc2⟩ := h2.here hlt2
        have c1 : ∀ W : Ext wr, W.W.cell? ⟨b, o + k, none⟩ = some (.int .i64 x) := fun W => W.cell (ext_cell hbel (hc k x hx))
        have c2 : ∀ W : Ext wr, W.W.cell? ⟨b2, o2 + k, none⟩ = some (.int .i64 y) := fun W => W.cell (ext_cell hbel (hc2 k y hy))
        have Hx := Lib.hid hx; have Hy := Lib.hid hy; clear hx hy hc hc2 h h2
        by_cases hf : x = y
        · subst hf
          go_wp2
          refine wp_region_ext_lit (by kernel_rfl) (by kernel_rfl) ?_
          repeat (go_big_quiet_step (fail))
          refine wpQuiet_nil ?_
          rintro _ ⟨W, rfl⟩
          go_wp2
          go_roundw
          case rel => exact ⟨k+1, by omega, by go_num, take_eq_succ Hall.out Hx.out Hy.out, below_ext hbel W.ok⟩
          case measure => simp [intOf]; omega
        · have hfb : (x != y) = true := by simp [hf]
          go_wp2
          refine wp_region_ext_lit (by kernel_rfl) (by kernel_rfl) ?_
          repeat (go_big_quiet_step (fail))
          refine wpQuiet_nil ?_
          rintro _ ⟨W, rfl⟩
          go_wp2
          go_ret
          exact ⟨ret_bool (decide_eq_false (ne_at Hx.out Hy.out hf)).symm, below_ext hbel W.ok⟩
      · go_wp2
        go_ret
        exact ⟨ret_bool (decide_eq_true (eq_of_take Hall.out (by omega) (by have := Hn.out; omega))).symm, hbel⟩
  · have hb : ((xs.length : Int) != (ys.length : Int)) = true := by simp; omega
    go_enter Tryz.func55, Tryz.ntmps55
    go_wp2
    go_ret
    exact ⟨ret_bool (decide_eq_false (fun e => hn (by rw [e]))).symm, Below.refl _ _⟩

set_option maxHeartbeats 1000000 in
theorem eqIntSS_any (A A2 : Option Addr) (cap cap2 : Nat) (xs ys : List (List Int)) (w : World) (h : RowsAt w A xs) (h2 : RowsAt w A2 ys) (hm : xs.length ≤ maxLen) (hm2 : ys.length ≤ maxLen)
    (hms : ∀ r ∈ xs, r.length ≤ maxLen) (hms2 : ∀ r ∈ ys, r.length ≤ maxLen) :
    Calls Tryz.prog 54 #[.slice A xs.length cap, .slice A2 ys.length cap2] w fun e w' => e = .returned (.bool (decide (xs = ys))) ∧ Below w.heap.size w w' := by
  unfold maxLen at hm hm2
  by_cases hn : xs.length = ys.length
  · have hb : ((xs.length : Int) != (ys.length : Int)) = false := by simp [hn]
    have Hn := Lib.hid hn; clear hn
    go_enter Tryz.func54, Tryz.ntmps54
    go_wp2
    go_loopw [5] (fun i wr => ∃ k : Nat, k ≤ xs.length ∧ i = .int .i64 k ∧ xs.take k = ys.take k ∧ Below w.heap.size w wr) (fun i _ => xs.length - (intOf i).toNat)
    case atStart => exact ⟨0, Nat.zero_le _, rfl, by simp, Below.refl _ _⟩
    case round =>
      obtain ⟨k, hk, rfl, hall, hbel⟩ := hrel
      have Hall := Lib.hid hall; clear hall
      by_cases hlt : k < xs.length
      · have hlt2 : k < ys.length := by have := Hn.out; omega
        obtain ⟨x, hx⟩ := get_of_lt hlt
        obtain ⟨y, hy⟩ := get_of_lt hlt2
        obtain ⟨b, o, rfl, hc⟩ := (h.ext hbel).here hlt
        obtain ⟨b2, o2, rfl, hc2⟩ := (h2.ext hbel).here hlt2
        obtain ⟨A3, cap3, hck, hin⟩ := hc k x hx
        obtain ⟨A4, cap4, hck2, hin2⟩ := hc2 k y hy
        have c1 : ∀ W : Ext wr, W.W.cell? ⟨b, o + k, none⟩ = some (.slice A3 x.length cap3) := fun W => W.cell hck
        have c2 : ∀ W : Ext wr, W.W.cell? ⟨b2, o2 + k, none⟩ = some (.slice A4 y.length cap4) := fun W => W.cell hck2
        have hin' : ∀ W : Ext wr, IntsAt W.W A3 x := fun W => hin.ext W.ok
        have hin2' : ∀ W : Ext wr, IntsAt W.W A4 y := fun W => hin2.ext W.ok
        have HX := Lib.hid hin'; have HY := Lib.hid hin2'
        have M1 := Lib.hid (hms x (List.mem_of_getElem? hx))
        have M2 := Lib.hid (hms2 y (List.mem_of_getElem? hy))
        have Hx := Lib.hid hx; have Hy := Lib.hid hy; clear hx hy hc hc2 h h2 hms hms2 hin hin2 hin' hin2' hck hck2
        by_cases hf : x = y
        · have F := Lib.hid (decide_eq_true hf)
          have HF := Lib.hid hf
          clear hf
          go_wp2
          refine wp_region_ext_lit (by kernel_rfl) (by kernel_rfl) ?_
          repeat (go_big_quiet_step ((go_at_call 55; exact Calls.ext_of (Calls.bool_eq' (eqIntS_any _ _ _ _ _ _ _ (HX.out _) (HY.out _) M1.out M2.out) F.out))))
          refine wpQuiet_nil ?_
          rintro _ ⟨W, rfl⟩
          go_wp2
          go_roundw
          case rel => exact ⟨k+1, by omega, by go_num, take_eq_succ Hall.out Hx.out (by rw [HF.out]; exact Hy.out), below_ext hbel W.ok⟩
          case measure => simp [intOf]; omega
        · have F := Lib.hid (decide_eq_false hf)
          have HF := Lib.hid hf
          clear hf
          go_wp2
          refine wp_region_ext_lit (by kernel_rfl) (by kernel_rfl) ?_
          repeat (go_big_quiet_step ((go_at_call 55; exact Calls.ext_of (Calls.bool_eq' (eqIntS_any _ _ _ _ _ _ _ (HX.out _) (HY.out _) M1.out M2.out) F.out))))
          refine wpQuiet_nil ?_
          rintro _ ⟨W, rfl⟩
          go_wp2
          go_ret
          exact ⟨ret_bool (decide_eq_false (ne_at Hx.out Hy.out HF.out)).symm, below_ext hbel W.ok⟩
      · go_wp2
        go_ret
        exact ⟨ret_bool (decide_eq_true (eq_of_take Hall.out (by omega) (by have := Hn.out; omega))).symm, hbel⟩
  · have hb : ((xs.length : Int) != (ys.length : Int)) = true := by simp; omega
    go_enter Tryz.func54, Tryz.ntmps54
    go_wp2
    go_ret
    exact ⟨ret_bool (decide_eq_false (fun e => hn (by rw [e]))).symm, Below.refl _ _⟩
end Go.Proofs.YtjdbfokbgmbphaaGreatDoor
