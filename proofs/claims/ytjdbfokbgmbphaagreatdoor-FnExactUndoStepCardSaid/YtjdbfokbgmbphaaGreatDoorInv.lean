/- Inverses and negatives in a field: the program's by squaring, the reference's by search: the same. Conditions: a prime of at most 97, an element that is not 0. -/
import Derived.Test.YtjdbfokbgmbphaaGreatDoorPlain
namespace Go.Proofs.YtjdbfokbgmbphaaGreatDoor
set_option linter.unusedVariables false
set_option linter.unusedSimpArgs false
open Go.RowKit

def powN : Nat → Int → Int → Int → Int → Int
  | 0, _, out, _, _ => out
  | f + 1, p, out, a, n => if 0 < n then powN f p (if n % 2 = 1 then out * a % p else out) (a * a % p) (n / 2) else out
def findN : Nat → Int → Int → Int → Int
  | 0, _, _, _ => 0
  | f + 1, p, a, x => if x < p then (if a * x % p = 1 then x else findN f p a (x + 1)) else 0
/-- The inverse. -/
def invP (p a : Int) : Int := findN 97 p a 1
def expP (p : Int) : Int := p - 2 + (if p = 2 then 1 else 0)

theorem inv_all : ((List.range 98).all fun p => (!fieldB (p : Nat)) || (List.range p).all fun a => decide (a = 0) || decide (powN 7 (p : Nat) (1 % (p : Nat)) (a : Nat) (expP (p : Nat)) = invP (p : Nat) (a : Nat))) = true := by decide +kernel
theorem inv_eq {p a : Int} (h : fieldB p = true) (h1 : 1 ≤ a) (h2 : a < p) : powN 7 p (1 % p) a (expP p) = invP p a := by
  obtain ⟨b1, b2⟩ := fieldB_bd h
  obtain ⟨q, rfl⟩ := Int.eq_ofNat_of_zero_le (show 0 ≤ p by omega)
  obtain ⟨c, rfl⟩ := Int.eq_ofNat_of_zero_le (show 0 ≤ a by omega)
  have h3 := List.all_eq_true.1 inv_all q (List.mem_range.2 (by omega))
  rw [h] at h3
  simp only [Bool.not_true, Bool.false_or, List.all_eq_true, List.mem_range, Bool.or_eq_true, decide_eq_true_eq] at h3
  rcases h3 c (by omega) with h4 | h4
  · omega
  · exact h4

theorem bit_any (b : Bool) (w : World) : Calls Tryz.prog 128 #[.bool b] w fun e w' => e = .returned (.int .i64 (if b = true then 1 else 0)) ∧ w = w' := by
  cases b
  all_goals
    go_enter Tryz.func128, Tryz.ntmps128
    go_wp2
    go_ret
    exact ⟨by simp, rfl⟩

theorem fdNeg_any (p a : Int) (w : World) (hp : 2 ≤ p) (hp' : p ≤ 97) (ha : 0 ≤ a) (ha' : a < p) : Calls Tryz.prog 97 #[.int .i64 p, .int .i64 a] w fun e w' => e = .returned (.int .i64 ((p - a) % p)) ∧ w = w' := by
  go_enter Tryz.func97, Tryz.ntmps97
  go_wp2
  go_ret
  exact ⟨rfl, rfl⟩

theorem mul97 {x y : Int} (h1 : 0 ≤ x) (h2 : x ≤ 97) (h3 : 0 ≤ y) (h4 : y ≤ 97) : 0 ≤ x * y ∧ x * y ≤ 9409 := by
  constructor
  · exact Int.mul_nonneg h1 h3
  · calc x * y ≤ 97 * y := Int.mul_le_mul_of_nonneg_right h2 h3
      _ ≤ 97 * 97 := Int.mul_le_mul_of_nonneg_left h4 (by omega)
      _ ≤ 9409 := by omega

set_option maxHeartbeats 1000000 in
theorem power_any (p a n : Int) (w : World) (hp : 2 ≤ p) (hp' : p ≤ 97) (ha : 0 ≤ a) (ha' : a ≤ 97) (hn : 0 ≤ n) (hn' : n < 128) :
    Calls Tryz.prog 127 #[.int .i64 p, .int .i64 a, .int .i64 n] w fun e w' => e = .returned (.int .i64 (powN 7 p (1 % p) a n)) ∧ w = w' := by
  have h10 : 0 ≤ 1 % p := Int.emod_nonneg _ (by omega)
  have h11 : 1 % p < p := Int.emod_lt_of_pos _ (by omega)
  obtain ⟨R, hR⟩ : ∃ R, R = powN 7 p (1 % p) a n := ⟨_, rfl⟩
  rw [← hR]
  have HR := Lib.hid hR
  clear hR
  go_enter Tryz.func127, Tryz.ntmps127
  go_wp2
  go_loop [1, 2, 7] (fun x y z => ∃ (f : Nat) (b m o : Int), x = .int .i64 b ∧ y = .int .i64 m ∧ z = .int .i64 o ∧ 0 ≤ b ∧ b ≤ 97 ∧ 0 ≤ o ∧ o ≤ 97 ∧ 0 ≤ m ∧ m < 2 ^ f ∧ m < 128 ∧ R = powN f p o b m) (fun _ y _ => (intOf y).toNat)
  case atStart => exact ⟨7, _, _, _, rfl, rfl, rfl, by omega, by omega, by omega, by omega, by omega, by omega, by omega, HR.out⟩
  case round =>
    obtain ⟨f, b, m, o, rfl, rfl, rfl, hb, hb', ho, ho', hm, hmf, hm2, hr⟩ := hrel
    have HRR := Lib.hid hr; have HF := Lib.hid hmf
    clear hr hmf HR
    by_cases h0 : 0 < m
    · obtain ⟨e1, e2⟩ := mul97 hb hb' hb hb'
      obtain ⟨e3, e4⟩ := mul97 ho ho' hb hb'
      have g1 : 0 ≤ b * b % p := Int.emod_nonneg _ (by omega)
      have g2 : b * b % p < p := Int.emod_lt_of_pos _ (by omega)
      have g3 : 0 ≤ o * b % p := Int.emod_nonneg _ (by omega)
      have g4 : o * b % p < p := Int.emod_lt_of_pos _ (by omega)
      have fs : ∃ f', f = f' + 1 := by
        cases f with
        | zero => have := HF.out; simp at this; omega
        | succ f => exact ⟨f, rfl⟩
      obtain ⟨f', rfl⟩ := fs
      have HM := Lib.hid (show m / 2 < 2 ^ f' by have := HF.out; rw [Int.pow_succ] at this; omega)
      by_cases hodd : m % 2 = 1
      · have hob : (m % 2 == 1) = true := by simp [hodd]
        have HO := Lib.hid hodd; clear hodd
        go_wp2
        go_round
        case rel => exact ⟨f', _, _, _, rfl, rfl, rfl, by omega, by omega, by omega, by omega, by omega, HM.out, by omega, by rw [HRR.out, powN, if_pos h0, if_pos HO.out]⟩
        case measure => simp [intOf]; omega
      · have hob : (m % 2 == 1) = false := by simp [hodd]
        have HO := Lib.hid hodd; clear hodd
        go_wp2
        go_round
        case rel => exact ⟨f', _, _, _, rfl, rfl, rfl, by omega, by omega, by omega, by omega, by omega, HM.out, by omega, by rw [HRR.out, powN, if_pos h0, if_neg HO.out]⟩
        case measure => simp [intOf]; omega
    · have H0 := Lib.hid h0
      go_wp2
      go_ret
      exact ⟨ret_int (by rw [HRR.out]; cases f with | zero => rfl | succ f => rw [powN, if_neg (by have := H0.out; omega)]), rfl⟩

theorem inverse_any (p a : Int) (w : World) (hf : fieldB p = true) (ha : 1 ≤ a) (ha' : a < p) :
    Calls Tryz.prog 116 #[.int .i64 p, .int .i64 a] w fun e w' => e = .returned (.int .i64 (invP p a)) ∧ w = w' := by
  obtain ⟨hp, hp'⟩ := fieldB_bd hf
  have HF := Lib.hid hf
  clear hf
  by_cases h2 : p = 2
  · have hb : (p == 2) = true := by simp [h2]
    have HI := Lib.hid (show powN 7 p (1 % p) a (p - 2 + 1) = invP p a by rw [← inv_eq HF.out ha ha', expP, if_pos h2])
    have H2 := Lib.hid h2
    clear h2
    go_enter Tryz.func116, Tryz.ntmps116
    go_wp2_with (first | (go_at_call 128; refine (bit_any true _).mono ?_; rintro e w' ⟨rfl, rfl⟩) | (go_at_call 127; refine (power_any p a _ _ hp hp' (by omega) (by omega) (by omega) (by omega)).mono ?_; rintro e w' ⟨rfl, rfl⟩))
    go_ret
    exact ⟨ret_int (by first | exact HI.out | (simpa using HI.out)), rfl⟩
  · have hb : (p == 2) = false := by simp [h2]
    have HI := Lib.hid (show powN 7 p (1 % p) a (p - 2) = invP p a by rw [← inv_eq HF.out ha ha', expP, if_neg h2, Int.add_zero])
    have H2 := Lib.hid h2
    clear h2
    go_enter Tryz.func116, Tryz.ntmps116
    go_wp2_with (first | (go_at_call 128; refine (bit_any false _).mono ?_; rintro e w' ⟨rfl, rfl⟩) | (go_at_call 127; refine (power_any p a _ _ hp hp' (by omega) (by omega) (by omega) (by omega)).mono ?_; rintro e w' ⟨rfl, rfl⟩))
    go_ret
    exact ⟨ret_int (by first | exact HI.out | (simpa using HI.out)), rfl⟩

set_option maxHeartbeats 1000000 in
theorem fdInv_any (p a : Int) (w : World) (hp : 2 ≤ p) (hp' : p ≤ 97) (ha : 0 ≤ a) (ha' : a < p) :
    Calls Tryz.prog 96 #[.int .i64 p, .int .i64 a] w fun e w' => e = .returned (.int .i64 (invP p a)) ∧ w = w' := by
  obtain ⟨R, hR⟩ : ∃ R, R = invP p a := ⟨_, rfl⟩
  rw [← hR]
  have HR := Lib.hid hR
  clear hR
  go_enter Tryz.func96, Tryz.ntmps96
  go_wp2
  go_loop [5] (fun x => ∃ (f : Nat) (m : Int), x = .int .i64 m ∧ 1 ≤ m ∧ m ≤ p ∧ p - m < f ∧ R = findN f p a m) (fun x => (p - intOf x).toNat)
  case atStart => exact ⟨97, 1, rfl, by omega, by omega, by omega, HR.out⟩
  case round =>
    obtain ⟨f, m, rfl, hm, hm', hf, hr⟩ := hrel
    have HRR := Lib.hid hr
    clear hr HR
    obtain ⟨e1, e2⟩ := mul97 ha (by omega) (show 0 ≤ m by omega) (by omega)
    obtain ⟨f', rfl⟩ : ∃ f', f = f' + 1 := ⟨f - 1, by omega⟩
    by_cases hlt : m < p
    · by_cases h1 : a * m % p = 1
      · have hb : (a * m % p == 1) = true := by simp [h1]
        have H1 := Lib.hid h1; clear h1
        go_wp2
        go_ret
        exact ⟨ret_int (by rw [HRR.out, findN, if_pos hlt, if_pos H1.out]), rfl⟩
      · have hb : (a * m % p == 1) = false := by simp [h1]
        have H1 := Lib.hid h1; clear h1
        go_wp2
        go_round
        case rel => exact ⟨f', _, rfl, by omega, by omega, by omega, by rw [HRR.out, findN, if_pos hlt, if_neg H1.out]⟩
        case measure => simp [intOf]; omega
    · go_wp2
      go_ret
      exact ⟨ret_int (by rw [HRR.out, findN, if_neg (by omega)]), rfl⟩
end Go.Proofs.YtjdbfokbgmbphaaGreatDoor
