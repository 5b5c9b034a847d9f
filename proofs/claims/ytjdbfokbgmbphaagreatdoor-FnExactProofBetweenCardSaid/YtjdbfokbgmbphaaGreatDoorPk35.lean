/- The reducer's method clear, on both sides. Conditions: the system is valid; the table of primes is laid. -/
import Derived.Test.YtjdbfokbgmbphaaGreatDoorPk34
namespace Go.Proofs.YtjdbfokbgmbphaaGreatDoor
set_option linter.unusedVariables false
set_option linter.unusedSimpArgs false
open Go.RowKit
theorem RedAt.ext {T : TypeId} {w wr wr' : World} {b : Nat} {p : Int} {s : Sy} {X : List Stp} (h : RedAt T w wr b p s X) (hb : Below wr.heap.size wr wr') : RedAt T w wr' b p s X := by
 obtain ⟨h1, h2, A, c, A8, c8, us, hq, hk, ho⟩ := h
 exact ⟨h1, below_ext h2 hb, A, c, A8, c8, us, box_at hq hb, hk.ext hb, ho.ext hb⟩
theorem RedAt.lt {T : TypeId} {w wr : World} {b : Nat} {p : Int} {s : Sy} {X : List Stp} (h : RedAt T w wr b p s X) : b < wr.heap.size := by
 obtain ⟨h1, h2, A, c, A8, c8, us, hq, hk, ho⟩ := h
 exact (Array.getElem?_eq_some_iff.1 hq).1
/-- The cells that reading an entry meets. -/
theorem RedAt.cells {T : TypeId} {w wr : World} {b : Nat} {p : Int} {s : Sy} {X : List Stp} (h : RedAt T w wr b p s X) (hok : s.Ok p) {i c : Nat} (hi : i < s.rows.length) (hc : (c : Int) < s.v + s.h) :
  ∃ ca bb o b2 o2 n2 c2, wr.cell? ⟨b, 0, none⟩ = some (.int .i64 p) ∧ wr.cell? ⟨b, 1, none⟩ = some (.int .i64 s.v) ∧ wr.cell? ⟨b, 2, none⟩ = some (.int .i64 s.h) ∧ wr.cell? ⟨b, 3, none⟩ = some (.slice (some ⟨bb, o, none⟩) s.rows.length ca) ∧ wr.cell? ⟨bb, o + i, none⟩ = some (.slice (some ⟨b2, o2, none⟩) n2 c2) ∧ c < n2 ∧ n2 ≤ 1000 ∧ wr.cell? ⟨b2, o2 + c, none⟩ = some (.int .i64 (ent s i c)) := by
 obtain ⟨_, hbel, A, ca, A8, c8, us, hq, hk, _⟩ := h
 obtain ⟨y0, y1, y2, y3, y4⟩ := cells_5 hq
 obtain ⟨q, hqi⟩ := get_of_lt hi
 have hl := Sys.len hok q (List.mem_of_getElem? hqi)
 have hs := hok.small.len q (List.mem_of_getElem? hqi)
 have hcq : c < q.length := by omega
 obtain ⟨x, hx⟩ := get_of_lt hcq
 obtain ⟨bb, o, rfl, hc1⟩ := (hk.rows hbel).here hi
 obtain ⟨A', cap', hck, hin⟩ := hc1 i q hqi
 obtain ⟨b2, o2, rfl, hc2⟩ := hin.here hcq
 exact ⟨ca, bb, o, b2, o2, q.length, cap', y0, y1, y2, y3, hck, hcq, hs, by rw [ent_get hqi hx]; exact hc2 c x hx⟩
theorem clr_len (p : Int) (a c : Nat) (iv : Int) (q : Sy × List Stp) : ∀ i, (clr p a c iv i q).2.length ≤ q.2.length + i
 | 0 => Nat.le_refl _
 | i + 1 => by
  have := clr_len p a c iv q i
  unfold clr
  split
  ·simp [push]; omega
  ·omega
theorem neg_mod {p y : Int} (hp : 0 < p) : (p - y % p) % p = (-y) % p := by
 rw [show p - y % p = -(y % p) + p by omega, Int.add_emod_right]
 have h := Int.emod_add_mul_ediv y p
 rw [show -y = -(y % p) + -(y / p) * p by rw [Int.neg_mul, Int.mul_comm (y / p) p]; omega, Int.add_mul_emod_self_right]
theorem mul_small {x y : Int} (h1 : 0 ≤ x) (h2 : x ≤ 97) (h3 : 0 ≤ y) (h4 : y ≤ 97) : 0 ≤ x * y ∧ x * y ≤ 9409 := mul97 h1 h2 h3 h4
set_option maxRecDepth 100000 in
set_option maxHeartbeats 8000000 in
theorem implClear (w w0 : World) (bb : Nat) (p : Int) (s : Sy) (X : List Stp) (a c : Nat) (hP : Primes w) (h : RedAt 109 w w0 bb p s X) (hok : s.Ok p) (ha : a < s.rows.length) (hc : (c : Int) < s.v + s.h) (hne : ent s a c ≠ 0) (hX : X.length ≤ 900000) :
  Calls Tryz.prog 115 #[.pointer (some ⟨bb, 0, none⟩), .int .i64 a, .int .i64 c] w0 fun e w' => e = .returned (.tuple #[]) ∧ RedAt 109 w w' bb p (clr p a c (invP p (ent s a c)) s.rows.length (s, X)).1 (clr p a c (invP p (ent s a c)) s.rows.length (s, X)).2 ∧ Below bb w0 w' := by
 have hn160 := hok.small.n
 have hp2 := Sys.p2 hok; have hp97 := Sys.p97 hok
 have heb := ent_bd hok ha hc
 obtain ⟨e0, he⟩ : ∃ e0, e0 = ent s a c := ⟨_, rfl⟩
 rw [← he] at heb hne ⊢
 have he0 : 0 ≤ e0 := heb.1
 have he1 : 1 ≤ e0 := by omega
 have he2 : e0 < p := heb.2
 have HF := Lib.hid (Sys.f hok)
 obtain ⟨i1, i2, i3⟩ := inv_spec HF.out he1 he2
 obtain ⟨iv, hiv⟩ : ∃ iv, iv = invP p e0 := ⟨_, rfl⟩
 have INV := Lib.hid (fun (W : World) => (inverse_any p e0 _ HF.out he1 he2 : Calls Tryz.prog 116 #[.int .i64 p, .int .i64 e0] W _))
 rw [← hiv] at INV i1 i2 i3 ⊢
 have HIV := Lib.hid i1
 obtain ⟨ca, g, o, b2, o2, n2, c2, y0, y1, y2, y3, z1, hcn, hn2, z2⟩ := h.cells hok ha hc
 rw [← he] at z2
 have HE := Lib.hid he
 have HH := Lib.hid h; have HOK := Lib.hid hok
 have hlt0 := h.lt
 clear i1 he hiv heb h hok hne
 have f0 : ∀ W : Ext w0, W.W.cell? ⟨bb, 0, none⟩ = some (.int .i64 p) := fun W => W.cell y0
 have f3 : ∀ W : Ext w0, W.W.cell? ⟨bb, 3, none⟩ = some (.slice (some ⟨g, o, none⟩) s.rows.length ca) := fun W => W.cell y3
 have g1 : ∀ W : Ext w0, W.W.cell? ⟨g, o + a, none⟩ = some (.slice (some ⟨b2, o2, none⟩) n2 c2) := fun W => W.cell z1
 have g2 : ∀ W : Ext w0, W.W.cell? ⟨b2, o2 + c, none⟩ = some (.int .i64 e0) := fun W => W.cell z2
 have hai : (a : Int) < (s.rows.length : Int) := by omega
 have hci : (c : Int) < (n2 : Int) := by omega
 have ha0 : (0 : Int) ≤ (a : Int) := by omega
 have hc0 : (0 : Int) ≤ (c : Int) := by omega
 clear y0 y1 y2 y3 z1 z2
 go_enter Tryz.func115, Tryz.ntmps115
 go_wp2
 refine wp_region_ext_lit (by kernel_rfl) (by kernel_rfl) ?_
 repeat (go_big_quiet_step ((go_at_call 116; exact Calls.ext_of_same (INV.out _))))
 refine wpQuiet_nil ?_
 rintro _ ⟨W, rfl⟩
 have HB0 := Lib.hid W.ok
 have HRW := Lib.hid (HH.out.ext W.ok)
 have q3 := f3 W
 obtain ⟨w1, hw1⟩ : ∃ w1, w1 = W.W := ⟨_, rfl⟩
 rw [← hw1] at HB0 HRW q3 ⊢
 clear f0 f3 g1 g2 hw1 HH
 go_wp2
 clear q3
 go_loopw [31] (fun i wr => ∃ k : Nat, k ≤ s.rows.length ∧ i = .int .i64 k ∧ RedAt 109 w wr bb p (clr p a c iv k (s, X)).1 (clr p a c iv k (s, X)).2 ∧ Below bb w0 wr)
  (fun i _ => s.rows.length - (intOf i).toNat)
 case atStart => exact ⟨0, Nat.zero_le _, rfl, HRW.out, HB0.out.mono (by omega)⟩
 case round =>
  obtain ⟨k, hk, rfl, hra, hbel⟩ := hrel
  clear HRW HB0
  have hcl := clr_all (p := p) (a := a) (c := c) (iv := iv) (X := X) HOK.out ha hc (by rw [← HE.out]; exact HIV.out) k hk
  have hlen := clr_len p a c iv (s, X) k
  obtain ⟨t, ht⟩ : ∃ t, t = (clr p a c iv k (s, X)).1 := ⟨_, rfl⟩
  obtain ⟨Xk, hXk'⟩ : ∃ Xk, Xk = (clr p a c iv k (s, X)).2 := ⟨_, rfl⟩
  rw [← ht] at hra hcl
  rw [← hXk'] at hra hlen
  have hXk : Xk.length ≤ 1000000 := by dsimp only at hlen; omega
  have HT := Lib.hid ht; have HX' := Lib.hid hXk'; have HCL := Lib.hid hcl; have HBEL := Lib.hid hbel; have HRA := Lib.hid hra
  have HOKT := Lib.hid hcl.ok
  have htn : t.rows.length = s.rows.length := hcl.n
  have HTN := Lib.hid htn
  have htn1 : t.rows.length ≤ s.rows.length := by omega
  have htn2 : s.rows.length ≤ t.rows.length := by omega
  have hct : (c : Int) < t.v + t.h := by rw [hcl.v, hcl.h]; exact hc
  have HCT := Lib.hid hct
  clear hlen ht hXk' hcl hbel hra htn hct
  by_cases hlt : k < s.rows.length
  ·obtain ⟨ca, g, o, b2, o2, n2, c2, y0, y1, y2, y3, z1, hcn, hn2, z2⟩ := HRA.out.cells HOKT.out (show k < t.rows.length by omega) HCT.out
   have hxb := ent_bd HOKT.out (show k < t.rows.length by omega) HCT.out
   have hst := clr_step (p := p) (a := a) (c := c) (iv := iv) hp2 ha hc (by rw [← HE.out]; exact HIV.out) HCL.out hlt
   obtain ⟨x, hx⟩ : ∃ x, x = ent t k c := ⟨_, rfl⟩
   have hcs : clr p a c iv (k + 1) (s, X) = if k ≠ a ∧ x ≠ 0 then push p (t, Xk) ⟨3, a, k, (-(x * iv)) % p, []⟩ else (t, Xk) := by
    rw [hx, HT.out, HX'.out]; rfl
   unfold clrX at hst
   rw [← hx] at z2 hxb hst
   obtain ⟨hx0, hx1⟩ := hxb
   have HCS := Lib.hid hcs; have HST := Lib.hid hst
   clear hx hcs hst
   by_cases hka : k = a
   ·have hb1 : ((k : Int) != (a : Int)) = false := by simp [hka]
    have hb2 : (k != a) = false := by simp [hka]
    have HKA := Lib.hid hka
    clear hka
    go_wp2
    go_roundw
    case rel => exact ⟨k + 1, by omega, by go_num, by rw [HCS.out, if_neg (by simp [HKA.out])]; exact HRA.out, HBEL.out⟩
    case measure => simp [intOf]; omega
   ·have hb1 : ((k : Int) != (a : Int)) = true := by simp; omega
    have hb2 : (k != a) = true := by simp [hka]
    have HKA := Lib.hid hka
    clear hka
    by_cases hz : x = 0
    ·have hz1 : (x != 0) = false := by simp [hz]
     have HZ := Lib.hid hz
     clear hz
     go_wp2
     go_roundw
     case rel => exact ⟨k + 1, by omega, by go_num, by rw [HCS.out, if_neg (by simp [HZ.out])]; exact HRA.out, HBEL.out⟩
     case measure => simp [intOf]; omega
    ·have hz1 : (x != 0) = true := by simp [hz]
     have HOK3 := Lib.hid ((HST.out.1 ⟨HKA.out, hz⟩).1)
     have HZ := Lib.hid hz
     have hmm := mul_small hx0 (show x ≤ 97 by omega) (show 0 ≤ iv by omega) (show iv ≤ 97 by omega)
     obtain ⟨F, hF⟩ : ∃ F, F = (-(x * iv)) % p := ⟨_, rfl⟩
     rw [← hF] at HCS HOK3
     clear hz HST
     have MOD := Lib.hid (mod_any p (-x * iv) wr (by omega) (by omega) (by rw [Int.neg_mul]; omega) (by rw [Int.neg_mul]; omega))
     rw [show (-x * iv) % p = F by rw [Int.neg_mul, hF]] at MOD
     have hm1 : -1000000 ≤ -x * iv := by rw [Int.neg_mul]; omega
     have hm2 : -x * iv ≤ 1000000 := by rw [Int.neg_mul]; omega
     have MK := Lib.hid (implMake w wr bb p t Xk 3 a k F hP HRA.out HOKT.out HOK3.out hXk)
     have HFF := Lib.hid hF
     clear hF
     go_wp2_with (first | (go_at_call 126; refine MOD.out.mono ?_; rintro e w2 ⟨rfl, rfl⟩) | (go_at_call 114; refine MK.out.mono ?_; rintro e w3 ⟨rfl, hr3, hb3⟩; have HR3 := Lib.hid hr3; have HB3 := Lib.hid hb3; clear hr3 hb3))
     go_roundw
     case rel => exact ⟨k + 1, by omega, by go_num, by rw [HCS.out, if_pos ⟨HKA.out, HZ.out⟩]; exact HR3.out, HBEL.out.trans HB3.out⟩
     case measure => simp [intOf]; omega
  ·have HKN := Lib.hid (show k = s.rows.length by omega)
   go_wp2
   go_end0
   exact ⟨rfl, by rw [← HKN.out, ← HT.out, ← HX'.out]; exact HRA.out, HBEL.out⟩
set_option maxRecDepth 100000 in
set_option maxHeartbeats 8000000 in
theorem specClear (w w0 : World) (bb : Nat) (p : Int) (s : Sy) (X : List Stp) (a c : Nat) (h : RedAt 104 w w0 bb p s X) (hok : s.Ok p) (ha : a < s.rows.length) (hc : (c : Int) < s.v + s.h) (hne : ent s a c ≠ 0) (hX : X.length ≤ 900000) :
  Calls Tryz.prog 100 #[.pointer (some ⟨bb, 0, none⟩), .int .i64 a, .int .i64 c] w0 fun e w' => e = .returned (.tuple #[]) ∧ RedAt 104 w w' bb p (clr p a c (invP p (ent s a c)) s.rows.length (s, X)).1 (clr p a c (invP p (ent s a c)) s.rows.length (s, X)).2 ∧ Below bb w0 w' := by
 have hn160 := hok.small.n
 have hp2 := Sys.p2 hok; have hp97 := Sys.p97 hok
 have heb := ent_bd hok ha hc
 obtain ⟨e0, he⟩ : ∃ e0, e0 = ent s a c := ⟨_, rfl⟩
 rw [← he] at heb hne ⊢
 have he0 : 0 ≤ e0 := heb.1
 have he1 : 1 ≤ e0 := by omega
 have he2 : e0 < p := heb.2
 have HF := Lib.hid (Sys.f hok)
 obtain ⟨i1, i2, i3⟩ := inv_spec HF.out he1 he2
 obtain ⟨iv, hiv⟩ : ∃ iv, iv = invP p e0 := ⟨_, rfl⟩
 have INV := Lib.hid (fun (W : World) => (fdInv_any p e0 _ hp2 hp97 he0 he2 : Calls Tryz.prog 96 #[.int .i64 p, .int .i64 e0] W _))
 rw [← hiv] at INV i1 i2 i3 ⊢
 have HIV := Lib.hid i1
 obtain ⟨ca, g, o, b2, o2, n2, c2, y0, y1, y2, y3, z1, hcn, hn2, z2⟩ := h.cells hok ha hc
 rw [← he] at z2
 have HE := Lib.hid he
 have HH := Lib.hid h; have HOK := Lib.hid hok
 have hlt0 := h.lt
 clear i1 he hiv heb h hok hne
 have f0 : ∀ W : Ext w0, W.W.cell? ⟨bb, 0, none⟩ = some (.int .i64 p) := fun W => W.cell y0
 have f3 : ∀ W : Ext w0, W.W.cell? ⟨bb, 3, none⟩ = some (.slice (some ⟨g, o, none⟩) s.rows.length ca) := fun W => W.cell y3
 have g1 : ∀ W : Ext w0, W.W.cell? ⟨g, o + a, none⟩ = some (.slice (some ⟨b2, o2, none⟩) n2 c2) := fun W => W.cell z1
 have g2 : ∀ W : Ext w0, W.W.cell? ⟨b2, o2 + c, none⟩ = some (.int .i64 e0) := fun W => W.cell z2
 have hai : (a : Int) < (s.rows.length : Int) := by omega
 have hci : (c : Int) < (n2 : Int) := by omega
 have ha0 : (0 : Int) ≤ (a : Int) := by omega
 have hc0 : (0 : Int) ≤ (c : Int) := by omega
 clear y0 y1 y2 y3 z1 z2
 go_enter Tryz.func100, Tryz.ntmps100
 go_wp2
 refine wp_region_ext_lit (by kernel_rfl) (by kernel_rfl) ?_
 repeat (go_big_quiet_step ((go_at_call 96; exact Calls.ext_of_same (INV.out _))))
 refine wpQuiet_nil ?_
 rintro _ ⟨W, rfl⟩
 have HB0 := Lib.hid W.ok
 have HRW := Lib.hid (HH.out.ext W.ok)
 have q3 := f3 W
 obtain ⟨w1, hw1⟩ : ∃ w1, w1 = W.W := ⟨_, rfl⟩
 rw [← hw1] at HB0 HRW q3 ⊢
 clear f0 f3 g1 g2 hw1 HH
 go_wp2
 clear q3
 go_loopw [31] (fun i wr => ∃ k : Nat, k ≤ s.rows.length ∧ i = .int .i64 k ∧ RedAt 104 w wr bb p (clr p a c iv k (s, X)).1 (clr p a c iv k (s, X)).2 ∧ Below bb w0 wr)
  (fun i _ => s.rows.length - (intOf i).toNat)
 case atStart => exact ⟨0, Nat.zero_le _, rfl, HRW.out, HB0.out.mono (by omega)⟩
 case round =>
  obtain ⟨k, hk, rfl, hra, hbel⟩ := hrel
  clear HRW HB0
  have hcl := clr_all (p := p) (a := a) (c := c) (iv := iv) (X := X) HOK.out ha hc (by rw [← HE.out]; exact HIV.out) k hk
  have hlen := clr_len p a c iv (s, X) k
  obtain ⟨t, ht⟩ : ∃ t, t = (clr p a c iv k (s, X)).1 := ⟨_, rfl⟩
  obtain ⟨Xk, hXk'⟩ : ∃ Xk, Xk = (clr p a c iv k (s, X)).2 := ⟨_, rfl⟩
  rw [← ht] at hra hcl
  rw [← hXk'] at hra hlen
  have hXk : Xk.length ≤ 1000000 := by dsimp only at hlen; omega
  have HT := Lib.hid ht; have HX' := Lib.hid hXk'; have HCL := Lib.hid hcl; have HBEL := Lib.hid hbel; have HRA := Lib.hid hra
  have HOKT := Lib.hid hcl.ok
  have htn : t.rows.length = s.rows.length := hcl.n
  have HTN := Lib.hid htn
  have htn1 : t.rows.length ≤ s.rows.length := by omega
  have htn2 : s.rows.length ≤ t.rows.length := by omega
  have hct : (c : Int) < t.v + t.h := by rw [hcl.v, hcl.h]; exact hc
  have HCT := Lib.hid hct
  clear hlen ht hXk' hcl hbel hra htn hct
  by_cases hlt : k < s.rows.length
  ·obtain ⟨ca, g, o, b2, o2, n2, c2, y0, y1, y2, y3, z1, hcn, hn2, z2⟩ := HRA.out.cells HOKT.out (show k < t.rows.length by omega) HCT.out
   have hxb := ent_bd HOKT.out (show k < t.rows.length by omega) HCT.out
   have hst := clr_step (p := p) (a := a) (c := c) (iv := iv) hp2 ha hc (by rw [← HE.out]; exact HIV.out) HCL.out hlt
   obtain ⟨x, hx⟩ : ∃ x, x = ent t k c := ⟨_, rfl⟩
   have hcs : clr p a c iv (k + 1) (s, X) = if k ≠ a ∧ x ≠ 0 then push p (t, Xk) ⟨3, a, k, (-(x * iv)) % p, []⟩ else (t, Xk) := by
    rw [hx, HT.out, HX'.out]; rfl
   unfold clrX at hst
   rw [← hx] at z2 hxb hst
   obtain ⟨hx0, hx1⟩ := hxb
   have HCS := Lib.hid hcs; have HST := Lib.hid hst
   clear hx hcs hst
   by_cases hka : k = a
   ·have hb1 : ((k : Int) != (a : Int)) = false := by simp [hka]
    have hb2 : (k != a) = false := by simp [hka]
    have HKA := Lib.hid hka
    clear hka
    go_wp2
    go_roundw
    case rel => exact ⟨k + 1, by omega, by go_num, by rw [HCS.out, if_neg (by simp [HKA.out])]; exact HRA.out, HBEL.out⟩
    case measure => simp [intOf]; omega
   ·have hb1 : ((k : Int) != (a : Int)) = true := by simp; omega
    have hb2 : (k != a) = true := by simp [hka]
    have HKA := Lib.hid hka
    clear hka
    by_cases hz : x = 0
    ·have hz1 : (x != 0) = false := by simp [hz]
     have HZ := Lib.hid hz
     clear hz
     go_wp2
     go_roundw
     case rel => exact ⟨k + 1, by omega, by go_num, by rw [HCS.out, if_neg (by simp [HZ.out])]; exact HRA.out, HBEL.out⟩
     case measure => simp [intOf]; omega
    ·have hz1 : (x != 0) = true := by simp [hz]
     have HOK3 := Lib.hid ((HST.out.1 ⟨HKA.out, hz⟩).1)
     have HZ := Lib.hid hz
     have hmm := mul_small hx0 (show x ≤ 97 by omega) (show 0 ≤ iv by omega) (show iv ≤ 97 by omega)
     obtain ⟨F, hF⟩ : ∃ F, F = (-(x * iv)) % p := ⟨_, rfl⟩
     rw [← hF] at HCS HOK3
     clear hz HST
     have FDM := Lib.hid (fun W => fdMul_any p x iv W (by omega) (by omega) (by omega) (by omega) (by omega) (by omega))
     have hmod := mod_elem (p := p) (x := x * iv) hp2
     have FDN := Lib.hid (fun W => fdNeg_any p ((x * iv) % p) W hp2 hp97 hmod.1 hmod.2)
     have HFN : (p - x * iv % p) % p = F := by rw [hF]; exact neg_mod (by omega)
     rw [HFN] at FDN
     have MK := Lib.hid (fun W (h : RedAt 104 w W bb p t Xk) => specMake w W bb p t Xk 3 a k F h HOKT.out HOK3.out hXk)
     have HFF := Lib.hid hF
     clear hF HFN hmod
     go_upto_region 6 with (fail)
     refine wp_region_T (S := fun W => W.cell? ⟨bb, 0, none⟩ = some (.int .i64 p)) 16 (by kernel_rfl) y0 (fun hHeld => ?_)
     refine takeQ 0 (v := ?_) rfl (Or.inl ⟨by rfl, ?_⟩) ?_
     rotate_left
     ·intro w h; (try dsimp only at h); go_simp; (try with_reducible rfl)
     simp only [Act.put, List.setIfInBounds_toArray, List.set_cons_zero, List.set_cons_succ]
     refine takeQ 1 (v := ?_) rfl (Or.inl ⟨by rfl, ?_⟩) ?_
     rotate_left
     ·intro w h; (try dsimp only at h); go_simp; (try with_reducible rfl)
     simp only [Act.put, List.setIfInBounds_toArray, List.set_cons_zero, List.set_cons_succ]
     refine takeQ 2 (v := ?_) rfl (Or.inl ⟨by rfl, ?_⟩) ?_
     rotate_left
     ·intro w h; (try dsimp only at h); go_simp; (try with_reducible rfl)
     simp only [Act.put, List.setIfInBounds_toArray, List.set_cons_zero, List.set_cons_succ]
     refine takeQ 3 (v := ?_) rfl (Or.inl ⟨by rfl, ?_⟩) ?_
     rotate_left
     ·intro w h; (try dsimp only at h); go_simp; (try with_reducible rfl)
     simp only [Act.put, List.setIfInBounds_toArray, List.set_cons_zero, List.set_cons_succ]
     refine takeQ 4 (v := ?_) rfl (Or.inl ⟨by rfl, ?_⟩) ?_
     rotate_left
     ·intro w h; (try dsimp only at h); go_simp; (try with_reducible rfl)
     simp only [Act.put, List.setIfInBounds_toArray, List.set_cons_zero, List.set_cons_succ]
     refine takeQ 5 (v := ?_) rfl (Or.inl ⟨by rfl, ?_⟩) ?_
     rotate_left
     ·intro w h; (try dsimp only at h); go_simp; (try with_reducible rfl)
     simp only [Act.put, List.setIfInBounds_toArray, List.set_cons_zero, List.set_cons_succ]
     refine takeQ 6 (v := ?_) rfl (Or.inl ⟨by rfl, ?_⟩) ?_
     rotate_left
     ·intro w h; (try dsimp only at h); go_simp; (try with_reducible rfl)
     simp only [Act.put, List.setIfInBounds_toArray, List.set_cons_zero, List.set_cons_succ]
     refine takeQ 7 (v := ?_) rfl (Or.inl ⟨by rfl, ?_⟩) ?_
     rotate_left
     ·intro w h; (try dsimp only at h); go_simp; (try with_reducible rfl)
     simp only [Act.put, List.setIfInBounds_toArray, List.set_cons_zero, List.set_cons_succ]
     refine takeQ 8 (v := ?_) rfl (Or.inl ⟨by rfl, ?_⟩) ?_
     rotate_left
     ·intro w h; (try dsimp only at h); go_simp; (try with_reducible rfl)
     simp only [Act.put, List.setIfInBounds_toArray, List.set_cons_zero, List.set_cons_succ]
     refine takeQ 9 (v := ?_) rfl (Or.inl ⟨by rfl, ?_⟩) ?_
     rotate_left
     ·intro w h; (try dsimp only at h); go_simp; (try with_reducible rfl)
     simp only [Act.put, List.setIfInBounds_toArray, List.set_cons_zero, List.set_cons_succ]
     refine takeQ 10 (v := ?_) rfl (Or.inl ⟨by rfl, ?_⟩) ?_
     rotate_left
     ·intro w h; (try dsimp only at h); go_simp; (try with_reducible rfl)
     simp only [Act.put, List.setIfInBounds_toArray, List.set_cons_zero, List.set_cons_succ]
     refine takeQ 11 (v := ?_) rfl (Or.inl ⟨by rfl, ?_⟩) ?_
     rotate_left
     ·intro w h; (try dsimp only at h); go_simp; (try with_reducible rfl)
     simp only [Act.put, List.setIfInBounds_toArray, List.set_cons_zero, List.set_cons_succ]
     refine takeQ 12 (v := ?_) rfl (Or.inl ⟨by rfl, ?_⟩) ?_
     rotate_left
     ·intro w h; (try dsimp only at h); go_simp; (try with_reducible rfl)
     simp only [Act.put, List.setIfInBounds_toArray, List.set_cons_zero, List.set_cons_succ]
     refine oneT (i := 13) (by kernel_rfl) rfl (fun K hK => ?_)
     go_simp
     refine (FDM.out _).mono ?_
     rintro e w2 ⟨rfl, rfl⟩
     go_simp
     refine hK.out _ _ (fun _ => hHeld) (fun hHeld => ?_)
     clear hK K
     try simp only [Act.put, List.setIfInBounds_toArray, List.set_cons_zero, List.set_cons_succ]
     have hHeld := hHeld (by decide)
     refine oneT (i := 14) (by kernel_rfl) rfl (fun K hK => ?_)
     go_simp
     refine (FDN.out _).mono ?_
     rintro e w2 ⟨rfl, rfl⟩
     go_simp
     refine hK.out _ _ (fun _ => hHeld) (fun hHeld => ?_)
     clear hK K
     try simp only [Act.put, List.setIfInBounds_toArray, List.set_cons_zero, List.set_cons_succ]
     have hHeld := hHeld (by decide)
     refine takeQ 15 (v := ?_) rfl (Or.inl ⟨by rfl, ?_⟩) ?_
     rotate_left
     ·intro w h; (try dsimp only at h); go_simp; (try with_reducible rfl)
     simp only [Act.put, List.setIfInBounds_toArray, List.set_cons_zero, List.set_cons_succ]
     refine oneT (i := 16) (by kernel_rfl) rfl (fun K hK => ?_)
     go_simp
     refine (MK.out _ (HRA.out.ext (Below.refl _ _).drew)).mono ?_
     rintro e w3 ⟨rfl, hr3, hb3⟩
     have HR3 := Lib.hid hr3
     have HB3 := Lib.hid ((show Below bb wr wr.drew from ⟨rfl, rfl, rfl, Nat.le_refl _, fun _ _ => rfl⟩).trans hb3)
     clear hr3 hb3
     go_simp
     refine hK.out _ _ (fun h => absurd h (by decide)) (fun _ => ?_)
     clear hK K hHeld
     try simp only [Act.put, List.setIfInBounds_toArray, List.set_cons_zero, List.set_cons_succ]
     refine doneT (by kernel_rfl) ?_ _
     go_wp2
     go_roundw
     case rel => exact ⟨k + 1, by omega, by go_num, by rw [HCS.out, if_pos ⟨HKA.out, HZ.out⟩]; exact HR3.out, HBEL.out.trans HB3.out⟩
     case measure => simp [intOf]; omega
  ·have HKN := Lib.hid (show k = s.rows.length by omega)
   go_wp2
   go_end0
   exact ⟨rfl, by rw [← HKN.out, ← HT.out, ← HX'.out]; exact HRA.out, HBEL.out⟩
end Go.Proofs.YtjdbfokbgmbphaaGreatDoor
