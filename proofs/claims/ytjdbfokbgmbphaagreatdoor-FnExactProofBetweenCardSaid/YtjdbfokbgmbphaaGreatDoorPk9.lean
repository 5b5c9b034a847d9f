/- The reference's stInsert: a row put into a slice of rows. Conditions: lengths of at most 2^20. | The steps made (methods 'do'): exchange, scale, add. Conditions: a valid system and a possible step. -/
import Derived.Test.YtjdbfokbgmbphaaGreatDoorPk8
import Derived.Test.YtjdbfokbgmbphaaGreatDoorPk6
namespace Go.Proofs.YtjdbfokbgmbphaaGreatDoor
set_option linter.unusedVariables false
set_option linter.unusedSimpArgs false
open Go.RowKit
/-- 'append(s, xs...)' of rows, s the call's own. -/
theorem wp_appendVals {ops : Array Oper} {rest : List Oper} {o : Oper} {a : Act} {Q : Exit → Act → World → Prop} (hgd : o.guard = none) (s x : Operand)
  (ho : o.op = .call { callee := .builtin .append, args := #[s, x], argTypes := #[22, 22] }) (B : Nat) (W : World) (v : Value) (n m : Nat) (us ys : List Value) (A : Addr) (c : Nat)
  (hs : a.eval s = v) (hx : a.eval x = .slice (some A) m c) (hm : ys.length = m) (hown : W.ownsRow B 25 1 v n us) (hat : ∀ j y, ys[j]? = some y → W.cell? (A.add j) = some y) (h1 : ∀ u ∈ ys, u.oneCell' = true) (hlen : n + m ≤ 1073741824) (hB : B ≤ W.heap.size)
  (h : ∀ v' w', w'.ownsRow B 25 1 v' (n + m) (us ++ ys) → Below B W w' → wpList Tryz.prog ops Q rest (a.put o.dst v') w') :
  wpList Tryz.prog ops Q (o :: rest) a W := by
 obtain ⟨i0, hi, hz0, hz1, hz2⟩ := info_parts infoRow
 refine wpList_append_own _ hgd s x 22 ho B 25 i0 (.slice none 0 0) 1 24 Tryz.underlying22 hi hz0 hz1 hz2 rfl (by decide) v _ _ hs hown A m c ys hx (by omega) hat h1 ?_ ?_ hB ?_
 ·unfold maxLen; omega
 ·omega
 ·intro v' w' hown' hgrow _
  exact h v' w' hown' ((Below.refl _ _).grown hgrow hB fun k hk => (World.ownsRow.lt hown k hk).1)
theorem wp_appendNone {ops : Array Oper} {rest : List Oper} {o : Oper} {a : Act} {Q : Exit → Act → World → Prop} (hgd : o.guard = none) (s x : Operand)
  (ho : o.op = .call { callee := .builtin .append, args := #[s, x], argTypes := #[22, 22] }) (B : Nat) (W : World) (v : Value) (n c : Nat) (us : List Value)
  (hs : a.eval s = v) (hx : a.eval x = .slice none 0 c) (hown : W.ownsRow B 25 1 v n us)
  (h : wpList Tryz.prog ops Q rest (a.put o.dst v) W) : wpList Tryz.prog ops Q (o :: rest) a W := by
 obtain ⟨i0, hi, hz0, hz1, hz2⟩ := info_parts infoRow
 refine wpList_plain hgd fun K hK => ?_
 have hrun := run_append_none (P := Tryz.prog) (w := W) B 22 o.type 25 i0 1 Tryz.underlying22 hi v _ c _ hown
 unfold Oper.wp
 simp [execOp, ho, resolve, invoke, builtin, hs, hx, hrun, Result.andThen]
 exact hK _ _ h
theorem lit_rows (W : World) (B : Nat) (hB : B ≤ W.heap.size) : (W.alloc (.cells #[] 25)).ownsRow B 25 1 (.slice (some ⟨W.heap.size, 0, none⟩) 0 0) 0 [] :=
 World.ownsRow_lit W #[] 0 hB (by decide) rfl
theorem one_new (w : World) (u : Value) : ∀ (j : Nat) (y : Value), [u][j]? = some y → (w.alloc (.cells #[u] 25)).cell? ((⟨w.heap.size, 0, none⟩ : Addr).add j) = some y := by
 intro j y hy
 match j, hy with
 | 0, hy => simp at hy; subst hy; simp [Addr.add]
 | j + 1, hy => simp at hy
theorem one_new1 (w : World) (o : Obj) (u : Value) : ∀ (j : Nat) (y : Value), [u][j]? = some y → ((w.alloc o).alloc (.cells #[u] 25)).cell? ((⟨w.heap.size + 1, 0, none⟩ : Addr).add j) = some y := by
 intro j y hy
 have := one_new (w.alloc o) u j y hy
 simpa only [World.size_alloc] using this
theorem one_one (A : Option Addr) (n c : Nat) : ∀ u ∈ [Value.slice A n c], u.oneCell' = true := by
 intro u hu; simp at hu; subst hu; rfl
set_option maxRecDepth 20000 in
set_option maxHeartbeats 4000000 in
theorem stInsert_some (B g n cap k : Nat) (us : List Value) (Au : Option Addr) (nu cu : Nat) (w : World) (h : w.ownsRow B 25 1 (.slice (some ⟨g, 0, none⟩) n cap) n us) (h1 : ∀ u ∈ us, u.oneCell' = true) (hk : k ≤ n) (hn : n ≤ 1048576) :
  Calls Tryz.prog 88 #[.slice (some ⟨g, 0, none⟩) n cap, .int .i64 k, .slice Au nu cu] w fun e w' => ∃ v', e = .returned v' ∧ w'.ownsRow w.heap.size 25 1 v' (n + 1) (insAt us k (.slice Au nu cu)) ∧ Below w.heap.size w w' := by
 have h0 := h
 obtain ⟨hus, hr⟩ := h
 rcases hr with ⟨hx, _⟩ | ⟨g', cap', cur, hv, hB, hg, hnc, hcm, hcs, htake⟩
 ·cases hx
 cases hv
 simp only [Nat.mul_one] at hus hcs htake
 have hcell : ∀ t, t < n → cur.toList[t]? = us[t]? := fun t ht => by rw [← htake, List.getElem?_take, if_pos ht]
 have hgs := (Array.getElem?_eq_some_iff.1 hg).1
 have cell : ∀ W, Below w.heap.size w W → ∀ t u, us[t]? = some u → W.cell? ⟨g, t, none⟩ = some u := fun W hW t u hu => by
  have ht : t < n := by have := (List.getElem?_eq_some_iff.1 hu).1; omega
  rw [blk_cell ((hW.block g hgs).trans hg), hcell t ht, hu]
 obtain ⟨A, hA, hsrc⟩ : ∃ A : Addr, (if cap = k then some (⟨g, 0, none⟩ : Addr) else some ⟨g, k, none⟩) = some A ∧ Hid (∀ W, Below w.heap.size w W → ∀ t u, (us.drop k)[t]? = some u → W.cell? (A.add t) = some u) := by
  by_cases hc : cap = k
  ·refine ⟨⟨g, 0, none⟩, by simp [hc], fun W hW t u hu => ?_⟩
   rw [List.drop_of_length_le (by omega)] at hu
   simp at hu
  ·refine ⟨⟨g, k, none⟩, by simp [hc], fun W hW t u hu => ?_⟩
   rw [List.getElem?_drop] at hu
   rw [addr_add]; exact cell W hW _ _ hu
 have hpre : Hid (∀ W, Below w.heap.size w W → ∀ t u, (us.take k)[t]? = some u → W.cell? ((⟨g, 0, none⟩ : Addr).add t) = some u) := by
  intro W hW t u hu
  rw [addr_add, Nat.zero_add]
  rw [List.getElem?_take] at hu
  split at hu
  ·exact cell W hW _ _ hu
  ·cases hu
 have HUS := Lib.hid hus; have H1 := Lib.hid h1
 have hkc : k ≤ cap := by omega
 unfold maxLen at hcm
 clear hcell cell htake hcs hg hgs hus hB h1 h0
 go_enter Tryz.func88, Tryz.ntmps88
 go_wp2_with (first | (at_builtin; refine wp_appendVals rfl (.tmp 8) (.tmp 11) rfl w.heap.size _ _ 0 k [] (us.take k) ⟨g, 0, none⟩ cap rfl rfl (by rw [List.length_take, HUS.out]; omega) (lit_rows _ _ (Nat.le_refl _)) (hpre.out _ ((Below.refl _ _).alloc (Nat.le_refl _) _)) (fun u hu => H1.out u (List.mem_of_mem_take hu)) (by omega) (by simp) ?_; intro v1 w1 ho1 hb1; have HB1 := Lib.hid (((Below.refl w.heap.size w).alloc (Nat.le_refl _) (.cells #[] 25)).trans hb1); have HO1 := Lib.hid ho1; clear hb1 ho1) | (at_builtin; refine wp_appendVals rfl (.tmp 13) (.tmp 15) rfl w.heap.size _ v1 (0 + k) 1 ([] ++ us.take k) [.slice Au nu cu] ⟨w1.heap.size, 0, none⟩ 1 rfl rfl rfl (World.ownsRow.alloc HO1.out _) (one_new _ _) (one_one _ _ _) (by omega) (by have := HB1.out.size; simp; omega) ?_; intro v2 w2 ho2 hb2; have HB2 := Lib.hid ((HB1.out.alloc HB1.out.size _).trans hb2); have HO2 := Lib.hid ho2; clear hb2 ho2) | (at_builtin; refine wp_appendVals rfl (.tmp 17) (.tmp 20) rfl w.heap.size _ v2 (0 + k + 1) (n - k) ([] ++ us.take k ++ [.slice Au nu cu]) (us.drop k) A (cap - k) rfl rfl (by rw [List.length_drop, HUS.out]) HO2.out (hsrc.out _ HB2.out) (fun u hu => H1.out u (List.mem_of_mem_drop hu)) (by omega) HB2.out.size ?_; intro v3 w3 ho3 hb3; have HB3 := Lib.hid (HB2.out.trans hb3); have HO3 := Lib.hid ho3; clear hb3 ho3))
 go_ret
 refine ⟨_, rfl, ?_, HB3.out⟩
 have := HO3.out
 rw [show 0 + k + 1 + (n - k) = n + 1 by omega, List.nil_append, List.append_assoc] at this
 exact this
set_option maxRecDepth 20000 in
set_option maxHeartbeats 4000000 in
theorem stInsert_nil (Au : Option Addr) (nu cu : Nat) (w : World) :
  Calls Tryz.prog 88 #[.slice none 0 0, .int .i64 0, .slice Au nu cu] w fun e w' => ∃ v', e = .returned v' ∧ w'.ownsRow w.heap.size 25 1 v' (0 + 1) (insAt [] 0 (.slice Au nu cu)) ∧ Below w.heap.size w w' := by
 go_enter Tryz.func88, Tryz.ntmps88
 go_wp2_with (first | (at_builtin; refine wp_appendNone rfl (.tmp 8) (.tmp 11) rfl w.heap.size _ _ 0 _ [] rfl rfl (lit_rows _ _ (Nat.le_refl _)) ?_) | (at_builtin; refine wp_appendVals rfl (.tmp 13) (.tmp 15) rfl w.heap.size _ _ 0 1 [] [.slice Au nu cu] ⟨w.heap.size + 1, 0, none⟩ 1 rfl rfl rfl (World.ownsRow.alloc (lit_rows w _ (Nat.le_refl _)) _) (one_new1 _ _ _) (one_one _ _ _) (by omega) (by simp <;> omega) ?_; intro v2 w2 ho2 hb2; have HB2 := Lib.hid ((((Below.refl w.heap.size w).alloc (Nat.le_refl _) _).alloc (by simp) _).trans hb2); have HO2 := Lib.hid ho2; clear hb2 ho2) | (at_builtin; refine wp_appendNone rfl (.tmp 17) (.tmp 20) rfl w.heap.size _ v2 (0 + 1) _ _ rfl rfl HO2.out ?_))
 go_ret
 exact ⟨_, rfl, HO2.out, HB2.out⟩
/-- stInsert, of rows of the call's own. -/
theorem stInsert_any (B : Nat) (v : Value) (k : Int) (us : List Value) (n : Nat) (Au : Option Addr) (nu cu : Nat) (w : World) (h : w.ownsRow B 25 1 v n us) (h1 : ∀ u ∈ us, u.oneCell' = true) (hk : 0 ≤ k) (hk' : k ≤ n) (hn : n ≤ 1048576) :
  Calls Tryz.prog 88 #[v, .int .i64 k, .slice Au nu cu] w fun e w' => ∃ v', e = .returned v' ∧ w'.ownsRow w.heap.size 25 1 v' (n + 1) (insAt us k.toNat (.slice Au nu cu)) ∧ Below w.heap.size w w' := by
 obtain ⟨j, rfl⟩ := Int.eq_ofNat_of_zero_le hk
 by_cases h0 : n = 0
 ·subst h0
  obtain rfl : j = 0 := by omega
  obtain rfl : us = [] := List.eq_nil_of_length_eq_zero (by have := h.1; omega)
  rcases h.2 with ⟨rfl, _⟩ | ⟨g, cap, cur, rfl, _⟩
  ·exact stInsert_nil Au nu cu w
  ·exact stInsert_some B g 0 cap 0 [] Au nu cu w h h1 (Nat.le_refl _) (Nat.zero_le _)
 ·obtain ⟨g, cap, rfl, _⟩ := World.ownsRow.form h (by omega)
  exact stInsert_some B g n cap j us Au nu cu w h h1 (by omega) hn
/-- 'make' of a whole slice, as one step of a region that draws. -/
theorem step_make {P : Program} (w : World) {ops : Array Oper} {o : Oper} {a : Act} {K : Act → World → Prop} {Q : Exit → Act → World → Prop} {E : Prop}
  (hg : o.guard = none) (l c : Operand) (t : TypeId) (hop : o.op = Op.makeSlice t l c)
  (base : Nat) (e : TypeId) (i : TypeInfo) (z : Value) (size : Nat) (h1 : P.underlying t = some (.slice e)) (h2 : P.info? e = some i) (h3 : i.zero = some z) (h4 : i.size = size)
  (kl kc : IntKind) (L C : Int) (n : Nat) (hl : a.eval l = .int kl L) (hc : a.eval c = .int kc C) (hL : L = (n : Int)) (hC : C = (n : Int)) (b2 : i.bytes * n ≤ 281474976710656) (b3 : n ≤ maxLen) (b4 : base ≤ w.heap.size)
  (hK : ∀ w', w'.ownsRow base e size (.slice (some ⟨w.heap.size, 0, none⟩) n n) n (madeCells z.cells (n * size)).toList → w.grownBy w' none → K (a.put o.dst (.slice (some ⟨w.heap.size, 0, none⟩) n n)) w') :
  if Region.wanted o (yielded ops a.tmps) = true then Oper.wp P o a w K Q else E := by
 rw [if_pos (show Region.wanted o (yielded ops a.tmps) = true by simp [Region.wanted, hg])]
 obtain ⟨w', hrun, r1, r2⟩ := run_make_full (P := P) w base t e i z size h1 h2 h3 h4 kl kc n b2 b3 b4
 subst hL
 subst hC
 unfold Oper.wp
 simp [execOp, hop, hl, hc, hrun, Result.andThen]
 exact hK w' r1 r2
theorem ownsRow_mono {w : World} {B B' : Nat} {e : TypeId} {v : Value} {n : Nat} {us : List Value} (h : w.ownsRow B e 1 v n us) (hB : B' ≤ B) : w.ownsRow B' e 1 v n us :=
 ⟨h.1, h.2.imp id fun ⟨g, cap, cur, a1, a2, a3⟩ => ⟨g, cap, cur, a1, by omega, a3⟩⟩
theorem grown_of_below {w w' : World} {r : Option Nat} (h : Below w.heap.size w w') : w.grownBy w' r := ⟨h.os, h.tape, h.output, h.size, fun k hk _ => h.block k hk⟩
theorem fdMul_any (p x y : Int) (w : World) (hp : 1 ≤ p) (hp' : p ≤ 1000) (hx : 0 ≤ x) (hx' : x ≤ 1000) (hy : 0 ≤ y) (hy' : y ≤ 1000) : Calls Tryz.prog 86 #[.int .i64 p, .int .i64 x, .int .i64 y] w fun e w' => e = .returned (.int .i64 (x * y % p)) ∧ w = w' := by
 have m0 : 0 ≤ x * y := Int.mul_nonneg hx hy
 have m1 : x * y ≤ 1000000 := by
  have := Int.mul_le_mul hx' hy' hy (by omega)
  omega
 go_enter Tryz.func86, Tryz.ntmps86
 go_wp2
 go_ret
 exact ⟨rfl, rfl⟩
theorem fdAdd_any (p x y : Int) (w : World) (hp : 1 ≤ p) (hp' : p ≤ 1000) (hx : 0 ≤ x) (hx' : x ≤ 1000) (hy : 0 ≤ y) (hy' : y ≤ 1000) : Calls Tryz.prog 87 #[.int .i64 p, .int .i64 x, .int .i64 y] w fun e w' => e = .returned (.int .i64 ((x + y) % p)) ∧ w = w' := by
 go_enter Tryz.func87, Tryz.ntmps87
 go_wp2
 go_ret
 exact ⟨rfl, rfl⟩
/-- An owned slice of slices that is not empty: where it lies. -/
theorem OwnRowsW.form {w : World} {B : Nat} {v : Value} {rows : List (List Int)} {us : List Value} (h : OwnRowsW w B v rows us) (hn : 0 < rows.length) :
  ∃ g cap, v = .slice (some ⟨g, 0, none⟩) rows.length cap ∧ B ≤ g ∧ g < w.heap.size := h.outer.form hn
set_option maxHeartbeats 2000000 in
theorem swapDo_any (a b p v h : Int) (A : Option Addr) (cap : Nat) (rows : List (List Int)) (w : World) (hR : RowsAt w A rows) (hm : rows.length ≤ 160) (hms : ∀ r ∈ rows, r.length ≤ 1000)
  (ha : 0 ≤ a) (ha' : a < rows.length) (hb : 0 ≤ b) (hb' : b < rows.length) (hab : a ≠ b) :
  Calls Tryz.prog 162 #[.agg #[.int .i64 a, .int .i64 b], .int .i64 p, .agg #[.int .i64 v, .int .i64 h, .slice A rows.length cap]] w fun e w' =>
   ∃ u, e = .returned (.agg #[.int .i64 v, .int .i64 h, u]) ∧ OwnRows w' w.heap.size u ((rows.set a.toNat (rows.getD b.toNat [])).set b.toNat (rows.getD a.toNat [])) ∧ Below w.heap.size w w' := by
 obtain ⟨ra, hra⟩ := get_of_lt (show a.toNat < rows.length by omega)
 obtain ⟨rb, hrb⟩ := get_of_lt (show b.toNat < rows.length by omega)
 have HA := Lib.hid (show rows.getD a.toNat [] = ra by simp [List.getD, hra])
 have HB := Lib.hid (show rows.getD b.toNat [] = rb by simp [List.getD, hrb])
 have HM := Lib.hid (show rows.length ≤ 1048576 by omega)
 have HMS := Lib.hid (show ∀ r ∈ rows, r.length ≤ 1048576 from fun r hr => by have := hms r hr; omega)
 clear hms
 go_enter Tryz.func162, Tryz.ntmps162
 go_wp2_with fail
 refine (copy_any _ _ _ _ _ _ (hR.ext (((Below.refl _ _).alloc (by simp) _ |>.alloc (by simp) _).alloc (by simp <;> omega) _)) HM.out HMS.out).mono ?_
 rintro e w1 ⟨u, rfl, ⟨us, hu⟩, hb1⟩
 obtain ⟨g, gcap, rfl, hgB, hgl⟩ := hu.form (by omega)
 simp only [World.size_alloc] at hgB
 obtain ⟨q0, q1, q2⟩ := heap_at3 w (.cells #[.int .i64 a, .int .i64 b] 118) (.cells #[.int .i64 v, .int .i64 h, .slice A rows.length cap] 30) (.cells #[.int .i64 0, .int .i64 0, .slice none 0 0] 30)
 have hsz1 := hb1.size
 simp only [World.size_alloc] at hsz1
 obtain ⟨ua, hua, hoa⟩ := hu.get hra
 obtain ⟨ub, hub, hob⟩ := hu.get hrb
 obtain ⟨Aa, ca, rfl, _⟩ := hoa.view
 obtain ⟨Ab, cb, rfl, _⟩ := hob.view
 go_wp2
 obtain ⟨W2, hW2⟩ : ∃ W2, W2 = w1.alloc (.cells #[.int .i64 v, .int .i64 h, .slice (some ⟨g, 0, none⟩) rows.length gcap] 30) := ⟨_, rfl⟩
 rw [← hW2]
 have hb2 : Below w1.heap.size w1 W2 := by rw [hW2]; exact (Below.refl _ _).alloc (Nat.le_refl _) _
 have hb02 := hb1.trans (hb2.mono hb1.size)
 have hm2 : W2.heap[w1.heap.size]? = some (.cells #[.int .i64 v, .int .i64 h, .slice (some ⟨g, 0, none⟩) rows.length gcap] 30 (0, 0)) := by rw [hW2]; exact heap_at _ _ rfl
 have hu2 := hu.ext hb2
 have y0 := boxc hb02 q0 0
 have y1 := boxc hb02 q0 1
 have x0 := blk_cell hm2 0
 have x1 := blk_cell hm2 1
 have x2 := blk_cell hm2 2
 have r0 := boxc hb02 q2 0
 have r1 := boxc hb02 q2 1
 have r2 := boxc hb02 q2 2
 have s0 := boxf hb02 q2 0
 have s1 := boxf hb02 q2 1
 have s2 := boxf hb02 q2 2
 simp only [List.getElem?_cons_zero, List.getElem?_cons_succ] at y0 y1 x0 x1 x2 r0 r1 r2
 have z0 : W2.cell? ⟨g, a.toNat, none⟩ = some (.slice Aa ra.length ca) := by rw [hu2.outer.cellAt _ (by omega), hua]
 have z1 : W2.cell? ⟨g, b.toNat, none⟩ = some (.slice Ab rb.length cb) := by rw [hu2.outer.cellAt _ (by omega), hub]
 have f0 := hu2.outer.frozenAt a.toNat
 have f1 := hu2.outer.frozenAt b.toNat
 have HU := Lib.hid hu2; have HB1 := Lib.hid hb02; have HRA := Lib.hid hra; have HRB := Lib.hid hrb; have HUA := Lib.hid hua; have HUB := Lib.hid hub; have HOA := Lib.hid hoa; have HOB := Lib.hid hob
 have HW := Lib.hid hW2
 clear hu hb1 hra hrb hua hub hoa hob hR hu2 hb02 hb2 hm2 q0 q1 q2 hW2
 have END : ∀ W5, W5 = ((W2.setCell ⟨g, a.toNat, none⟩ (.slice Ab rb.length cb)).setCell ⟨g, b.toNat, none⟩ (.slice Aa ra.length ca)).drew →
   W5.cell? ⟨w1.heap.size, 0, none⟩ = some (.int .i64 v) ∧ W5.cell? ⟨w1.heap.size, 1, none⟩ = some (.int .i64 h) ∧ W5.cell? ⟨w1.heap.size, 2, none⟩ = some (.slice (some ⟨g, 0, none⟩) rows.length gcap) ∧
   W5.cell? ⟨w.heap.size + 1 + 1, 0, none⟩ = some (.int .i64 0) ∧ W5.cell? ⟨w.heap.size + 1 + 1, 1, none⟩ = some (.int .i64 0) ∧ W5.cell? ⟨w.heap.size + 1 + 1, 2, none⟩ = some (.slice none 0 0) ∧
   W5.frozen? ⟨w.heap.size + 1 + 1, 0, none⟩ = false ∧ W5.frozen? ⟨w.heap.size + 1 + 1, 1, none⟩ = false ∧ W5.frozen? ⟨w.heap.size + 1 + 1, 2, none⟩ = false ∧
   OwnRows W5 (w.heap.size + 3) (.slice (some ⟨g, 0, none⟩) rows.length gcap) ((rows.set a.toNat rb).set b.toNat ra) ∧ Below w.heap.size w W5 := by
  rintro W5 rfl
  have hs := HU.out.swap rfl HUA.out HUB.out HRA.out HRB.out
  refine ⟨?_, ?_, ?_, ?_, ?_, ?_, by simpa using s0, by simpa using s1, by simpa using s2, ⟨_, OwnRowsW.mono (hs.ext (Below.refl _ _).drew) (by simp <;> omega)⟩, ((Below.setCell ((below_alloc3 w _ _ _).trans (HB1.out.mono (B' := w.heap.size) (by simp <;> omega))) (by simp <;> omega) _).setCell (by simp <;> omega) _).drew⟩
  all_goals refine (cell_set_ne (w := W2.setCell _ _) (by simp <;> omega)).trans ((cell_set_ne (by simp <;> omega)).trans ?_)
  all_goals assumption
 refine wp_region_held_drew (S := fun w' => w'.cell? ⟨w.heap.size, 0, none⟩ = some (.int .i64 a) ∧ w'.cell? ⟨w.heap.size, 1, none⟩ = some (.int .i64 b) ∧ w'.cell? ⟨w1.heap.size, 2, none⟩ = some (.slice (some ⟨g, 0, none⟩) rows.length gcap)) (by kernel_rfl) (by simp [*]) (fun hHeld => ?_)
 refine takeHQ 0 (v := ?_) rfl (Or.inl ⟨by rfl, ?_⟩) ?_
 rotate_left
 ·intro w h; (try dsimp only at h); go_simp; (try with_reducible rfl)
 simp only [Act.put, List.setIfInBounds_toArray, List.set_cons_zero, List.set_cons_succ]
 refine takeHQ 1 (v := ?_) rfl (Or.inl ⟨by rfl, ?_⟩) ?_
 rotate_left
 ·intro w h; (try dsimp only at h); go_simp; (try with_reducible rfl)
 simp only [Act.put, List.setIfInBounds_toArray, List.set_cons_zero, List.set_cons_succ]
 refine takeHQ 2 (v := ?_) rfl (Or.inl ⟨by rfl, ?_⟩) ?_
 rotate_left
 ·intro w h; (try dsimp only at h); go_simp; (try with_reducible rfl)
 simp only [Act.put, List.setIfInBounds_toArray, List.set_cons_zero, List.set_cons_succ]
 refine takeHQ 3 (v := ?_) rfl (Or.inl ⟨by rfl, ?_⟩) ?_
 rotate_left
 ·intro w h; (try dsimp only at h); go_simp; (try with_reducible rfl)
 simp only [Act.put, List.setIfInBounds_toArray, List.set_cons_zero, List.set_cons_succ]
 refine takeHQ 4 (v := ?_) rfl (Or.inl ⟨by rfl, ?_⟩) ?_
 rotate_left
 ·intro w h; (try dsimp only at h); go_simp; (try with_reducible rfl)
 simp only [Act.put, List.setIfInBounds_toArray, List.set_cons_zero, List.set_cons_succ]
 refine takeHQ 5 (v := ?_) rfl (Or.inl ⟨by rfl, ?_⟩) ?_
 rotate_left
 ·intro w h; (try dsimp only at h); go_simp; (try with_reducible rfl)
 simp only [Act.put, List.setIfInBounds_toArray, List.set_cons_zero, List.set_cons_succ]
 refine takeHQ 6 (v := ?_) rfl (Or.inl ⟨by rfl, ?_⟩) ?_
 rotate_left
 ·intro w h; (try dsimp only at h); go_simp; (try with_reducible rfl)
 simp only [Act.put, List.setIfInBounds_toArray, List.set_cons_zero, List.set_cons_succ]
 refine takeHQ 7 (v := ?_) rfl (Or.inl ⟨by rfl, ?_⟩) ?_
 rotate_left
 ·intro w h; (try dsimp only at h); go_simp; (try with_reducible rfl)
 simp only [Act.put, List.setIfInBounds_toArray, List.set_cons_zero, List.set_cons_succ]
 refine takeHQ 8 (v := ?_) rfl (Or.inl ⟨by rfl, ?_⟩) ?_
 rotate_left
 ·intro w h; (try dsimp only at h); go_simp; (try with_reducible rfl)
 simp only [Act.put, List.setIfInBounds_toArray, List.set_cons_zero, List.set_cons_succ]
 refine takeHQ 9 (v := ?_) rfl (Or.inl ⟨by rfl, ?_⟩) ?_
 rotate_left
 ·intro w h; (try dsimp only at h); go_simp; (try with_reducible rfl)
 simp only [Act.put, List.setIfInBounds_toArray, List.set_cons_zero, List.set_cons_succ]
 refine takeHQ 10 (v := ?_) rfl (Or.inl ⟨by rfl, ?_⟩) ?_
 rotate_left
 ·intro w h; (try dsimp only at h); go_simp; (try with_reducible rfl)
 simp only [Act.put, List.setIfInBounds_toArray, List.set_cons_zero, List.set_cons_succ]
 refine takeHQ 11 (v := ?_) rfl (Or.inl ⟨by rfl, ?_⟩) ?_
 rotate_left
 ·intro w h; (try dsimp only at h); go_simp; (try with_reducible rfl)
 simp only [Act.put, List.setIfInBounds_toArray, List.set_cons_zero, List.set_cons_succ]
 refine takeHQ 12 (v := ?_) rfl (Or.inl ⟨by rfl, ?_⟩) ?_
 rotate_left
 ·intro w h; (try dsimp only at h); go_simp; (try with_reducible rfl)
 simp only [Act.put, List.setIfInBounds_toArray, List.set_cons_zero, List.set_cons_succ]
 refine takeHQ 14 (v := ?_) rfl (Or.inl ⟨by rfl, ?_⟩) ?_
 rotate_left
 ·intro w h; (try dsimp only at h); go_simp; (try with_reducible rfl)
 simp only [Act.put, List.setIfInBounds_toArray, List.set_cons_zero, List.set_cons_succ]
 refine takeHQ 15 (v := ?_) rfl (Or.inl ⟨by rfl, ?_⟩) ?_
 rotate_left
 ·intro w h; (try dsimp only at h); go_simp; (try with_reducible rfl)
 simp only [Act.put, List.setIfInBounds_toArray, List.set_cons_zero, List.set_cons_succ]
 refine takeHQ 16 (v := ?_) rfl (Or.inl ⟨by rfl, ?_⟩) ?_
 rotate_left
 ·intro w h; (try dsimp only at h); go_simp; (try with_reducible rfl)
 simp only [Act.put, List.setIfInBounds_toArray, List.set_cons_zero, List.set_cons_succ]
 refine takeHQ 17 (v := ?_) rfl (Or.inl ⟨by rfl, ?_⟩) ?_
 rotate_left
 ·intro w h; (try dsimp only at h); go_simp; (try with_reducible rfl)
 simp only [Act.put, List.setIfInBounds_toArray, List.set_cons_zero, List.set_cons_succ]
 refine takeHQ 18 (v := ?_) rfl (Or.inl ⟨by rfl, ?_⟩) ?_
 rotate_left
 ·intro w h; (try dsimp only at h); go_simp; (try with_reducible rfl)
 simp only [Act.put, List.setIfInBounds_toArray, List.set_cons_zero, List.set_cons_succ]
 refine wpAnyH_ready (rs := [13, 19]) (by kernel_rfl) (by simp) ?_
 refine consH rfl (fun K hK => ?_) (consH rfl (fun K hK => ?_) AllReadyH.nil)
 ·go_simp
  refine hK.out _ _ (by assumption) (fun hHeld => ?_)
  clear hK K
  try simp only [Act.put, List.setIfInBounds_toArray, List.set_cons_zero, List.set_cons_succ]
  refine wpAnyH_ready (rs := [19]) (by kernel_rfl) (by simp) ?_
  refine consH rfl (fun K hK => ?_) AllReadyH.nil
  go_simp
  refine hK.out _ _ (by assumption) (fun hHeld => ?_)
  clear hK K
  try simp only [Act.put, List.setIfInBounds_toArray, List.set_cons_zero, List.set_cons_succ]
  refine takeHQ 20 (v := ?_) rfl (Or.inl ⟨by rfl, ?_⟩) ?_
  rotate_left
  ·intro w h; (try dsimp only at h); go_simp; (try with_reducible rfl)
  simp only [Act.put, List.setIfInBounds_toArray, List.set_cons_zero, List.set_cons_succ]
  refine wpAnyH_ready (rs := [21]) (by kernel_rfl) (by simp) ?_
  refine consH rfl (fun K hK => ?_) AllReadyH.nil
  go_simp
  refine hK.out _ _ (by refine ⟨?_, ?_, ?_⟩ <;> (refine (cell_set_ne2 (by simp <;> omega)).trans ?_; assumption)) (fun hHeld => ?_)
  clear hK K
  try simp only [Act.put, List.setIfInBounds_toArray, List.set_cons_zero, List.set_cons_succ]
  refine takeHQ 22 (v := ?_) rfl (Or.inl ⟨by rfl, ?_⟩) ?_
  rotate_left
  ·intro w h; (try dsimp only at h); go_simp; (try with_reducible rfl)
  simp only [Act.put, List.setIfInBounds_toArray, List.set_cons_zero, List.set_cons_succ]
  refine wpAnyH_ready (rs := [23]) (by kernel_rfl) (by simp) ?_
  refine consH rfl (fun K hK => ?_) AllReadyH.nil
  have z3 : (W2.drew.setCell ⟨g, a.toNat, none⟩ (.slice Ab rb.length cb)).cell? ⟨g, b.toNat, none⟩ = some (.slice Ab rb.length cb) := by rw [World.cell?_setCell_other _ _ _ _ (by simp <;> omega)]; simpa using z1
  have z4 : (W2.drew.setCell ⟨g, a.toNat, none⟩ (.slice Ab rb.length cb)).frozen? ⟨g, b.toNat, none⟩ = false := by simpa using f1
  go_simp
  refine hK.out _ _ (by refine ⟨?_, ?_, ?_⟩ <;> (refine (cell_set_ne (by simp <;> omega)).trans ((cell_set_ne2 (by simp <;> omega)).trans ?_); assumption)) (fun hHeld => ?_)
  clear hK K
  refine wpAnyH_done (by kernel_rfl) ?_ _
  clear hHeld
  try dsimp only
  obtain ⟨W5, hW5⟩ : ∃ W5, W5 = ((W2.setCell ⟨g, a.toNat, none⟩ (.slice Ab rb.length cb)).setCell ⟨g, b.toNat, none⟩ (.slice Aa ra.length ca)).drew := ⟨_, rfl⟩
  rw [← hW5]
  obtain ⟨e0, e1, e2, e3, e4, e5, e6, e7, e8, e9, e10⟩ := END W5 hW5
  have HO := Lib.hid e9; have HE := Lib.hid e10
  clear END e9 e10 hW5 z3 z4 y0 y1 x2 r0 r1 r2 s0 s1 s2 z0 z1 f0 f1
  go_wp2
  refine bodyPost_ret (v := .agg #[.int .i64 v, .int .i64 h, .slice (some ⟨g, 0, none⟩) rows.length gcap]) (by simp [results, Tryz.results162, go_sem, *]) rfl ⟨_, rfl, ?_, ?_⟩
  ·rw [HA.out, HB.out]; exact (((HO.out.setCell (by simp <;> omega) _).setCell (by simp <;> omega) _).setCell (by simp <;> omega) _).mono (by omega)
  ·exact ((HE.out.setCell (by simp <;> omega) _).setCell (by simp <;> omega) _).setCell (by simp <;> omega) _
 ·go_simp
  refine hK.out _ _ (by assumption) (fun hHeld => ?_)
  clear hK K
  try simp only [Act.put, List.setIfInBounds_toArray, List.set_cons_zero, List.set_cons_succ]
  refine wpAnyH_ready (rs := [13]) (by kernel_rfl) (by simp) ?_
  refine consH rfl (fun K hK => ?_) AllReadyH.nil
  go_simp
  refine hK.out _ _ (by assumption) (fun hHeld => ?_)
  clear hK K
  try simp only [Act.put, List.setIfInBounds_toArray, List.set_cons_zero, List.set_cons_succ]
  refine takeHQ 20 (v := ?_) rfl (Or.inl ⟨by rfl, ?_⟩) ?_
  rotate_left
  ·intro w h; (try dsimp only at h); go_simp; (try with_reducible rfl)
  simp only [Act.put, List.setIfInBounds_toArray, List.set_cons_zero, List.set_cons_succ]
  refine wpAnyH_ready (rs := [21]) (by kernel_rfl) (by simp) ?_
  refine consH rfl (fun K hK => ?_) AllReadyH.nil
  go_simp
  refine hK.out _ _ (by refine ⟨?_, ?_, ?_⟩ <;> (refine (cell_set_ne2 (by simp <;> omega)).trans ?_; assumption)) (fun hHeld => ?_)
  clear hK K
  try simp only [Act.put, List.setIfInBounds_toArray, List.set_cons_zero, List.set_cons_succ]
  refine takeHQ 22 (v := ?_) rfl (Or.inl ⟨by rfl, ?_⟩) ?_
  rotate_left
  ·intro w h; (try dsimp only at h); go_simp; (try with_reducible rfl)
  simp only [Act.put, List.setIfInBounds_toArray, List.set_cons_zero, List.set_cons_succ]
  refine wpAnyH_ready (rs := [23]) (by kernel_rfl) (by simp) ?_
  refine consH rfl (fun K hK => ?_) AllReadyH.nil
  have z3 : (W2.drew.setCell ⟨g, a.toNat, none⟩ (.slice Ab rb.length cb)).cell? ⟨g, b.toNat, none⟩ = some (.slice Ab rb.length cb) := by rw [World.cell?_setCell_other _ _ _ _ (by simp <;> omega)]; simpa using z1
  have z4 : (W2.drew.setCell ⟨g, a.toNat, none⟩ (.slice Ab rb.length cb)).frozen? ⟨g, b.toNat, none⟩ = false := by simpa using f1
  go_simp
  refine hK.out _ _ (by refine ⟨?_, ?_, ?_⟩ <;> (refine (cell_set_ne (by simp <;> omega)).trans ((cell_set_ne2 (by simp <;> omega)).trans ?_); assumption)) (fun hHeld => ?_)
  clear hK K
  refine wpAnyH_done (by kernel_rfl) ?_ _
  clear hHeld
  try dsimp only
  obtain ⟨W5, hW5⟩ : ∃ W5, W5 = ((W2.setCell ⟨g, a.toNat, none⟩ (.slice Ab rb.length cb)).setCell ⟨g, b.toNat, none⟩ (.slice Aa ra.length ca)).drew := ⟨_, rfl⟩
  rw [← hW5]
  obtain ⟨e0, e1, e2, e3, e4, e5, e6, e7, e8, e9, e10⟩ := END W5 hW5
  have HO := Lib.hid e9; have HE := Lib.hid e10
  clear END e9 e10 hW5 z3 z4 y0 y1 x2 r0 r1 r2 s0 s1 s2 z0 z1 f0 f1
  go_wp2
  refine bodyPost_ret (v := .agg #[.int .i64 v, .int .i64 h, .slice (some ⟨g, 0, none⟩) rows.length gcap]) (by simp [results, Tryz.results162, go_sem, *]) rfl ⟨_, rfl, ?_, ?_⟩
  ·rw [HA.out, HB.out]; exact (((HO.out.setCell (by simp <;> omega) _).setCell (by simp <;> omega) _).setCell (by simp <;> omega) _).mono (by omega)
  ·exact ((HE.out.setCell (by simp <;> omega) _).setCell (by simp <;> omega) _).setCell (by simp <;> omega) _
end Go.Proofs.YtjdbfokbgmbphaaGreatDoor
