/- The reference's stMake, kinds 7 and 9. Conditions: a system of moderate size, a possible step. -/
import Derived.Test.YtjdbfokbgmbphaaGreatDoorPk9
import Derived.Test.YtjdbfokbgmbphaaGreatDoorPk12
import Derived.Maps.AppendAt
namespace Go.Proofs.YtjdbfokbgmbphaaGreatDoor
set_option linter.unusedVariables false
set_option linter.unusedSimpArgs false
open Go.RowKit
/-- 'append(s, l...)' of numbers, s the call's own, as one step of a region. -/
theorem step_appendInts {ops : Array Oper} {o : Oper} {a : Act} {K : Act → World → Prop} {Q : Exit → Act → World → Prop} {E : Prop} (hgd : o.guard = none) (s x : Operand)
  (ho : o.op = .call { callee := .builtin .append, args := #[s, x], argTypes := #[25, 25] }) (B : Nat) (W : World) (v : Value) (xs ys : List Int) (A : Option Addr) (m c : Nat) (hm : m = ys.length)
  (hs : a.eval s = v) (hx : a.eval x = .slice A m c) (hown : OwnInts W B v xs) (hat : IntsAt W A ys) (hlen : xs.length + m ≤ 1099511627776) (hB : B ≤ W.heap.size)
  (h : ∀ v' w', OwnInts w' B v' (xs ++ ys) → Below B W w' → K (a.put o.dst v') w') :
  if Region.wanted o (yielded ops a.tmps) = true then Oper.wp Tryz.prog o a W K Q else E := by
 rw [if_pos (show Region.wanted o (yielded ops a.tmps) = true by simp [Region.wanted, hgd])]
 subst hm
 obtain ⟨i0, hi, hz0, hz1, hz2⟩ := info_parts infoInt
 cases A with
 | none =>
  have hy : ys = [] := by
   rcases hat with h | ⟨b, o, h, _⟩
   ·exact h
   ·cases h
  subst hy
  have hrun := run_append_none (P := Tryz.prog) (w := W) B 25 o.type 3 i0 1 Tryz.underlying25 hi v _ c _ hown
  unfold Oper.wp
  simp only [List.length_nil] at hx
  simp [execOp, ho, resolve, invoke, builtin, hs, hx, hrun, Result.andThen]
  exact h v W (by simpa using hown) (Below.refl _ _)
 | some ad =>
  obtain ⟨v', w', hr, h2, h3, h4, h5⟩ := run_append_own_at (P := Tryz.prog) W B 25 o.type 3 i0 (.int .i64 0) 1 8 Tryz.underlying25 hi hz0 hz1 hz2 rfl (by decide) v _ _ hown ad ys.length c (ys.map (Value.int .i64)) (by simp) (by
   intro j u hj
   rw [List.getElem?_map] at hj
   obtain ⟨y, hy, rfl⟩ := Option.map_eq_some_iff.1 hj
   rcases hat with h | ⟨b, o, h, hc⟩
   ·simp [h] at hy
   ·cases h; rw [addr_add]; exact hc j y hy) (by
   intro u hu
   obtain ⟨y, _, rfl⟩ := List.mem_map.1 hu
   rfl) (by unfold maxLen; omega) (by omega) hB
  unfold Oper.wp execOp
  simp only [ho, resolve, invoke, builtin, Sem.run_bind, Sem.run_pure, Result.andThen_ok, List.map_toArray, List.map_cons, List.map_nil, hs, hx, hr]
  exact h v' w' (by simpa [OwnInts] using h2) ((Below.refl _ _).grown h3 hB fun k hk => (World.ownsRow.lt hown k hk).1)
section
variable {P : Program} {md : Region.Mode} {ops : Array Oper} {Q : Exit → Act → World → Prop} {S : World → Prop}
/-- Two numbers may come up. -/
theorem twoT {n i j : Nat} {o o' : Oper} {fuel : Nat} {listed : Array Bool} {a : Act} {w : World} (hr : Region.ready md ops listed = [i, j]) (ho : ops.toList[i]? = some o) (ho' : ops.toList[j]? = some o')
  (h : ∀ K' : Act → World → Prop, Shut (∀ a w, (i < n → S w) → ((i < n → S w) → anyT P md ops Q S n fuel (listed.setIfInBounds i true) a w) → K' a w) →
   if Region.wanted o (yielded ops a.tmps) = true then Oper.wp P o a w K' Q else K' (a.put o.dst undef) w)
  (h' : ∀ K' : Act → World → Prop, Shut (∀ a w, (j < n → S w) → ((j < n → S w) → anyT P md ops Q S n fuel (listed.setIfInBounds j true) a w) → K' a w) →
   if Region.wanted o' (yielded ops a.tmps) = true then Oper.wp P o' a w K' Q else K' (a.put o'.dst undef) w) : anyT P md ops Q S n (fuel + 1) listed a w := by
 refine ⟨fun h0 => (by rw [h0] at hr; cases hr), fun k hk => ?_⟩
 rw [hr] at hk
 simp only [List.mem_cons, List.not_mem_nil, or_false] at hk
 rcases hk with rfl | rfl
 ·exact wpOp_step (by rw [← Array.getElem?_toList]; exact ho) (fun K' hK => h K' (fun a w hS hW => hK a w ⟨hS, hW hS⟩))
 ·exact wpOp_step (by rw [← Array.getElem?_toList]; exact ho') (fun K' hK => h' K' (fun a w hS hW => hK a w ⟨hS, hW hS⟩))
end
theorem own_form {w : World} {B : Nat} {A : Option Addr} {n cap : Nat} {xs : List Int} (h : OwnInts w B (.slice A n cap) xs) : (A = none ∧ xs = [] ∧ cap = 0) ∨ ∃ g, A = some ⟨g, 0, none⟩ := by
 rcases h.2 with ⟨h1, h2⟩ | ⟨g, cap', cur, h1, _⟩
 ·simp only [Value.slice.injEq] at h1
  exact Or.inl ⟨h1.1, List.eq_nil_of_length_eq_zero h2, h1.2.2⟩
 ·simp only [Value.slice.injEq] at h1
  exact Or.inr ⟨g, h1.1⟩
theorem ints_take {w : World} {A : Option Addr} {xs : List Int} (h : IntsAt w A xs) (q : Nat) : IntsAt w A (xs.take q) := by
 rcases h with h | ⟨b, o, h, hc⟩
 ·exact Or.inl (by rw [h]; simp)
 ·refine Or.inr ⟨b, o, h, fun k x hk => hc k x ?_⟩
  rw [List.getElem?_take] at hk
  split at hk
  ·exact hk
  ·cases hk
theorem ints_drop {w : World} {g cap : Nat} {xs : List Int} (h : IntsAt w (some ⟨g, 0, none⟩) xs) (hc : xs.length ≤ cap) (q : Nat) : ∃ A : Addr, (if cap = q then some (⟨g, 0, none⟩ : Addr) else some ⟨g, q, none⟩) = some A ∧ IntsAt w (some A) (xs.drop q) := by
 by_cases e : cap = q
 ·exact ⟨_, if_pos e, Or.inl (List.drop_of_length_le (by omega))⟩
 ·refine ⟨_, if_neg e, ?_⟩
  rcases h with h | ⟨b, o, h, hc⟩
  ·exact Or.inl (by rw [h]; simp)
  ·simp only [Option.some.injEq, Addr.mk.injEq] at h
   obtain ⟨rfl, rfl, _⟩ := h
   refine Or.inr ⟨g, q, rfl, fun k x hk => ?_⟩
   rw [List.getElem?_drop] at hk
   have := hc _ x hk
   rwa [Nat.zero_add] at this
theorem ints_new (w : World) (x : Int) : IntsAt (w.alloc (.cells #[.int .i64 x] 3)) (some ⟨w.heap.size, 0, none⟩) [x] := by
 refine Or.inr ⟨w.heap.size, 0, rfl, fun k y hk => ?_⟩
 match k, hk with
 | 0, hk =>
  simp at hk; subst hk
  have := cell_one_new w (.int .i64 x) 3 0 (.int .i64 x) rfl
  rwa [addr_add] at this
 | k + 1, hk => simp at hk
set_option maxRecDepth 100000 in
set_option maxHeartbeats 8000000 in
theorem sm_bring (p v h a b c : Int) (A : Option Addr) (cap : Nat) (rows : List (List Int)) (w : World) (XA : Option Addr) (n xcap : Nat) (hR : RowsAt w A rows) (hm : rows.length ≤ 160) (hms : ∀ r ∈ rows, r.length ≤ 1000) (hv : 0 ≤ v) (hv' : v ≤ 1000) (hb : 0 ≤ b) (hb' : b ≤ 1000) (hh : 0 ≤ h) (hh' : h ≤ 1000) (hlen : ∀ r ∈ rows, v + b ≤ r.length) (ha : 0 ≤ a) (ha' : a ≤ rows.length) (row : List Int) (hX : IntsAt w XA row) (hn : n = row.length) (hrow : row.length ≤ 1048576) :
  Calls Tryz.prog 49 #[.int .i64 p, .agg #[.int .i64 v, .int .i64 h, .slice A rows.length cap], .agg #[.int .i64 7, .int .i64 a, .int .i64 b, .int .i64 c, .slice XA n xcap]] w fun e w' =>
   ∃ u, e = .returned (.agg #[.int .i64 v, .int .i64 (h + 1), u]) ∧ OwnRows w' w.heap.size u (insAt (rows.map (fun r => insAt r (v + b).toNat 0)) a.toNat row) ∧ Below w.heap.size w w' := by
 have HX := Lib.hid (fun (W : World) (hW : Below w.heap.size w W) => (by
  have := l1Own_any XA xcap row W (hX.ext hW) (by omega)
  rw [← hn] at this
  exact this : Calls Tryz.prog 74 #[.slice XA n xcap] W fun e w' => ∃ u, e = .returned u ∧ OwnInts w' W.heap.size u row ∧ Below W.heap.size W w'))
 clear hX hn hrow
 obtain ⟨q, hq⟩ := Int.eq_ofNat_of_zero_le (show 0 ≤ v + b by omega)
 have hqn : (v + b).toNat = q := by omega
 rw [hqn]
 have HLEN := Lib.hid (show ∀ r ∈ rows, (q : Int) ≤ r.length ∧ r.length ≤ 1000 from fun r hr => ⟨by have := hlen r hr; omega, hms r hr⟩)
 clear hlen
 have hwq : IntKind.i64.wrap (v + b) = (q : Int) := by rw [IntKind.wrap_i64]; omega
 have hwh : IntKind.i64.wrap (h + 1) = h + 1 := by rw [IntKind.wrap_i64]; omega
 have HM := Lib.hid (show rows.length ≤ 1048576 by omega)
 have HMS := Lib.hid (show ∀ r ∈ rows, r.length ≤ 1048576 from fun r hr => by have := hms r hr; omega)
 go_enter Tryz.func49, Tryz.ntmps49
 go_wp2_with fail
 refine (stOwn_any _ _ _ _ _ _ (hR.ext (((Below.refl _ _).alloc (by simp) _ |>.alloc (by simp) _).alloc (by simp <;> omega) _)) HM.out HMS.out).mono ?_
 rintro e w1 ⟨u, rfl, ⟨us, hu⟩, hb1⟩
 obtain ⟨gA, gcap, rfl, _, _, _⟩ := OwnRows.view ⟨us, hu⟩
 obtain ⟨q0, q1, q2⟩ := heap_at3 w (.cells #[.int .i64 v, .int .i64 h, .slice A rows.length cap] 30) (.cells #[.int .i64 7, .int .i64 a, .int .i64 b, .int .i64 c, .slice XA n xcap] 34) (.cells #[.int .i64 0, .int .i64 0, .slice none 0 0] 30)
 have hsz1 := hb1.size
 simp only [World.size_alloc] at hsz1
 go_upto_region 2 with (fail)
 obtain ⟨W2, hW2⟩ : ∃ W2, W2 = w1.alloc (.cells #[.int .i64 v, .int .i64 h, .slice gA rows.length gcap] 30) := ⟨_, rfl⟩
 rw [← hW2]
 have hb2 : Below w1.heap.size w1 W2 := by rw [hW2]; exact (Below.refl _ _).alloc (Nat.le_refl _) _
 have hsz2 : W2.heap.size = w1.heap.size + 1 := by rw [hW2]; simp
 have hb02 := hb1.trans (hb2.mono hb1.size)
 have m2 : W2.heap[w1.heap.size]? = some (.cells #[.int .i64 v, .int .i64 h, .slice gA rows.length gcap] 30 (0, 0)) := by rw [hW2]; exact heap_at _ _ rfl
 have k0 := boxb hb02 q0
 have k1 := boxb hb02 q1
 have k2 := boxb hb02 q2
 have hu2 : OwnRowsW W2 (w.heap.size + 3) (.slice gA rows.length gcap) rows us := (hu.ext hb2).mono (by simp)
 have hub : ∀ g', gA = some ⟨g', 0, none⟩ → g' < w1.heap.size := fun g' e => by subst e; exact (World.ownsRow.lt hu.outer g' rfl).2
 have hin : ∀ (k : Nat) (x : Value), us[k]? = some x → ∀ b, x.ownBlock = some b → b < w1.heap.size := fun k x hx b hb => by obtain ⟨r, _, ho⟩ := hu.getR hx; exact (ho.lt b hb).2
 have hb3 : Below w.heap.size w W2 := (below_alloc3 w _ _ _).trans (hb02.mono (by simp <;> omega))
 clear hu hb1 hb2 hb02 hR hms q0 q1 q2 hW2
 obtain ⟨y0, y1, y2, y3, y4⟩ := cells_5 k1
 obtain ⟨x0, x1, x2⟩ := cells_3 m2
 obtain ⟨s0, s1, s2⟩ := cells_3 k0
 have f1 := blk_free m2 1
 have HU := Lib.hid hu2; have HB := Lib.hid hb3; have K0 := Lib.hid k0; have K1 := Lib.hid k1; have K2 := Lib.hid k2; have M2 := Lib.hid m2
 clear hu2 hb3 hub hin k0 k1 k2 m2
 go_upto_region 33 with (fail)
 obtain ⟨W6, hW6⟩ : ∃ W6, W6 = W2.setCell ⟨w1.heap.size, 1, none⟩ (.int .i64 (h + 1)) := ⟨_, rfl⟩
 rw [← hW6]
 have hm6 := heap_setCell_same W2 w1.heap.size 1 _ _ (.int .i64 (h + 1)) M2.out
 simp only [List.setIfInBounds_toArray, List.set_cons_zero, List.set_cons_succ] at hm6
 rw [← hW6] at hm6
 have hp6 : ∀ j, j ≠ w1.heap.size → W6.heap[j]? = W2.heap[j]? := fun j hj => by rw [hW6]; exact Below.heap_setCell _ _ _ _ hj
 have M6 := Lib.hid hm6
 have K06 := Lib.hid ((hp6 _ (by omega)).trans K0.out)
 have K16 := Lib.hid ((hp6 _ (by omega)).trans K1.out)
 have K26 := Lib.hid ((hp6 _ (by omega)).trans K2.out)
 have hu6 := HU.out.setSys M2.out (j := 1) (u := .int .i64 (h + 1))
 rw [← hW6] at hu6
 have hb6 := HB.out.setCell (p := ⟨w1.heap.size, 1, none⟩) (by simp <;> omega) (.int .i64 (h + 1))
 rw [← hW6] at hb6
 have hsz6 : W6.heap.size = w1.heap.size + 1 := by rw [hW6]; simpa using hsz2
 have HU6 := Lib.hid hu6; have HB6 := Lib.hid hb6
 obtain ⟨us6, hus6⟩ : ∃ us6, us6 = us := ⟨_, rfl⟩
 rw [← hus6] at HU6
 clear hm6 hp6 hu6 hb6 hW6 hus6
 clear y0 y1 y2 y3 y4 x0 x1 x2 s0 s1 s2 f1
 obtain ⟨y0, y1, y2, y3, y4⟩ := cells_5 K16.out
 obtain ⟨x0, x1, x2⟩ := cells_3 M6.out
 go_wp2
 go_loopw [202] (fun i wr => ∃ k : Nat, k ≤ rows.length ∧ i = .int .i64 k ∧ (∃ usk, OwnRowsW wr (w.heap.size + 3) (.slice gA rows.length gcap) (mapTo (fun r => insAt r q 0) rows k) usk) ∧
   wr.heap[w1.heap.size]? = some (.cells #[.int .i64 v, .int .i64 (h + 1), .slice gA rows.length gcap] 30 (0, 0)) ∧ Below (w.heap.size + 3) W6 wr)
  (fun i _ => rows.length - (intOf i).toNat)
 case atStart => exact ⟨0, Nat.zero_le _, rfl, ⟨us6, by rw [mapTo_zero]; exact HU6.out⟩, M6.out, Below.refl _ _⟩
 case round =>
  obtain ⟨k, hk, rfl, ⟨usk, hown⟩, hm2, hbw⟩ := hrel
  clear y0 y1 y2 y3 y4 x0 x1 x2
  by_cases hlt : k < rows.length
  ·obtain ⟨r, hr⟩ := get_of_lt hlt
   have hrk : (mapTo (fun r => insAt r q 0) rows k)[k]? = some r := (mapTo_get _ _ _ hlt).trans hr
   obtain ⟨ur, hur, hor⟩ := hown.get hrk
   obtain ⟨hl1, hl2⟩ := HLEN.out r (List.mem_of_getElem? hr)
   obtain ⟨Ar, cr, rfl, hIr, hcr1, _⟩ := hor.view
   obtain ⟨g, rfl, hg1, hg2⟩ := own_at hown (by rw [mapTo_len _ _ _ hk]; omega)
   have hout := hown.outer
   rw [mapTo_len _ _ _ hk] at hout
   have z0 : wr.cell? ⟨g, k, none⟩ = some (.slice Ar r.length cr) := by rw [hout.cellAt _ (by omega), hur]
   have y2 : wr.cell? ⟨w1.heap.size, 2, none⟩ = some (.slice (some ⟨g, 0, none⟩) rows.length gcap) := blk_cell hm2 2
   have hne2 : g ≠ w1.heap.size := fun e => by
    rcases ownsRow_neSys hown.outer hm2 (by decide) with h1 | h1
    ·cases h1
    ·exact h1 (by rw [← e]; rfl)
   have f0 := hout.frozenAt k
   have HO := Lib.hid hown; have HW := Lib.hid hbw; have HM2 := Lib.hid hm2; have HUR := Lib.hid hur; have HRR := Lib.hid hr
   have hql : q ≤ r.length := by omega
   have hqc : q ≤ cr := by omega
   have hIT := ints_take hIr q
   have IT := Lib.hid hIT
   clear hout hown hbw hm2 hrk hur hr hIT
   rcases own_form hor with ⟨rfl, rfl, rfl⟩ | ⟨gr, rfl⟩
   ·obtain rfl : q = 0 := by simpa using hql
    have ID := Lib.hid (show IntsAt wr none (List.drop 0 ([] : List Int)) from Or.inl rfl)
    simp only [List.length_nil] at z0
    have e0 : ((0 : Nat) : Int) = 0 := rfl
    rw [e0] at hwq
    simp only [e0]
    clear hor hIr hcr1 hq e0
    have L1 := Lib.hid (fun (W : World) (hW : Below wr.heap.size wr W) => (by
     have := l1Own_any (none) (0) ((([] : List Int)).take 0) W (IT.out.ext hW) (by simp <;> omega)
     rw [show ((([] : List Int)).take 0).length = 0 by simp <;> omega] at this
     exact this : Calls Tryz.prog 74 #[.slice (none) 0 (0)] W fun e w' => ∃ u, e = .returned u ∧ OwnInts w' W.heap.size u ((([] : List Int)).take 0) ∧ Below W.heap.size W w'))
    go_wp2_with fail
    refine wp_region_T (S := fun W => W.cell? ⟨w1.heap.size, 2, none⟩ = some (.slice (some ⟨g, 0, none⟩) rows.length gcap)) 14 (by kernel_rfl) y2 (fun hHeld => ?_)
    refine takeQ 0 (v := ?_) rfl (Or.inl ⟨by rfl, ?_⟩) ?_
    rotate_left
    ·intro w h; (try dsimp only at h); go_simp; (try with_reducible rfl)
    simp only [Act.put, List.setIfInBounds_toArray, List.set_cons_zero, List.set_cons_succ]
    refine takeQ 1 (v := ?_) rfl (Or.inl ⟨by rfl, ?_⟩) ?_
    rotate_left
    ·intro w h; (try dsimp only at h); go_simp; (try with_reducible rfl)
    simp only [Act.put, List.setIfInBounds_toArray, List.set_cons_zero, List.set_cons_succ]
    refine takeQ 2 (v := ?_) rfl (Or.inl ⟨by rfl, ?_⟩) ?_
    rotate_left
    ·intro w h; (try dsimp only at h); go_simp; (try with_reducible rfl)
    simp only [Act.put, List.setIfInBounds_toArray, List.set_cons_zero, List.set_cons_succ]
    refine takeQ 3 (v := ?_) rfl (Or.inl ⟨by rfl, ?_⟩) ?_
    rotate_left
    ·intro w h; (try dsimp only at h); go_simp; (try with_reducible rfl)
    simp only [Act.put, List.setIfInBounds_toArray, List.set_cons_zero, List.set_cons_succ]
    refine takeQ 4 (v := ?_) rfl (Or.inl ⟨by rfl, ?_⟩) ?_
    rotate_left
    ·intro w h; (try dsimp only at h); go_simp; (try with_reducible rfl)
    simp only [Act.put, List.setIfInBounds_toArray, List.set_cons_zero, List.set_cons_succ]
    refine takeQ 5 (v := ?_) rfl (Or.inl ⟨by rfl, ?_⟩) ?_
    rotate_left
    ·intro w h; (try dsimp only at h); go_simp; (try with_reducible rfl)
    simp only [Act.put, List.setIfInBounds_toArray, List.set_cons_zero, List.set_cons_succ]
    refine takeQ 9 (v := ?_) rfl (Or.inl ⟨by rfl, ?_⟩) ?_
    rotate_left
    ·intro w h; (try dsimp only at h); go_simp; (try with_reducible rfl)
    simp only [Act.put, List.setIfInBounds_toArray, List.set_cons_zero, List.set_cons_succ]
    refine takeQ 10 (v := ?_) rfl (Or.inl ⟨by rfl, ?_⟩) ?_
    rotate_left
    ·intro w h; (try dsimp only at h); go_simp; (try with_reducible rfl)
    simp only [Act.put, List.setIfInBounds_toArray, List.set_cons_zero, List.set_cons_succ]
    refine takeQ 11 (v := ?_) rfl (Or.inl ⟨by rfl, ?_⟩) ?_
    rotate_left
    ·intro w h; (try dsimp only at h); go_simp; (try with_reducible rfl)
    simp only [Act.put, List.setIfInBounds_toArray, List.set_cons_zero, List.set_cons_succ]
    refine twoT (i := 6) (j := 7) (by kernel_rfl) rfl rfl (fun K hK => ?_) (fun K hK => ?_)
    ·go_simp
     refine (L1.out _ (Below.refl _ _).drew).mono ?_
     rintro e w2 ⟨u1, rfl, hu1, hb2⟩
     obtain ⟨A1, c1, rfl⟩ : ∃ A1 c1, u1 = .slice A1 0 c1 := by
      obtain ⟨A1, c1, e, _⟩ := hu1.view
      exact ⟨A1, c1, by rw [e]; congr 1 <;> (simp <;> omega)⟩
     have H2 := Lib.hid ((Below.refl wr.heap.size wr).drew.trans hb2)
     have HV1 := Lib.hid hu1
     clear hu1 hb2
     go_simp
     refine hK.out _ _ (fun _ => ext_cell H2.out y2) (fun hHeld => ?_)
     clear hK K
     try simp only [Act.put, List.setIfInBounds_toArray, List.set_cons_zero, List.set_cons_succ]
     have hHeld := hHeld (by decide)
     refine oneT (i := 7) (by kernel_rfl) rfl (fun K hK => ?_)
     go_simp
     refine hK.out _ _ (fun _ => ext_cell (H2.out.alloc H2.out.size _) y2) (fun hHeld => ?_)
     clear hK K
     try simp only [Act.put, List.setIfInBounds_toArray, List.set_cons_zero, List.set_cons_succ]
     have hHeld := hHeld (by decide)
     have hc8 := H2.out.alloc H2.out.size (.cells #[.int .i64 0] 3)
     have hv1 : OwnInts (w2.alloc (.cells #[.int .i64 0] 3)) wr.heap.size (.slice A1 0 c1) ((([] : List Int)).take 0) := HV1.out.ext ((Below.refl _ _).alloc (Nat.le_refl _) _)
     have hz0 := ints_new w2 0
     have HV2 := Lib.hid hv1; have HZ := Lib.hid hz0; have HC := Lib.hid hc8
     clear hv1 hz0 hc8
     refine oneT (i := 8) (by kernel_rfl) rfl (fun K hK => ?_)
     refine step_appendInts rfl (.tmp 213) (.tmp 214) rfl wr.heap.size _ (.slice A1 0 c1) ((([] : List Int)).take 0) [0] (some ⟨_, 0, none⟩) 1 1 rfl rfl rfl HV2.out HZ.out (by simp <;> omega) HC.out.size ?_
     intro v2 w3 ho2 hb3
     obtain ⟨A2, c2, rfl⟩ : ∃ A2 c2, v2 = .slice A2 (0 + 1) c2 := by
      obtain ⟨A2, c2, e, _⟩ := ho2.view
      exact ⟨A2, c2, by rw [e]; congr 1 <;> (simp <;> omega)⟩
     have HC3 := Lib.hid (HC.out.trans hb3); have HO2 := Lib.hid ho2
     clear ho2 hb3
     refine hK.out _ _ (fun _ => ext_cell HC3.out y2) (fun hHeld => ?_)
     clear hK K
     try simp only [Act.put, List.setIfInBounds_toArray, List.set_cons_zero, List.set_cons_succ]
     have hHeld := hHeld (by decide)
     refine oneT (i := 12) (by kernel_rfl) rfl (fun K hK => ?_)
     refine step_appendInts rfl (.tmp 215) (.tmp 218) rfl wr.heap.size w3 (.slice A2 (0 + 1) c2) ((([] : List Int)).take 0 ++ [0]) ((([] : List Int)).drop 0) (none) (0) (0) (by simp) rfl rfl HO2.out (ID.out.ext HC3.out) (by simp <;> omega) HC3.out.size ?_
     intro v3 w4 ho3 hb4
     rw [show (([] : List Int)).take 0 ++ [0] ++ (([] : List Int)).drop 0 = insAt (([] : List Int)) 0 0 by simp [insAt]] at ho3
     obtain ⟨A3, c3, rfl⟩ : ∃ A3 c3, v3 = .slice A3 ((([] : List Int)).length + 1) c3 := by
      obtain ⟨A3, c3, e, _⟩ := ho3.view
      exact ⟨A3, c3, by rw [e, show (insAt (([] : List Int)) 0 (0 : Int)).length = (([] : List Int)).length + 1 from insAt_len _ _ _ (by omega)]⟩
     have HC4 := Lib.hid (HC3.out.trans hb4); have HO3 := Lib.hid ho3
     clear ho3 hb4
     have z04 := ext_cell HC4.out z0
     have f04 := ext_frozen HC4.out f0 (block_of z0)
     have Y24 := Lib.hid (ext_cell HC4.out y2)
     clear z0 f0
     refine hK.out _ _ (fun _ => Y24.out) (fun hHeld => ?_)
     clear hK K y2
     try simp only [Act.put, List.setIfInBounds_toArray, List.set_cons_zero, List.set_cons_succ]
     have hHeld := hHeld (by decide)
     refine oneT (i := 13) (by kernel_rfl) rfl (fun K hK => ?_)
     go_simp
     refine hK.out _ _ (fun _ => Y24.out) (fun hHeld => ?_)
     clear hK K
     try simp only [Act.put, List.setIfInBounds_toArray, List.set_cons_zero, List.set_cons_succ]
     have hHeld := hHeld (by decide)
     refine oneT (i := 14) (by kernel_rfl) rfl (fun K hK => ?_)
     go_simp
     refine hK.out _ _ (fun h => absurd h (by decide)) (fun _ => ?_)
     clear hK K
     try simp only [Act.put, List.setIfInBounds_toArray, List.set_cons_zero, List.set_cons_succ]
     refine doneT (by kernel_rfl) ?_ _
     have hsw := HW.out.size
     have hnew := HO.out.put (mapTo_len _ _ _ hk).symm HUR.out (grown_of_below HC4.out) (HO3.out.mono (B' := w.heap.size + 3) (by omega)) (fun b hb => Or.inr (HO3.out.lt b hb).1)
     rw [mapTo_set (fun r => insAt r 0 0) _ k (([] : List Int)) HRR.out] at hnew
     have HN := Lib.hid hnew
     have HM3 := Lib.hid ((heap_setCell_other w4 ⟨g, k, none⟩ w1.heap.size (.slice A3 ((([] : List Int)).length + 1) c3) (by simp <;> omega)).trans ((HC4.out.block w1.heap.size (by omega)).trans HM2.out))
     have HB3 := Lib.hid (Below.setCell (HW.out.trans (HC4.out.mono (by omega))) (p := ⟨g, k, none⟩) (by simp <;> omega) (.slice A3 ((([] : List Int)).length + 1) c3))
     clear hnew
     go_wp2
     go_roundw
     case rel => exact ⟨k+1, by omega, by go_num, ⟨_, HN.out⟩, HM3.out, HB3.out⟩
     case measure => simp [intOf]; omega
    ·go_simp
     refine hK.out _ _ (fun _ => ext_cell ((Below.refl _ _).drew.alloc (Nat.le_refl _) _) y2) (fun hHeld => ?_)
     clear hK K
     try simp only [Act.put, List.setIfInBounds_toArray, List.set_cons_zero, List.set_cons_succ]
     have hHeld := hHeld (by decide)
     refine oneT (i := 6) (by kernel_rfl) rfl (fun K hK => ?_)
     go_simp
     refine (L1.out _ ((Below.refl _ _).drew.alloc (Nat.le_refl _) _)).mono ?_
     rintro e w2 ⟨u1, rfl, hu1, hb2⟩
     obtain ⟨A1, c1, rfl⟩ : ∃ A1 c1, u1 = .slice A1 0 c1 := by
      obtain ⟨A1, c1, e, _⟩ := hu1.view
      exact ⟨A1, c1, by rw [e]; congr 1 <;> (simp <;> omega)⟩
     have H2 := Lib.hid (((Below.refl wr.heap.size wr).drew.alloc (Nat.le_refl _) (.cells #[.int .i64 0] 3)).trans (hb2.mono (by simp)))
     have hv1 : OwnInts w2 wr.heap.size (.slice A1 0 c1) ((([] : List Int)).take 0) := hu1.mono (by simp)
     have hz0 := (ints_new wr.drew 0).ext hb2
     clear hu1 hb2
     have hc8 := H2.out
     go_simp
     refine hK.out _ _ (fun _ => ext_cell H2.out y2) (fun hHeld => ?_)
     clear hK K
     try simp only [Act.put, List.setIfInBounds_toArray, List.set_cons_zero, List.set_cons_succ]
     have hHeld := hHeld (by decide)
     have HV2 := Lib.hid hv1; have HZ := Lib.hid hz0; have HC := Lib.hid hc8
     clear hv1 hz0 hc8
     refine oneT (i := 8) (by kernel_rfl) rfl (fun K hK => ?_)
     refine step_appendInts rfl (.tmp 213) (.tmp 214) rfl wr.heap.size _ (.slice A1 0 c1) ((([] : List Int)).take 0) [0] (some ⟨_, 0, none⟩) 1 1 rfl rfl rfl HV2.out HZ.out (by simp <;> omega) HC.out.size ?_
     intro v2 w3 ho2 hb3
     obtain ⟨A2, c2, rfl⟩ : ∃ A2 c2, v2 = .slice A2 (0 + 1) c2 := by
      obtain ⟨A2, c2, e, _⟩ := ho2.view
      exact ⟨A2, c2, by rw [e]; congr 1 <;> (simp <;> omega)⟩
     have HC3 := Lib.hid (HC.out.trans hb3); have HO2 := Lib.hid ho2
     clear ho2 hb3
     refine hK.out _ _ (fun _ => ext_cell HC3.out y2) (fun hHeld => ?_)
     clear hK K
     try simp only [Act.put, List.setIfInBounds_toArray, List.set_cons_zero, List.set_cons_succ]
     have hHeld := hHeld (by decide)
     refine oneT (i := 12) (by kernel_rfl) rfl (fun K hK => ?_)
     refine step_appendInts rfl (.tmp 215) (.tmp 218) rfl wr.heap.size w3 (.slice A2 (0 + 1) c2) ((([] : List Int)).take 0 ++ [0]) ((([] : List Int)).drop 0) (none) (0) (0) (by simp) rfl rfl HO2.out (ID.out.ext HC3.out) (by simp <;> omega) HC3.out.size ?_
     intro v3 w4 ho3 hb4
     rw [show (([] : List Int)).take 0 ++ [0] ++ (([] : List Int)).drop 0 = insAt (([] : List Int)) 0 0 by simp [insAt]] at ho3
     obtain ⟨A3, c3, rfl⟩ : ∃ A3 c3, v3 = .slice A3 ((([] : List Int)).length + 1) c3 := by
      obtain ⟨A3, c3, e, _⟩ := ho3.view
      exact ⟨A3, c3, by rw [e, show (insAt (([] : List Int)) 0 (0 : Int)).length = (([] : List Int)).length + 1 from insAt_len _ _ _ (by omega)]⟩
     have HC4 := Lib.hid (HC3.out.trans hb4); have HO3 := Lib.hid ho3
     clear ho3 hb4
     have z04 := ext_cell HC4.out z0
     have f04 := ext_frozen HC4.out f0 (block_of z0)
     have Y24 := Lib.hid (ext_cell HC4.out y2)
     clear z0 f0
     refine hK.out _ _ (fun _ => Y24.out) (fun hHeld => ?_)
     clear hK K y2
     try simp only [Act.put, List.setIfInBounds_toArray, List.set_cons_zero, List.set_cons_succ]
     have hHeld := hHeld (by decide)
     refine oneT (i := 13) (by kernel_rfl) rfl (fun K hK => ?_)
     go_simp
     refine hK.out _ _ (fun _ => Y24.out) (fun hHeld => ?_)
     clear hK K
     try simp only [Act.put, List.setIfInBounds_toArray, List.set_cons_zero, List.set_cons_succ]
     have hHeld := hHeld (by decide)
     refine oneT (i := 14) (by kernel_rfl) rfl (fun K hK => ?_)
     go_simp
     refine hK.out _ _ (fun h => absurd h (by decide)) (fun _ => ?_)
     clear hK K
     try simp only [Act.put, List.setIfInBounds_toArray, List.set_cons_zero, List.set_cons_succ]
     refine doneT (by kernel_rfl) ?_ _
     have hsw := HW.out.size
     have hnew := HO.out.put (mapTo_len _ _ _ hk).symm HUR.out (grown_of_below HC4.out) (HO3.out.mono (B' := w.heap.size + 3) (by omega)) (fun b hb => Or.inr (HO3.out.lt b hb).1)
     rw [mapTo_set (fun r => insAt r 0 0) _ k (([] : List Int)) HRR.out] at hnew
     have HN := Lib.hid hnew
     have HM3 := Lib.hid ((heap_setCell_other w4 ⟨g, k, none⟩ w1.heap.size (.slice A3 ((([] : List Int)).length + 1) c3) (by simp <;> omega)).trans ((HC4.out.block w1.heap.size (by omega)).trans HM2.out))
     have HB3 := Lib.hid (Below.setCell (HW.out.trans (HC4.out.mono (by omega))) (p := ⟨g, k, none⟩) (by simp <;> omega) (.slice A3 ((([] : List Int)).length + 1) c3))
     clear hnew
     go_wp2
     go_roundw
     case rel => exact ⟨k+1, by omega, by go_num, ⟨_, HN.out⟩, HM3.out, HB3.out⟩
     case measure => simp [intOf]; omega
   ·obtain ⟨A9, hA, hID⟩ := ints_drop hIr hcr1 q
    have ID := Lib.hid hID
    clear hor hIr hID
    have L1 := Lib.hid (fun (W : World) (hW : Below wr.heap.size wr W) => (by
     have := l1Own_any (some ⟨gr, 0, none⟩) (cr) ((r).take q) W (IT.out.ext hW) (by simp <;> omega)
     rw [show ((r).take q).length = q by simp <;> omega] at this
     exact this : Calls Tryz.prog 74 #[.slice (some ⟨gr, 0, none⟩) q (cr)] W fun e w' => ∃ u, e = .returned u ∧ OwnInts w' W.heap.size u ((r).take q) ∧ Below W.heap.size W w'))
    go_wp2_with fail
    refine wp_region_T (S := fun W => W.cell? ⟨w1.heap.size, 2, none⟩ = some (.slice (some ⟨g, 0, none⟩) rows.length gcap)) 14 (by kernel_rfl) y2 (fun hHeld => ?_)
    refine takeQ 0 (v := ?_) rfl (Or.inl ⟨by rfl, ?_⟩) ?_
    rotate_left
    ·intro w h; (try dsimp only at h); go_simp; (try with_reducible rfl)
    simp only [Act.put, List.setIfInBounds_toArray, List.set_cons_zero, List.set_cons_succ]
    refine takeQ 1 (v := ?_) rfl (Or.inl ⟨by rfl, ?_⟩) ?_
    rotate_left
    ·intro w h; (try dsimp only at h); go_simp; (try with_reducible rfl)
    simp only [Act.put, List.setIfInBounds_toArray, List.set_cons_zero, List.set_cons_succ]
    refine takeQ 2 (v := ?_) rfl (Or.inl ⟨by rfl, ?_⟩) ?_
    rotate_left
    ·intro w h; (try dsimp only at h); go_simp; (try with_reducible rfl)
    simp only [Act.put, List.setIfInBounds_toArray, List.set_cons_zero, List.set_cons_succ]
    refine takeQ 3 (v := ?_) rfl (Or.inl ⟨by rfl, ?_⟩) ?_
    rotate_left
    ·intro w h; (try dsimp only at h); go_simp; (try with_reducible rfl)
    simp only [Act.put, List.setIfInBounds_toArray, List.set_cons_zero, List.set_cons_succ]
    refine takeQ 4 (v := ?_) rfl (Or.inl ⟨by rfl, ?_⟩) ?_
    rotate_left
    ·intro w h; (try dsimp only at h); go_simp; (try with_reducible rfl)
    simp only [Act.put, List.setIfInBounds_toArray, List.set_cons_zero, List.set_cons_succ]
    refine takeQ 5 (v := ?_) rfl (Or.inl ⟨by rfl, ?_⟩) ?_
    rotate_left
    ·intro w h; (try dsimp only at h); go_simp; (try with_reducible rfl)
    simp only [Act.put, List.setIfInBounds_toArray, List.set_cons_zero, List.set_cons_succ]
    refine takeQ 9 (v := ?_) rfl (Or.inl ⟨by rfl, ?_⟩) ?_
    rotate_left
    ·intro w h; (try dsimp only at h); go_simp; (try with_reducible rfl)
    simp only [Act.put, List.setIfInBounds_toArray, List.set_cons_zero, List.set_cons_succ]
    refine takeQ 10 (v := ?_) rfl (Or.inl ⟨by rfl, ?_⟩) ?_
    rotate_left
    ·intro w h; (try dsimp only at h); go_simp; (try with_reducible rfl)
    simp only [Act.put, List.setIfInBounds_toArray, List.set_cons_zero, List.set_cons_succ]
    refine takeQ 11 (v := ?_) rfl (Or.inl ⟨by rfl, ?_⟩) ?_
    rotate_left
    ·intro w h; (try dsimp only at h); go_simp; (try with_reducible rfl)
    simp only [Act.put, List.setIfInBounds_toArray, List.set_cons_zero, List.set_cons_succ]
    refine twoT (i := 6) (j := 7) (by kernel_rfl) rfl rfl (fun K hK => ?_) (fun K hK => ?_)
    ·go_simp
     refine (L1.out _ (Below.refl _ _).drew).mono ?_
     rintro e w2 ⟨u1, rfl, hu1, hb2⟩
     obtain ⟨A1, c1, rfl⟩ : ∃ A1 c1, u1 = .slice A1 q c1 := by
      obtain ⟨A1, c1, e, _⟩ := hu1.view
      exact ⟨A1, c1, by rw [e]; congr 1 <;> (simp <;> omega)⟩
     have H2 := Lib.hid ((Below.refl wr.heap.size wr).drew.trans hb2)
     have HV1 := Lib.hid hu1
     clear hu1 hb2
     go_simp
     refine hK.out _ _ (fun _ => ext_cell H2.out y2) (fun hHeld => ?_)
     clear hK K
     try simp only [Act.put, List.setIfInBounds_toArray, List.set_cons_zero, List.set_cons_succ]
     have hHeld := hHeld (by decide)
     refine oneT (i := 7) (by kernel_rfl) rfl (fun K hK => ?_)
     go_simp
     refine hK.out _ _ (fun _ => ext_cell (H2.out.alloc H2.out.size _) y2) (fun hHeld => ?_)
     clear hK K
     try simp only [Act.put, List.setIfInBounds_toArray, List.set_cons_zero, List.set_cons_succ]
     have hHeld := hHeld (by decide)
     have hc8 := H2.out.alloc H2.out.size (.cells #[.int .i64 0] 3)
     have hv1 : OwnInts (w2.alloc (.cells #[.int .i64 0] 3)) wr.heap.size (.slice A1 q c1) ((r).take q) := HV1.out.ext ((Below.refl _ _).alloc (Nat.le_refl _) _)
     have hz0 := ints_new w2 0
     have HV2 := Lib.hid hv1; have HZ := Lib.hid hz0; have HC := Lib.hid hc8
     clear hv1 hz0 hc8
     refine oneT (i := 8) (by kernel_rfl) rfl (fun K hK => ?_)
     refine step_appendInts rfl (.tmp 213) (.tmp 214) rfl wr.heap.size _ (.slice A1 q c1) ((r).take q) [0] (some ⟨_, 0, none⟩) 1 1 rfl rfl rfl HV2.out HZ.out (by simp <;> omega) HC.out.size ?_
     intro v2 w3 ho2 hb3
     obtain ⟨A2, c2, rfl⟩ : ∃ A2 c2, v2 = .slice A2 (q + 1) c2 := by
      obtain ⟨A2, c2, e, _⟩ := ho2.view
      exact ⟨A2, c2, by rw [e]; congr 1 <;> (simp <;> omega)⟩
     have HC3 := Lib.hid (HC.out.trans hb3); have HO2 := Lib.hid ho2
     clear ho2 hb3
     refine hK.out _ _ (fun _ => ext_cell HC3.out y2) (fun hHeld => ?_)
     clear hK K
     try simp only [Act.put, List.setIfInBounds_toArray, List.set_cons_zero, List.set_cons_succ]
     have hHeld := hHeld (by decide)
     refine oneT (i := 12) (by kernel_rfl) rfl (fun K hK => ?_)
     refine step_appendInts rfl (.tmp 215) (.tmp 218) rfl wr.heap.size w3 (.slice A2 (q + 1) c2) ((r).take q ++ [0]) ((r).drop q) (some A9) (r.length - q) (cr - q) (by simp) rfl rfl HO2.out (ID.out.ext HC3.out) (by simp <;> omega) HC3.out.size ?_
     intro v3 w4 ho3 hb4
     rw [show (r).take q ++ [0] ++ (r).drop q = insAt (r) q 0 by simp [insAt]] at ho3
     obtain ⟨A3, c3, rfl⟩ : ∃ A3 c3, v3 = .slice A3 ((r).length + 1) c3 := by
      obtain ⟨A3, c3, e, _⟩ := ho3.view
      exact ⟨A3, c3, by rw [e, show (insAt (r) q (0 : Int)).length = (r).length + 1 from insAt_len _ _ _ (by omega)]⟩
     have HC4 := Lib.hid (HC3.out.trans hb4); have HO3 := Lib.hid ho3
     clear ho3 hb4
     have z04 := ext_cell HC4.out z0
     have f04 := ext_frozen HC4.out f0 (block_of z0)
     have Y24 := Lib.hid (ext_cell HC4.out y2)
     clear z0 f0
     refine hK.out _ _ (fun _ => Y24.out) (fun hHeld => ?_)
     clear hK K y2
     try simp only [Act.put, List.setIfInBounds_toArray, List.set_cons_zero, List.set_cons_succ]
     have hHeld := hHeld (by decide)
     refine oneT (i := 13) (by kernel_rfl) rfl (fun K hK => ?_)
     go_simp
     refine hK.out _ _ (fun _ => Y24.out) (fun hHeld => ?_)
     clear hK K
     try simp only [Act.put, List.setIfInBounds_toArray, List.set_cons_zero, List.set_cons_succ]
     have hHeld := hHeld (by decide)
     refine oneT (i := 14) (by kernel_rfl) rfl (fun K hK => ?_)
     go_simp
     refine hK.out _ _ (fun h => absurd h (by decide)) (fun _ => ?_)
     clear hK K
     try simp only [Act.put, List.setIfInBounds_toArray, List.set_cons_zero, List.set_cons_succ]
     refine doneT (by kernel_rfl) ?_ _
     have hsw := HW.out.size
     have hnew := HO.out.put (mapTo_len _ _ _ hk).symm HUR.out (grown_of_below HC4.out) (HO3.out.mono (B' := w.heap.size + 3) (by omega)) (fun b hb => Or.inr (HO3.out.lt b hb).1)
     rw [mapTo_set (fun r => insAt r q 0) _ k (r) HRR.out] at hnew
     have HN := Lib.hid hnew
     have HM3 := Lib.hid ((heap_setCell_other w4 ⟨g, k, none⟩ w1.heap.size (.slice A3 ((r).length + 1) c3) (by simp <;> omega)).trans ((HC4.out.block w1.heap.size (by omega)).trans HM2.out))
     have HB3 := Lib.hid (Below.setCell (HW.out.trans (HC4.out.mono (by omega))) (p := ⟨g, k, none⟩) (by simp <;> omega) (.slice A3 ((r).length + 1) c3))
     clear hnew
     go_wp2
     go_roundw
     case rel => exact ⟨k+1, by omega, by go_num, ⟨_, HN.out⟩, HM3.out, HB3.out⟩
     case measure => simp [intOf]; omega
    ·go_simp
     refine hK.out _ _ (fun _ => ext_cell ((Below.refl _ _).drew.alloc (Nat.le_refl _) _) y2) (fun hHeld => ?_)
     clear hK K
     try simp only [Act.put, List.setIfInBounds_toArray, List.set_cons_zero, List.set_cons_succ]
     have hHeld := hHeld (by decide)
     refine oneT (i := 6) (by kernel_rfl) rfl (fun K hK => ?_)
     go_simp
     refine (L1.out _ ((Below.refl _ _).drew.alloc (Nat.le_refl _) _)).mono ?_
     rintro e w2 ⟨u1, rfl, hu1, hb2⟩
     obtain ⟨A1, c1, rfl⟩ : ∃ A1 c1, u1 = .slice A1 q c1 := by
      obtain ⟨A1, c1, e, _⟩ := hu1.view
      exact ⟨A1, c1, by rw [e]; congr 1 <;> (simp <;> omega)⟩
     have H2 := Lib.hid (((Below.refl wr.heap.size wr).drew.alloc (Nat.le_refl _) (.cells #[.int .i64 0] 3)).trans (hb2.mono (by simp)))
     have hv1 : OwnInts w2 wr.heap.size (.slice A1 q c1) ((r).take q) := hu1.mono (by simp)
     have hz0 := (ints_new wr.drew 0).ext hb2
     clear hu1 hb2
     have hc8 := H2.out
     go_simp
     refine hK.out _ _ (fun _ => ext_cell H2.out y2) (fun hHeld => ?_)
     clear hK K
     try simp only [Act.put, List.setIfInBounds_toArray, List.set_cons_zero, List.set_cons_succ]
     have hHeld := hHeld (by decide)
     have HV2 := Lib.hid hv1; have HZ := Lib.hid hz0; have HC := Lib.hid hc8
     clear hv1 hz0 hc8
     refine oneT (i := 8) (by kernel_rfl) rfl (fun K hK => ?_)
     refine step_appendInts rfl (.tmp 213) (.tmp 214) rfl wr.heap.size _ (.slice A1 q c1) ((r).take q) [0] (some ⟨_, 0, none⟩) 1 1 rfl rfl rfl HV2.out HZ.out (by simp <;> omega) HC.out.size ?_
     intro v2 w3 ho2 hb3
     obtain ⟨A2, c2, rfl⟩ : ∃ A2 c2, v2 = .slice A2 (q + 1) c2 := by
      obtain ⟨A2, c2, e, _⟩ := ho2.view
      exact ⟨A2, c2, by rw [e]; congr 1 <;> (simp <;> omega)⟩
     have HC3 := Lib.hid (HC.out.trans hb3); have HO2 := Lib.hid ho2
     clear ho2 hb3
     refine hK.out _ _ (fun _ => ext_cell HC3.out y2) (fun hHeld => ?_)
     clear hK K
     try simp only [Act.put, List.setIfInBounds_toArray, List.set_cons_zero, List.set_cons_succ]
     have hHeld := hHeld (by decide)
     refine oneT (i := 12) (by kernel_rfl) rfl (fun K hK => ?_)
     refine step_appendInts rfl (.tmp 215) (.tmp 218) rfl wr.heap.size w3 (.slice A2 (q + 1) c2) ((r).take q ++ [0]) ((r).drop q) (some A9) (r.length - q) (cr - q) (by simp) rfl rfl HO2.out (ID.out.ext HC3.out) (by simp <;> omega) HC3.out.size ?_
     intro v3 w4 ho3 hb4
     rw [show (r).take q ++ [0] ++ (r).drop q = insAt (r) q 0 by simp [insAt]] at ho3
     obtain ⟨A3, c3, rfl⟩ : ∃ A3 c3, v3 = .slice A3 ((r).length + 1) c3 := by
      obtain ⟨A3, c3, e, _⟩ := ho3.view
      exact ⟨A3, c3, by rw [e, show (insAt (r) q (0 : Int)).length = (r).length + 1 from insAt_len _ _ _ (by omega)]⟩
     have HC4 := Lib.hid (HC3.out.trans hb4); have HO3 := Lib.hid ho3
     clear ho3 hb4
     have z04 := ext_cell HC4.out z0
     have f04 := ext_frozen HC4.out f0 (block_of z0)
     have Y24 := Lib.hid (ext_cell HC4.out y2)
     clear z0 f0
     refine hK.out _ _ (fun _ => Y24.out) (fun hHeld => ?_)
     clear hK K y2
     try simp only [Act.put, List.setIfInBounds_toArray, List.set_cons_zero, List.set_cons_succ]
     have hHeld := hHeld (by decide)
     refine oneT (i := 13) (by kernel_rfl) rfl (fun K hK => ?_)
     go_simp
     refine hK.out _ _ (fun _ => Y24.out) (fun hHeld => ?_)
     clear hK K
     try simp only [Act.put, List.setIfInBounds_toArray, List.set_cons_zero, List.set_cons_succ]
     have hHeld := hHeld (by decide)
     refine oneT (i := 14) (by kernel_rfl) rfl (fun K hK => ?_)
     go_simp
     refine hK.out _ _ (fun h => absurd h (by decide)) (fun _ => ?_)
     clear hK K
     try simp only [Act.put, List.setIfInBounds_toArray, List.set_cons_zero, List.set_cons_succ]
     refine doneT (by kernel_rfl) ?_ _
     have hsw := HW.out.size
     have hnew := HO.out.put (mapTo_len _ _ _ hk).symm HUR.out (grown_of_below HC4.out) (HO3.out.mono (B' := w.heap.size + 3) (by omega)) (fun b hb => Or.inr (HO3.out.lt b hb).1)
     rw [mapTo_set (fun r => insAt r q 0) _ k (r) HRR.out] at hnew
     have HN := Lib.hid hnew
     have HM3 := Lib.hid ((heap_setCell_other w4 ⟨g, k, none⟩ w1.heap.size (.slice A3 ((r).length + 1) c3) (by simp <;> omega)).trans ((HC4.out.block w1.heap.size (by omega)).trans HM2.out))
     have HB3 := Lib.hid (Below.setCell (HW.out.trans (HC4.out.mono (by omega))) (p := ⟨g, k, none⟩) (by simp <;> omega) (.slice A3 ((r).length + 1) c3))
     clear hnew
     go_wp2
     go_roundw
     case rel => exact ⟨k+1, by omega, by go_num, ⟨_, HN.out⟩, HM3.out, HB3.out⟩
     case measure => simp [intOf]; omega
  ·have hk' : k = rows.length := by omega
   subst hk'
   rw [mapTo_all _ _ _ (Nat.le_refl _)] at hown
   obtain ⟨rows2, hr2⟩ : ∃ rows2, rows2 = rows.map (fun r => insAt r q 0) := ⟨_, rfl⟩
   have hl2 : rows2.length = rows.length := by rw [hr2]; simp
   rw [← hr2] at hown
   have HL2 := Lib.hid hl2; have HR2 := Lib.hid hr2
   clear hr2 hl2
   have hout := hown.outer
   rw [HL2.out] at hout
   have k0 := (hbw.block _ (by omega)).trans K06.out
   have k1 := (hbw.block _ (by omega)).trans K16.out
   have k2 := (hbw.block _ (by omega)).trans K26.out
   have hsw := hbw.size
   obtain ⟨y0, y1, y2, y3, y4⟩ := cells_5 k1
   obtain ⟨x0, x1, x2⟩ := cells_3 hm2
   have hb3 := HB6.out.trans (hbw.mono (by omega))
   have HU := Lib.hid hown; have HB := Lib.hid hb3; have K0 := Lib.hid k0; have K1 := Lib.hid k1; have K2 := Lib.hid k2; have M2 := Lib.hid hm2; have HOUT := Lib.hid hout
   clear hown hb3 k0 k1 k2 hm2 hbw hout
   go_upto_region 39 with (fail)
   have HS := Lib.hid (show ∀ wx, Below wr.heap.size wr wx → (fun W : World => W.cell? ⟨w1.heap.size, 2, none⟩ = some (.slice gA rows.length gcap) ∧ W.cell? ⟨w.heap.size + 1, 1, none⟩ = some (.int .i64 a) ∧ W.cell? ⟨w.heap.size + 1, 4, none⟩ = some (.slice XA n xcap)) wx from fun wx hb => ⟨ext_cell hb x2, ext_cell hb y1, ext_cell hb y4⟩)
   refine wp_region_T (S := (fun W : World => W.cell? ⟨w1.heap.size, 2, none⟩ = some (.slice gA rows.length gcap) ∧ W.cell? ⟨w.heap.size + 1, 1, none⟩ = some (.int .i64 a) ∧ W.cell? ⟨w.heap.size + 1, 4, none⟩ = some (.slice XA n xcap))) 9 (by kernel_rfl) (HS.out _ (Below.refl _ _).drew) (fun hHeld => ?_)
   refine takeQ 0 (v := ?_) rfl (Or.inl ⟨by rfl, ?_⟩) ?_
   rotate_left
   ·intro w h; (try dsimp only at h); go_simp; (try with_reducible rfl)
   simp only [Act.put, List.setIfInBounds_toArray, List.set_cons_zero, List.set_cons_succ]
   refine takeQ 1 (v := ?_) rfl (Or.inl ⟨by rfl, ?_⟩) ?_
   rotate_left
   ·intro w h; (try dsimp only at h); go_simp; (try with_reducible rfl)
   simp only [Act.put, List.setIfInBounds_toArray, List.set_cons_zero, List.set_cons_succ]
   refine takeQ 2 (v := ?_) rfl (Or.inl ⟨by rfl, ?_⟩) ?_
   rotate_left
   ·intro w h; (try dsimp only at h); go_simp; (try with_reducible rfl)
   simp only [Act.put, List.setIfInBounds_toArray, List.set_cons_zero, List.set_cons_succ]
   refine takeQ 3 (v := ?_) rfl (Or.inl ⟨by rfl, ?_⟩) ?_
   rotate_left
   ·intro w h; (try dsimp only at h); go_simp; (try with_reducible rfl)
   simp only [Act.put, List.setIfInBounds_toArray, List.set_cons_zero, List.set_cons_succ]
   refine takeQ 4 (v := ?_) rfl (Or.inl ⟨by rfl, ?_⟩) ?_
   rotate_left
   ·intro w h; (try dsimp only at h); go_simp; (try with_reducible rfl)
   simp only [Act.put, List.setIfInBounds_toArray, List.set_cons_zero, List.set_cons_succ]
   refine takeQ 5 (v := ?_) rfl (Or.inl ⟨by rfl, ?_⟩) ?_
   rotate_left
   ·intro w h; (try dsimp only at h); go_simp; (try with_reducible rfl)
   simp only [Act.put, List.setIfInBounds_toArray, List.set_cons_zero, List.set_cons_succ]
   refine oneT (i := 6) (by kernel_rfl) rfl (fun K hK => ?_)
   go_simp
   refine (HX.out _ HB.out.drew).mono ?_
   rintro e wb ⟨u1, rfl, hu1, hb1⟩
   obtain ⟨A1, c1, rfl, _⟩ := hu1.view
   have HBB := Lib.hid ((Below.refl wr.heap.size wr).drew.trans hb1)
   have HOZ := Lib.hid hu1
   clear hu1 hb1
   go_simp
   refine hK.out _ _ (fun _ => HS.out _ HBB.out) (fun hHeld => ?_)
   clear hK K
   try simp only [Act.put, List.setIfInBounds_toArray, List.set_cons_zero, List.set_cons_succ]
   have hHeld := hHeld (by decide)
   refine oneT (i := 7) (by kernel_rfl) rfl (fun K hK => ?_)
   go_simp
   refine (stInsert_any (w.heap.size + 3) _ a usk rows.length _ _ _ wb (by have h1 := (HU.out.ext HBB.out).outer; rw [HL2.out] at h1; exact h1) (own_one HU.out) ha ha' (by omega)).mono ?_
   rintro e wc ⟨v9, rfl, ho9, hb9⟩
   obtain ⟨g, gcap9, rfl, hg1, hg2⟩ := World.ownsRow.form ho9 (by omega)
   have hb5 := below_ext HBB.out hb9
   have hszb := HBB.out.size
   have hW := HU.out.insert HBB.out HOZ.out (by omega) (show a.toNat ≤ rows2.length by have := HL2.out; omega) (by rw [HL2.out]; exact ownsRow_mono ho9 (by omega)) (grown_of_below hb9)
   have HB5 := Lib.hid hb5; have HOW := Lib.hid hW
   clear hb5 hW ho9 hb9
   go_simp
   refine hK.out _ _ (fun _ => HS.out _ HB5.out) (fun hHeld => ?_)
   clear hK K
   try simp only [Act.put, List.setIfInBounds_toArray, List.set_cons_zero, List.set_cons_succ]
   have hHeld := hHeld (by decide)
   refine oneT (i := 8) (by kernel_rfl) rfl (fun K hK => ?_)
   go_simp
   refine hK.out _ _ (fun _ => HS.out _ HB5.out) (fun hHeld => ?_)
   clear hK K
   try simp only [Act.put, List.setIfInBounds_toArray, List.set_cons_zero, List.set_cons_succ]
   have hHeld := hHeld (by decide)
   have hF := (HB5.out.block w1.heap.size (by omega)).trans M2.out
   have HF := Lib.hid hF
   have f2 := blk_free hF 2
   obtain ⟨z0, z1, z2⟩ := cells_3 hF
   clear hF
   refine oneT (i := 9) (by kernel_rfl) rfl (fun K hK => ?_)
   go_simp
   refine hK.out _ _ (fun h => absurd h (by decide)) (fun _ => ?_)
   clear hK K
   try simp only [Act.put, List.setIfInBounds_toArray, List.set_cons_zero, List.set_cons_succ]
   refine doneT (by kernel_rfl) ?_ _
   have m2w := heap_setCell_same wc w1.heap.size 2 _ _ (.slice (some ⟨g, 0, none⟩) (rows.length + 1) gcap9) HF.out
   simp only [List.setIfInBounds_toArray, List.set_cons_zero, List.set_cons_succ] at m2w
   have k0w := (heap_setCell_other wc ⟨w1.heap.size, 2, none⟩ w.heap.size (.slice (some ⟨g, 0, none⟩) (rows.length + 1) gcap9) (by simp <;> omega)).trans ((HB5.out.block _ (by omega)).trans K0.out)
   have k1w := (heap_setCell_other wc ⟨w1.heap.size, 2, none⟩ (w.heap.size + 1) (.slice (some ⟨g, 0, none⟩) (rows.length + 1) gcap9) (by simp <;> omega)).trans ((HB5.out.block _ (by omega)).trans K1.out)
   have k2w := (heap_setCell_other wc ⟨w1.heap.size, 2, none⟩ (w.heap.size + 1 + 1) (.slice (some ⟨g, 0, none⟩) (rows.length + 1) gcap9) (by simp <;> omega)).trans ((HB5.out.block _ (by omega)).trans K2.out)
   have HO := Lib.hid (show OwnRows _ (w.heap.size + 3) _ (insAt (rows.map (fun r => insAt r q 0)) a.toNat row) from ⟨_, (by rw [← HR2.out]; have h1 := HOW.out.setSys HF.out (j := 2) (u := .slice (some ⟨g, 0, none⟩) (rows.length + 1) gcap9); exact h1)⟩)
   have HE := Lib.hid ((below_ext HB.out HB5.out).setCell (p := ⟨w1.heap.size, 2, none⟩) (by simp <;> omega) (.slice (some ⟨g, 0, none⟩) (rows.length + 1) gcap9))
   clear z0 z1 z2 y0 y1 y2 y3 y4 x0 x1 x2 f2
   obtain ⟨y0, y1, y2, y3, y4⟩ := cells_5 k1w
   obtain ⟨s0, s1, s2⟩ := cells_3 k0w
   clear k0w k1w
   have e0 := blk_cell m2w 0
   have e1 := blk_cell m2w 1
   have e2 := blk_cell m2w 2
   have e3 := blk_cell k2w 0
   have e4 := blk_cell k2w 1
   have e5 := blk_cell k2w 2
   have e6 := blk_free k2w 0
   have e7 := blk_free k2w 1
   have e8 := blk_free k2w 2
   simp only [List.getElem?_cons_zero, List.getElem?_cons_succ] at e0 e1 e2 e3 e4 e5
   clear m2w k2w
   go_wp2
   refine bodyPost_ret (v := .agg #[.int .i64 v, .int .i64 (h + 1), .slice (some ⟨g, 0, none⟩) (rows.length + 1) gcap9]) (by simp [results, Tryz.results49, go_sem, *]) rfl ⟨_, rfl, ?_, ?_⟩
   ·exact (((HO.out.setCell (by simp <;> omega) _).setCell (by simp <;> omega) _).setCell (by simp <;> omega) _).mono (by omega)
   ·exact ((HE.out.setCell (by simp <;> omega) _).setCell (by simp <;> omega) _).setCell (by simp <;> omega) _
set_option maxRecDepth 100000 in
set_option maxHeartbeats 8000000 in
theorem sm_invent (p v h a b c : Int) (A : Option Addr) (cap : Nat) (rows : List (List Int)) (w : World) (XA : Option Addr) (n xcap : Nat) (hR : RowsAt w A rows) (hm : rows.length ≤ 160) (hms : ∀ r ∈ rows, r.length ≤ 1000) (hv : 0 ≤ v) (hv' : v ≤ 1000) (hb : 0 ≤ b) (hb' : b ≤ 1000) (hh : 0 ≤ h) (hh' : h ≤ 1000) (hlen : ∀ r ∈ rows, v + b ≤ r.length) :
  Calls Tryz.prog 49 #[.int .i64 p, .agg #[.int .i64 v, .int .i64 h, .slice A rows.length cap], .agg #[.int .i64 9, .int .i64 a, .int .i64 b, .int .i64 c, .slice XA n xcap]] w fun e w' =>
   ∃ u, e = .returned (.agg #[.int .i64 v, .int .i64 (h + 1), u]) ∧ OwnRows w' w.heap.size u (rows.map (fun r => insAt r (v + b).toNat 0)) ∧ Below w.heap.size w w' := by
 obtain ⟨q, hq⟩ := Int.eq_ofNat_of_zero_le (show 0 ≤ v + b by omega)
 have hqn : (v + b).toNat = q := by omega
 rw [hqn]
 have HLEN := Lib.hid (show ∀ r ∈ rows, (q : Int) ≤ r.length ∧ r.length ≤ 1000 from fun r hr => ⟨by have := hlen r hr; omega, hms r hr⟩)
 clear hlen
 have hwq : IntKind.i64.wrap (v + b) = (q : Int) := by rw [IntKind.wrap_i64]; omega
 have hwh : IntKind.i64.wrap (h + 1) = h + 1 := by rw [IntKind.wrap_i64]; omega
 have HM := Lib.hid (show rows.length ≤ 1048576 by omega)
 have HMS := Lib.hid (show ∀ r ∈ rows, r.length ≤ 1048576 from fun r hr => by have := hms r hr; omega)
 go_enter Tryz.func49, Tryz.ntmps49
 go_wp2_with fail
 refine (stOwn_any _ _ _ _ _ _ (hR.ext (((Below.refl _ _).alloc (by simp) _ |>.alloc (by simp) _).alloc (by simp <;> omega) _)) HM.out HMS.out).mono ?_
 rintro e w1 ⟨u, rfl, ⟨us, hu⟩, hb1⟩
 obtain ⟨gA, gcap, rfl, _, _, _⟩ := OwnRows.view ⟨us, hu⟩
 obtain ⟨q0, q1, q2⟩ := heap_at3 w (.cells #[.int .i64 v, .int .i64 h, .slice A rows.length cap] 30) (.cells #[.int .i64 9, .int .i64 a, .int .i64 b, .int .i64 c, .slice XA n xcap] 34) (.cells #[.int .i64 0, .int .i64 0, .slice none 0 0] 30)
 have hsz1 := hb1.size
 simp only [World.size_alloc] at hsz1
 go_upto_region 2 with (fail)
 obtain ⟨W2, hW2⟩ : ∃ W2, W2 = w1.alloc (.cells #[.int .i64 v, .int .i64 h, .slice gA rows.length gcap] 30) := ⟨_, rfl⟩
 rw [← hW2]
 have hb2 : Below w1.heap.size w1 W2 := by rw [hW2]; exact (Below.refl _ _).alloc (Nat.le_refl _) _
 have hsz2 : W2.heap.size = w1.heap.size + 1 := by rw [hW2]; simp
 have hb02 := hb1.trans (hb2.mono hb1.size)
 have m2 : W2.heap[w1.heap.size]? = some (.cells #[.int .i64 v, .int .i64 h, .slice gA rows.length gcap] 30 (0, 0)) := by rw [hW2]; exact heap_at _ _ rfl
 have k0 := boxb hb02 q0
 have k1 := boxb hb02 q1
 have k2 := boxb hb02 q2
 have hu2 : OwnRowsW W2 (w.heap.size + 3) (.slice gA rows.length gcap) rows us := (hu.ext hb2).mono (by simp)
 have hub : ∀ g', gA = some ⟨g', 0, none⟩ → g' < w1.heap.size := fun g' e => by subst e; exact (World.ownsRow.lt hu.outer g' rfl).2
 have hin : ∀ (k : Nat) (x : Value), us[k]? = some x → ∀ b, x.ownBlock = some b → b < w1.heap.size := fun k x hx b hb => by obtain ⟨r, _, ho⟩ := hu.getR hx; exact (ho.lt b hb).2
 have hb3 : Below w.heap.size w W2 := (below_alloc3 w _ _ _).trans (hb02.mono (by simp <;> omega))
 clear hu hb1 hb2 hb02 hR hms q0 q1 q2 hW2
 obtain ⟨y0, y1, y2, y3, y4⟩ := cells_5 k1
 obtain ⟨x0, x1, x2⟩ := cells_3 m2
 obtain ⟨s0, s1, s2⟩ := cells_3 k0
 have f1 := blk_free m2 1
 have HU := Lib.hid hu2; have HB := Lib.hid hb3; have K0 := Lib.hid k0; have K1 := Lib.hid k1; have K2 := Lib.hid k2; have M2 := Lib.hid m2
 clear hu2 hb3 hub hin k0 k1 k2 m2
 go_upto_region 33 with (fail)
 obtain ⟨W6, hW6⟩ : ∃ W6, W6 = W2.setCell ⟨w1.heap.size, 1, none⟩ (.int .i64 (h + 1)) := ⟨_, rfl⟩
 rw [← hW6]
 have hm6 := heap_setCell_same W2 w1.heap.size 1 _ _ (.int .i64 (h + 1)) M2.out
 simp only [List.setIfInBounds_toArray, List.set_cons_zero, List.set_cons_succ] at hm6
 rw [← hW6] at hm6
 have hp6 : ∀ j, j ≠ w1.heap.size → W6.heap[j]? = W2.heap[j]? := fun j hj => by rw [hW6]; exact Below.heap_setCell _ _ _ _ hj
 have M6 := Lib.hid hm6
 have K06 := Lib.hid ((hp6 _ (by omega)).trans K0.out)
 have K16 := Lib.hid ((hp6 _ (by omega)).trans K1.out)
 have K26 := Lib.hid ((hp6 _ (by omega)).trans K2.out)
 have hu6 := HU.out.setSys M2.out (j := 1) (u := .int .i64 (h + 1))
 rw [← hW6] at hu6
 have hb6 := HB.out.setCell (p := ⟨w1.heap.size, 1, none⟩) (by simp <;> omega) (.int .i64 (h + 1))
 rw [← hW6] at hb6
 have hsz6 : W6.heap.size = w1.heap.size + 1 := by rw [hW6]; simpa using hsz2
 have HU6 := Lib.hid hu6; have HB6 := Lib.hid hb6
 obtain ⟨us6, hus6⟩ : ∃ us6, us6 = us := ⟨_, rfl⟩
 rw [← hus6] at HU6
 clear hm6 hp6 hu6 hb6 hW6 hus6
 clear y0 y1 y2 y3 y4 x0 x1 x2 s0 s1 s2 f1
 obtain ⟨y0, y1, y2, y3, y4⟩ := cells_5 K16.out
 obtain ⟨x0, x1, x2⟩ := cells_3 M6.out
 go_wp2
 go_loopw [202] (fun i wr => ∃ k : Nat, k ≤ rows.length ∧ i = .int .i64 k ∧ (∃ usk, OwnRowsW wr (w.heap.size + 3) (.slice gA rows.length gcap) (mapTo (fun r => insAt r q 0) rows k) usk) ∧
   wr.heap[w1.heap.size]? = some (.cells #[.int .i64 v, .int .i64 (h + 1), .slice gA rows.length gcap] 30 (0, 0)) ∧ Below (w.heap.size + 3) W6 wr)
  (fun i _ => rows.length - (intOf i).toNat)
 case atStart => exact ⟨0, Nat.zero_le _, rfl, ⟨us6, by rw [mapTo_zero]; exact HU6.out⟩, M6.out, Below.refl _ _⟩
 case round =>
  obtain ⟨k, hk, rfl, ⟨usk, hown⟩, hm2, hbw⟩ := hrel
  clear y0 y1 y2 y3 y4 x0 x1 x2
  by_cases hlt : k < rows.length
  ·obtain ⟨r, hr⟩ := get_of_lt hlt
   have hrk : (mapTo (fun r => insAt r q 0) rows k)[k]? = some r := (mapTo_get _ _ _ hlt).trans hr
   obtain ⟨ur, hur, hor⟩ := hown.get hrk
   obtain ⟨hl1, hl2⟩ := HLEN.out r (List.mem_of_getElem? hr)
   obtain ⟨Ar, cr, rfl, hIr, hcr1, _⟩ := hor.view
   obtain ⟨g, rfl, hg1, hg2⟩ := own_at hown (by rw [mapTo_len _ _ _ hk]; omega)
   have hout := hown.outer
   rw [mapTo_len _ _ _ hk] at hout
   have z0 : wr.cell? ⟨g, k, none⟩ = some (.slice Ar r.length cr) := by rw [hout.cellAt _ (by omega), hur]
   have y2 : wr.cell? ⟨w1.heap.size, 2, none⟩ = some (.slice (some ⟨g, 0, none⟩) rows.length gcap) := blk_cell hm2 2
   have hne2 : g ≠ w1.heap.size := fun e => by
    rcases ownsRow_neSys hown.outer hm2 (by decide) with h1 | h1
    ·cases h1
    ·exact h1 (by rw [← e]; rfl)
   have f0 := hout.frozenAt k
   have HO := Lib.hid hown; have HW := Lib.hid hbw; have HM2 := Lib.hid hm2; have HUR := Lib.hid hur; have HRR := Lib.hid hr
   have hql : q ≤ r.length := by omega
   have hqc : q ≤ cr := by omega
   have hIT := ints_take hIr q
   have IT := Lib.hid hIT
   clear hout hown hbw hm2 hrk hur hr hIT
   rcases own_form hor with ⟨rfl, rfl, rfl⟩ | ⟨gr, rfl⟩
   ·obtain rfl : q = 0 := by simpa using hql
    have ID := Lib.hid (show IntsAt wr none (List.drop 0 ([] : List Int)) from Or.inl rfl)
    simp only [List.length_nil] at z0
    have e0 : ((0 : Nat) : Int) = 0 := rfl
    rw [e0] at hwq
    simp only [e0]
    clear hor hIr hcr1 hq e0
    have L1 := Lib.hid (fun (W : World) (hW : Below wr.heap.size wr W) => (by
     have := l1Own_any (none) (0) ((([] : List Int)).take 0) W (IT.out.ext hW) (by simp <;> omega)
     rw [show ((([] : List Int)).take 0).length = 0 by simp <;> omega] at this
     exact this : Calls Tryz.prog 74 #[.slice (none) 0 (0)] W fun e w' => ∃ u, e = .returned u ∧ OwnInts w' W.heap.size u ((([] : List Int)).take 0) ∧ Below W.heap.size W w'))
    go_wp2_with fail
    refine wp_region_T (S := fun W => W.cell? ⟨w1.heap.size, 2, none⟩ = some (.slice (some ⟨g, 0, none⟩) rows.length gcap)) 14 (by kernel_rfl) y2 (fun hHeld => ?_)
    refine takeQ 0 (v := ?_) rfl (Or.inl ⟨by rfl, ?_⟩) ?_
    rotate_left
    ·intro w h; (try dsimp only at h); go_simp; (try with_reducible rfl)
    simp only [Act.put, List.setIfInBounds_toArray, List.set_cons_zero, List.set_cons_succ]
    refine takeQ 1 (v := ?_) rfl (Or.inl ⟨by rfl, ?_⟩) ?_
    rotate_left
    ·intro w h; (try dsimp only at h); go_simp; (try with_reducible rfl)
    simp only [Act.put, List.setIfInBounds_toArray, List.set_cons_zero, List.set_cons_succ]
    refine takeQ 2 (v := ?_) rfl (Or.inl ⟨by rfl, ?_⟩) ?_
    rotate_left
    ·intro w h; (try dsimp only at h); go_simp; (try with_reducible rfl)
    simp only [Act.put, List.setIfInBounds_toArray, List.set_cons_zero, List.set_cons_succ]
    refine takeQ 3 (v := ?_) rfl (Or.inl ⟨by rfl, ?_⟩) ?_
    rotate_left
    ·intro w h; (try dsimp only at h); go_simp; (try with_reducible rfl)
    simp only [Act.put, List.setIfInBounds_toArray, List.set_cons_zero, List.set_cons_succ]
    refine takeQ 4 (v := ?_) rfl (Or.inl ⟨by rfl, ?_⟩) ?_
    rotate_left
    ·intro w h; (try dsimp only at h); go_simp; (try with_reducible rfl)
    simp only [Act.put, List.setIfInBounds_toArray, List.set_cons_zero, List.set_cons_succ]
    refine takeQ 5 (v := ?_) rfl (Or.inl ⟨by rfl, ?_⟩) ?_
    rotate_left
    ·intro w h; (try dsimp only at h); go_simp; (try with_reducible rfl)
    simp only [Act.put, List.setIfInBounds_toArray, List.set_cons_zero, List.set_cons_succ]
    refine takeQ 9 (v := ?_) rfl (Or.inl ⟨by rfl, ?_⟩) ?_
    rotate_left
    ·intro w h; (try dsimp only at h); go_simp; (try with_reducible rfl)
    simp only [Act.put, List.setIfInBounds_toArray, List.set_cons_zero, List.set_cons_succ]
    refine takeQ 10 (v := ?_) rfl (Or.inl ⟨by rfl, ?_⟩) ?_
    rotate_left
    ·intro w h; (try dsimp only at h); go_simp; (try with_reducible rfl)
    simp only [Act.put, List.setIfInBounds_toArray, List.set_cons_zero, List.set_cons_succ]
    refine takeQ 11 (v := ?_) rfl (Or.inl ⟨by rfl, ?_⟩) ?_
    rotate_left
    ·intro w h; (try dsimp only at h); go_simp; (try with_reducible rfl)
    simp only [Act.put, List.setIfInBounds_toArray, List.set_cons_zero, List.set_cons_succ]
    refine twoT (i := 6) (j := 7) (by kernel_rfl) rfl rfl (fun K hK => ?_) (fun K hK => ?_)
    ·go_simp
     refine (L1.out _ (Below.refl _ _).drew).mono ?_
     rintro e w2 ⟨u1, rfl, hu1, hb2⟩
     obtain ⟨A1, c1, rfl⟩ : ∃ A1 c1, u1 = .slice A1 0 c1 := by
      obtain ⟨A1, c1, e, _⟩ := hu1.view
      exact ⟨A1, c1, by rw [e]; congr 1 <;> (simp <;> omega)⟩
     have H2 := Lib.hid ((Below.refl wr.heap.size wr).drew.trans hb2)
     have HV1 := Lib.hid hu1
     clear hu1 hb2
     go_simp
     refine hK.out _ _ (fun _ => ext_cell H2.out y2) (fun hHeld => ?_)
     clear hK K
     try simp only [Act.put, List.setIfInBounds_toArray, List.set_cons_zero, List.set_cons_succ]
     have hHeld := hHeld (by decide)
     refine oneT (i := 7) (by kernel_rfl) rfl (fun K hK => ?_)
     go_simp
     refine hK.out _ _ (fun _ => ext_cell (H2.out.alloc H2.out.size _) y2) (fun hHeld => ?_)
     clear hK K
     try simp only [Act.put, List.setIfInBounds_toArray, List.set_cons_zero, List.set_cons_succ]
     have hHeld := hHeld (by decide)
     have hc8 := H2.out.alloc H2.out.size (.cells #[.int .i64 0] 3)
     have hv1 : OwnInts (w2.alloc (.cells #[.int .i64 0] 3)) wr.heap.size (.slice A1 0 c1) ((([] : List Int)).take 0) := HV1.out.ext ((Below.refl _ _).alloc (Nat.le_refl _) _)
     have hz0 := ints_new w2 0
     have HV2 := Lib.hid hv1; have HZ := Lib.hid hz0; have HC := Lib.hid hc8
     clear hv1 hz0 hc8
     refine oneT (i := 8) (by kernel_rfl) rfl (fun K hK => ?_)
     refine step_appendInts rfl (.tmp 213) (.tmp 214) rfl wr.heap.size _ (.slice A1 0 c1) ((([] : List Int)).take 0) [0] (some ⟨_, 0, none⟩) 1 1 rfl rfl rfl HV2.out HZ.out (by simp <;> omega) HC.out.size ?_
     intro v2 w3 ho2 hb3
     obtain ⟨A2, c2, rfl⟩ : ∃ A2 c2, v2 = .slice A2 (0 + 1) c2 := by
      obtain ⟨A2, c2, e, _⟩ := ho2.view
      exact ⟨A2, c2, by rw [e]; congr 1 <;> (simp <;> omega)⟩
     have HC3 := Lib.hid (HC.out.trans hb3); have HO2 := Lib.hid ho2
     clear ho2 hb3
     refine hK.out _ _ (fun _ => ext_cell HC3.out y2) (fun hHeld => ?_)
     clear hK K
     try simp only [Act.put, List.setIfInBounds_toArray, List.set_cons_zero, List.set_cons_succ]
     have hHeld := hHeld (by decide)
     refine oneT (i := 12) (by kernel_rfl) rfl (fun K hK => ?_)
     refine step_appendInts rfl (.tmp 215) (.tmp 218) rfl wr.heap.size w3 (.slice A2 (0 + 1) c2) ((([] : List Int)).take 0 ++ [0]) ((([] : List Int)).drop 0) (none) (0) (0) (by simp) rfl rfl HO2.out (ID.out.ext HC3.out) (by simp <;> omega) HC3.out.size ?_
     intro v3 w4 ho3 hb4
     rw [show (([] : List Int)).take 0 ++ [0] ++ (([] : List Int)).drop 0 = insAt (([] : List Int)) 0 0 by simp [insAt]] at ho3
     obtain ⟨A3, c3, rfl⟩ : ∃ A3 c3, v3 = .slice A3 ((([] : List Int)).length + 1) c3 := by
      obtain ⟨A3, c3, e, _⟩ := ho3.view
      exact ⟨A3, c3, by rw [e, show (insAt (([] : List Int)) 0 (0 : Int)).length = (([] : List Int)).length + 1 from insAt_len _ _ _ (by omega)]⟩
     have HC4 := Lib.hid (HC3.out.trans hb4); have HO3 := Lib.hid ho3
     clear ho3 hb4
     have z04 := ext_cell HC4.out z0
     have f04 := ext_frozen HC4.out f0 (block_of z0)
     have Y24 := Lib.hid (ext_cell HC4.out y2)
     clear z0 f0
     refine hK.out _ _ (fun _ => Y24.out) (fun hHeld => ?_)
     clear hK K y2
     try simp only [Act.put, List.setIfInBounds_toArray, List.set_cons_zero, List.set_cons_succ]
     have hHeld := hHeld (by decide)
     refine oneT (i := 13) (by kernel_rfl) rfl (fun K hK => ?_)
     go_simp
     refine hK.out _ _ (fun _ => Y24.out) (fun hHeld => ?_)
     clear hK K
     try simp only [Act.put, List.setIfInBounds_toArray, List.set_cons_zero, List.set_cons_succ]
     have hHeld := hHeld (by decide)
     refine oneT (i := 14) (by kernel_rfl) rfl (fun K hK => ?_)
     go_simp
     refine hK.out _ _ (fun h => absurd h (by decide)) (fun _ => ?_)
     clear hK K
     try simp only [Act.put, List.setIfInBounds_toArray, List.set_cons_zero, List.set_cons_succ]
     refine doneT (by kernel_rfl) ?_ _
     have hsw := HW.out.size
     have hnew := HO.out.put (mapTo_len _ _ _ hk).symm HUR.out (grown_of_below HC4.out) (HO3.out.mono (B' := w.heap.size + 3) (by omega)) (fun b hb => Or.inr (HO3.out.lt b hb).1)
     rw [mapTo_set (fun r => insAt r 0 0) _ k (([] : List Int)) HRR.out] at hnew
     have HN := Lib.hid hnew
     have HM3 := Lib.hid ((heap_setCell_other w4 ⟨g, k, none⟩ w1.heap.size (.slice A3 ((([] : List Int)).length + 1) c3) (by simp <;> omega)).trans ((HC4.out.block w1.heap.size (by omega)).trans HM2.out))
     have HB3 := Lib.hid (Below.setCell (HW.out.trans (HC4.out.mono (by omega))) (p := ⟨g, k, none⟩) (by simp <;> omega) (.slice A3 ((([] : List Int)).length + 1) c3))
     clear hnew
     go_wp2
     go_roundw
     case rel => exact ⟨k+1, by omega, by go_num, ⟨_, HN.out⟩, HM3.out, HB3.out⟩
     case measure => simp [intOf]; omega
    ·go_simp
     refine hK.out _ _ (fun _ => ext_cell ((Below.refl _ _).drew.alloc (Nat.le_refl _) _) y2) (fun hHeld => ?_)
     clear hK K
     try simp only [Act.put, List.setIfInBounds_toArray, List.set_cons_zero, List.set_cons_succ]
     have hHeld := hHeld (by decide)
     refine oneT (i := 6) (by kernel_rfl) rfl (fun K hK => ?_)
     go_simp
     refine (L1.out _ ((Below.refl _ _).drew.alloc (Nat.le_refl _) _)).mono ?_
     rintro e w2 ⟨u1, rfl, hu1, hb2⟩
     obtain ⟨A1, c1, rfl⟩ : ∃ A1 c1, u1 = .slice A1 0 c1 := by
      obtain ⟨A1, c1, e, _⟩ := hu1.view
      exact ⟨A1, c1, by rw [e]; congr 1 <;> (simp <;> omega)⟩
     have H2 := Lib.hid (((Below.refl wr.heap.size wr).drew.alloc (Nat.le_refl _) (.cells #[.int .i64 0] 3)).trans (hb2.mono (by simp)))
     have hv1 : OwnInts w2 wr.heap.size (.slice A1 0 c1) ((([] : List Int)).take 0) := hu1.mono (by simp)
     have hz0 := (ints_new wr.drew 0).ext hb2
     clear hu1 hb2
     have hc8 := H2.out
     go_simp
     refine hK.out _ _ (fun _ => ext_cell H2.out y2) (fun hHeld => ?_)
     clear hK K
     try simp only [Act.put, List.setIfInBounds_toArray, List.set_cons_zero, List.set_cons_succ]
     have hHeld := hHeld (by decide)
     have HV2 := Lib.hid hv1; have HZ := Lib.hid hz0; have HC := Lib.hid hc8
     clear hv1 hz0 hc8
     refine oneT (i := 8) (by kernel_rfl) rfl (fun K hK => ?_)
     refine step_appendInts rfl (.tmp 213) (.tmp 214) rfl wr.heap.size _ (.slice A1 0 c1) ((([] : List Int)).take 0) [0] (some ⟨_, 0, none⟩) 1 1 rfl rfl rfl HV2.out HZ.out (by simp <;> omega) HC.out.size ?_
     intro v2 w3 ho2 hb3
     obtain ⟨A2, c2, rfl⟩ : ∃ A2 c2, v2 = .slice A2 (0 + 1) c2 := by
      obtain ⟨A2, c2, e, _⟩ := ho2.view
      exact ⟨A2, c2, by rw [e]; congr 1 <;> (simp <;> omega)⟩
     have HC3 := Lib.hid (HC.out.trans hb3); have HO2 := Lib.hid ho2
     clear ho2 hb3
     refine hK.out _ _ (fun _ => ext_cell HC3.out y2) (fun hHeld => ?_)
     clear hK K
     try simp only [Act.put, List.setIfInBounds_toArray, List.set_cons_zero, List.set_cons_succ]
     have hHeld := hHeld (by decide)
     refine oneT (i := 12) (by kernel_rfl) rfl (fun K hK => ?_)
     refine step_appendInts rfl (.tmp 215) (.tmp 218) rfl wr.heap.size w3 (.slice A2 (0 + 1) c2) ((([] : List Int)).take 0 ++ [0]) ((([] : List Int)).drop 0) (none) (0) (0) (by simp) rfl rfl HO2.out (ID.out.ext HC3.out) (by simp <;> omega) HC3.out.size ?_
     intro v3 w4 ho3 hb4
     rw [show (([] : List Int)).take 0 ++ [0] ++ (([] : List Int)).drop 0 = insAt (([] : List Int)) 0 0 by simp [insAt]] at ho3
     obtain ⟨A3, c3, rfl⟩ : ∃ A3 c3, v3 = .slice A3 ((([] : List Int)).length + 1) c3 := by
      obtain ⟨A3, c3, e, _⟩ := ho3.view
      exact ⟨A3, c3, by rw [e, show (insAt (([] : List Int)) 0 (0 : Int)).length = (([] : List Int)).length + 1 from insAt_len _ _ _ (by omega)]⟩
     have HC4 := Lib.hid (HC3.out.trans hb4); have HO3 := Lib.hid ho3
     clear ho3 hb4
     have z04 := ext_cell HC4.out z0
     have f04 := ext_frozen HC4.out f0 (block_of z0)
     have Y24 := Lib.hid (ext_cell HC4.out y2)
     clear z0 f0
     refine hK.out _ _ (fun _ => Y24.out) (fun hHeld => ?_)
     clear hK K y2
     try simp only [Act.put, List.setIfInBounds_toArray, List.set_cons_zero, List.set_cons_succ]
     have hHeld := hHeld (by decide)
     refine oneT (i := 13) (by kernel_rfl) rfl (fun K hK => ?_)
     go_simp
     refine hK.out _ _ (fun _ => Y24.out) (fun hHeld => ?_)
     clear hK K
     try simp only [Act.put, List.setIfInBounds_toArray, List.set_cons_zero, List.set_cons_succ]
     have hHeld := hHeld (by decide)
     refine oneT (i := 14) (by kernel_rfl) rfl (fun K hK => ?_)
     go_simp
     refine hK.out _ _ (fun h => absurd h (by decide)) (fun _ => ?_)
     clear hK K
     try simp only [Act.put, List.setIfInBounds_toArray, List.set_cons_zero, List.set_cons_succ]
     refine doneT (by kernel_rfl) ?_ _
     have hsw := HW.out.size
     have hnew := HO.out.put (mapTo_len _ _ _ hk).symm HUR.out (grown_of_below HC4.out) (HO3.out.mono (B' := w.heap.size + 3) (by omega)) (fun b hb => Or.inr (HO3.out.lt b hb).1)
     rw [mapTo_set (fun r => insAt r 0 0) _ k (([] : List Int)) HRR.out] at hnew
     have HN := Lib.hid hnew
     have HM3 := Lib.hid ((heap_setCell_other w4 ⟨g, k, none⟩ w1.heap.size (.slice A3 ((([] : List Int)).length + 1) c3) (by simp <;> omega)).trans ((HC4.out.block w1.heap.size (by omega)).trans HM2.out))
     have HB3 := Lib.hid (Below.setCell (HW.out.trans (HC4.out.mono (by omega))) (p := ⟨g, k, none⟩) (by simp <;> omega) (.slice A3 ((([] : List Int)).length + 1) c3))
     clear hnew
     go_wp2
     go_roundw
     case rel => exact ⟨k+1, by omega, by go_num, ⟨_, HN.out⟩, HM3.out, HB3.out⟩
     case measure => simp [intOf]; omega
   ·obtain ⟨A9, hA, hID⟩ := ints_drop hIr hcr1 q
    have ID := Lib.hid hID
    clear hor hIr hID
    have L1 := Lib.hid (fun (W : World) (hW : Below wr.heap.size wr W) => (by
     have := l1Own_any (some ⟨gr, 0, none⟩) (cr) ((r).take q) W (IT.out.ext hW) (by simp <;> omega)
     rw [show ((r).take q).length = q by simp <;> omega] at this
     exact this : Calls Tryz.prog 74 #[.slice (some ⟨gr, 0, none⟩) q (cr)] W fun e w' => ∃ u, e = .returned u ∧ OwnInts w' W.heap.size u ((r).take q) ∧ Below W.heap.size W w'))
    go_wp2_with fail
    refine wp_region_T (S := fun W => W.cell? ⟨w1.heap.size, 2, none⟩ = some (.slice (some ⟨g, 0, none⟩) rows.length gcap)) 14 (by kernel_rfl) y2 (fun hHeld => ?_)
    refine takeQ 0 (v := ?_) rfl (Or.inl ⟨by rfl, ?_⟩) ?_
    rotate_left
    ·intro w h; (try dsimp only at h); go_simp; (try with_reducible rfl)
    simp only [Act.put, List.setIfInBounds_toArray, List.set_cons_zero, List.set_cons_succ]
    refine takeQ 1 (v := ?_) rfl (Or.inl ⟨by rfl, ?_⟩) ?_
    rotate_left
    ·intro w h; (try dsimp only at h); go_simp; (try with_reducible rfl)
    simp only [Act.put, List.setIfInBounds_toArray, List.set_cons_zero, List.set_cons_succ]
    refine takeQ 2 (v := ?_) rfl (Or.inl ⟨by rfl, ?_⟩) ?_
    rotate_left
    ·intro w h; (try dsimp only at h); go_simp; (try with_reducible rfl)
    simp only [Act.put, List.setIfInBounds_toArray, List.set_cons_zero, List.set_cons_succ]
    refine takeQ 3 (v := ?_) rfl (Or.inl ⟨by rfl, ?_⟩) ?_
    rotate_left
    ·intro w h; (try dsimp only at h); go_simp; (try with_reducible rfl)
    simp only [Act.put, List.setIfInBounds_toArray, List.set_cons_zero, List.set_cons_succ]
    refine takeQ 4 (v := ?_) rfl (Or.inl ⟨by rfl, ?_⟩) ?_
    rotate_left
    ·intro w h; (try dsimp only at h); go_simp; (try with_reducible rfl)
    simp only [Act.put, List.setIfInBounds_toArray, List.set_cons_zero, List.set_cons_succ]
    refine takeQ 5 (v := ?_) rfl (Or.inl ⟨by rfl, ?_⟩) ?_
    rotate_left
    ·intro w h; (try dsimp only at h); go_simp; (try with_reducible rfl)
    simp only [Act.put, List.setIfInBounds_toArray, List.set_cons_zero, List.set_cons_succ]
    refine takeQ 9 (v := ?_) rfl (Or.inl ⟨by rfl, ?_⟩) ?_
    rotate_left
    ·intro w h; (try dsimp only at h); go_simp; (try with_reducible rfl)
    simp only [Act.put, List.setIfInBounds_toArray, List.set_cons_zero, List.set_cons_succ]
    refine takeQ 10 (v := ?_) rfl (Or.inl ⟨by rfl, ?_⟩) ?_
    rotate_left
    ·intro w h; (try dsimp only at h); go_simp; (try with_reducible rfl)
    simp only [Act.put, List.setIfInBounds_toArray, List.set_cons_zero, List.set_cons_succ]
    refine takeQ 11 (v := ?_) rfl (Or.inl ⟨by rfl, ?_⟩) ?_
    rotate_left
    ·intro w h; (try dsimp only at h); go_simp; (try with_reducible rfl)
    simp only [Act.put, List.setIfInBounds_toArray, List.set_cons_zero, List.set_cons_succ]
    refine twoT (i := 6) (j := 7) (by kernel_rfl) rfl rfl (fun K hK => ?_) (fun K hK => ?_)
    ·go_simp
     refine (L1.out _ (Below.refl _ _).drew).mono ?_
     rintro e w2 ⟨u1, rfl, hu1, hb2⟩
     obtain ⟨A1, c1, rfl⟩ : ∃ A1 c1, u1 = .slice A1 q c1 := by
      obtain ⟨A1, c1, e, _⟩ := hu1.view
      exact ⟨A1, c1, by rw [e]; congr 1 <;> (simp <;> omega)⟩
     have H2 := Lib.hid ((Below.refl wr.heap.size wr).drew.trans hb2)
     have HV1 := Lib.hid hu1
     clear hu1 hb2
     go_simp
     refine hK.out _ _ (fun _ => ext_cell H2.out y2) (fun hHeld => ?_)
     clear hK K
     try simp only [Act.put, List.setIfInBounds_toArray, List.set_cons_zero, List.set_cons_succ]
     have hHeld := hHeld (by decide)
     refine oneT (i := 7) (by kernel_rfl) rfl (fun K hK => ?_)
     go_simp
     refine hK.out _ _ (fun _ => ext_cell (H2.out.alloc H2.out.size _) y2) (fun hHeld => ?_)
     clear hK K
     try simp only [Act.put, List.setIfInBounds_toArray, List.set_cons_zero, List.set_cons_succ]
     have hHeld := hHeld (by decide)
     have hc8 := H2.out.alloc H2.out.size (.cells #[.int .i64 0] 3)
     have hv1 : OwnInts (w2.alloc (.cells #[.int .i64 0] 3)) wr.heap.size (.slice A1 q c1) ((r).take q) := HV1.out.ext ((Below.refl _ _).alloc (Nat.le_refl _) _)
     have hz0 := ints_new w2 0
     have HV2 := Lib.hid hv1; have HZ := Lib.hid hz0; have HC := Lib.hid hc8
     clear hv1 hz0 hc8
     refine oneT (i := 8) (by kernel_rfl) rfl (fun K hK => ?_)
     refine step_appendInts rfl (.tmp 213) (.tmp 214) rfl wr.heap.size _ (.slice A1 q c1) ((r).take q) [0] (some ⟨_, 0, none⟩) 1 1 rfl rfl rfl HV2.out HZ.out (by simp <;> omega) HC.out.size ?_
     intro v2 w3 ho2 hb3
     obtain ⟨A2, c2, rfl⟩ : ∃ A2 c2, v2 = .slice A2 (q + 1) c2 := by
      obtain ⟨A2, c2, e, _⟩ := ho2.view
      exact ⟨A2, c2, by rw [e]; congr 1 <;> (simp <;> omega)⟩
     have HC3 := Lib.hid (HC.out.trans hb3); have HO2 := Lib.hid ho2
     clear ho2 hb3
     refine hK.out _ _ (fun _ => ext_cell HC3.out y2) (fun hHeld => ?_)
     clear hK K
     try simp only [Act.put, List.setIfInBounds_toArray, List.set_cons_zero, List.set_cons_succ]
     have hHeld := hHeld (by decide)
     refine oneT (i := 12) (by kernel_rfl) rfl (fun K hK => ?_)
     refine step_appendInts rfl (.tmp 215) (.tmp 218) rfl wr.heap.size w3 (.slice A2 (q + 1) c2) ((r).take q ++ [0]) ((r).drop q) (some A9) (r.length - q) (cr - q) (by simp) rfl rfl HO2.out (ID.out.ext HC3.out) (by simp <;> omega) HC3.out.size ?_
     intro v3 w4 ho3 hb4
     rw [show (r).take q ++ [0] ++ (r).drop q = insAt (r) q 0 by simp [insAt]] at ho3
     obtain ⟨A3, c3, rfl⟩ : ∃ A3 c3, v3 = .slice A3 ((r).length + 1) c3 := by
      obtain ⟨A3, c3, e, _⟩ := ho3.view
      exact ⟨A3, c3, by rw [e, show (insAt (r) q (0 : Int)).length = (r).length + 1 from insAt_len _ _ _ (by omega)]⟩
     have HC4 := Lib.hid (HC3.out.trans hb4); have HO3 := Lib.hid ho3
     clear ho3 hb4
     have z04 := ext_cell HC4.out z0
     have f04 := ext_frozen HC4.out f0 (block_of z0)
     have Y24 := Lib.hid (ext_cell HC4.out y2)
     clear z0 f0
     refine hK.out _ _ (fun _ => Y24.out) (fun hHeld => ?_)
     clear hK K y2
     try simp only [Act.put, List.setIfInBounds_toArray, List.set_cons_zero, List.set_cons_succ]
     have hHeld := hHeld (by decide)
     refine oneT (i := 13) (by kernel_rfl) rfl (fun K hK => ?_)
     go_simp
     refine hK.out _ _ (fun _ => Y24.out) (fun hHeld => ?_)
     clear hK K
     try simp only [Act.put, List.setIfInBounds_toArray, List.set_cons_zero, List.set_cons_succ]
     have hHeld := hHeld (by decide)
     refine oneT (i := 14) (by kernel_rfl) rfl (fun K hK => ?_)
     go_simp
     refine hK.out _ _ (fun h => absurd h (by decide)) (fun _ => ?_)
     clear hK K
     try simp only [Act.put, List.setIfInBounds_toArray, List.set_cons_zero, List.set_cons_succ]
     refine doneT (by kernel_rfl) ?_ _
     have hsw := HW.out.size
     have hnew := HO.out.put (mapTo_len _ _ _ hk).symm HUR.out (grown_of_below HC4.out) (HO3.out.mono (B' := w.heap.size + 3) (by omega)) (fun b hb => Or.inr (HO3.out.lt b hb).1)
     rw [mapTo_set (fun r => insAt r q 0) _ k (r) HRR.out] at hnew
     have HN := Lib.hid hnew
     have HM3 := Lib.hid ((heap_setCell_other w4 ⟨g, k, none⟩ w1.heap.size (.slice A3 ((r).length + 1) c3) (by simp <;> omega)).trans ((HC4.out.block w1.heap.size (by omega)).trans HM2.out))
     have HB3 := Lib.hid (Below.setCell (HW.out.trans (HC4.out.mono (by omega))) (p := ⟨g, k, none⟩) (by simp <;> omega) (.slice A3 ((r).length + 1) c3))
     clear hnew
     go_wp2
     go_roundw
     case rel => exact ⟨k+1, by omega, by go_num, ⟨_, HN.out⟩, HM3.out, HB3.out⟩
     case measure => simp [intOf]; omega
    ·go_simp
     refine hK.out _ _ (fun _ => ext_cell ((Below.refl _ _).drew.alloc (Nat.le_refl _) _) y2) (fun hHeld => ?_)
     clear hK K
     try simp only [Act.put, List.setIfInBounds_toArray, List.set_cons_zero, List.set_cons_succ]
     have hHeld := hHeld (by decide)
     refine oneT (i := 6) (by kernel_rfl) rfl (fun K hK => ?_)
     go_simp
     refine (L1.out _ ((Below.refl _ _).drew.alloc (Nat.le_refl _) _)).mono ?_
     rintro e w2 ⟨u1, rfl, hu1, hb2⟩
     obtain ⟨A1, c1, rfl⟩ : ∃ A1 c1, u1 = .slice A1 q c1 := by
      obtain ⟨A1, c1, e, _⟩ := hu1.view
      exact ⟨A1, c1, by rw [e]; congr 1 <;> (simp <;> omega)⟩
     have H2 := Lib.hid (((Below.refl wr.heap.size wr).drew.alloc (Nat.le_refl _) (.cells #[.int .i64 0] 3)).trans (hb2.mono (by simp)))
     have hv1 : OwnInts w2 wr.heap.size (.slice A1 q c1) ((r).take q) := hu1.mono (by simp)
     have hz0 := (ints_new wr.drew 0).ext hb2
     clear hu1 hb2
     have hc8 := H2.out
     go_simp
     refine hK.out _ _ (fun _ => ext_cell H2.out y2) (fun hHeld => ?_)
     clear hK K
     try simp only [Act.put, List.setIfInBounds_toArray, List.set_cons_zero, List.set_cons_succ]
     have hHeld := hHeld (by decide)
     have HV2 := Lib.hid hv1; have HZ := Lib.hid hz0; have HC := Lib.hid hc8
     clear hv1 hz0 hc8
     refine oneT (i := 8) (by kernel_rfl) rfl (fun K hK => ?_)
     refine step_appendInts rfl (.tmp 213) (.tmp 214) rfl wr.heap.size _ (.slice A1 q c1) ((r).take q) [0] (some ⟨_, 0, none⟩) 1 1 rfl rfl rfl HV2.out HZ.out (by simp <;> omega) HC.out.size ?_
     intro v2 w3 ho2 hb3
     obtain ⟨A2, c2, rfl⟩ : ∃ A2 c2, v2 = .slice A2 (q + 1) c2 := by
      obtain ⟨A2, c2, e, _⟩ := ho2.view
      exact ⟨A2, c2, by rw [e]; congr 1 <;> (simp <;> omega)⟩
     have HC3 := Lib.hid (HC.out.trans hb3); have HO2 := Lib.hid ho2
     clear ho2 hb3
     refine hK.out _ _ (fun _ => ext_cell HC3.out y2) (fun hHeld => ?_)
     clear hK K
     try simp only [Act.put, List.setIfInBounds_toArray, List.set_cons_zero, List.set_cons_succ]
     have hHeld := hHeld (by decide)
     refine oneT (i := 12) (by kernel_rfl) rfl (fun K hK => ?_)
     refine step_appendInts rfl (.tmp 215) (.tmp 218) rfl wr.heap.size w3 (.slice A2 (q + 1) c2) ((r).take q ++ [0]) ((r).drop q) (some A9) (r.length - q) (cr - q) (by simp) rfl rfl HO2.out (ID.out.ext HC3.out) (by simp <;> omega) HC3.out.size ?_
     intro v3 w4 ho3 hb4
     rw [show (r).take q ++ [0] ++ (r).drop q = insAt (r) q 0 by simp [insAt]] at ho3
     obtain ⟨A3, c3, rfl⟩ : ∃ A3 c3, v3 = .slice A3 ((r).length + 1) c3 := by
      obtain ⟨A3, c3, e, _⟩ := ho3.view
      exact ⟨A3, c3, by rw [e, show (insAt (r) q (0 : Int)).length = (r).length + 1 from insAt_len _ _ _ (by omega)]⟩
     have HC4 := Lib.hid (HC3.out.trans hb4); have HO3 := Lib.hid ho3
     clear ho3 hb4
     have z04 := ext_cell HC4.out z0
     have f04 := ext_frozen HC4.out f0 (block_of z0)
     have Y24 := Lib.hid (ext_cell HC4.out y2)
     clear z0 f0
     refine hK.out _ _ (fun _ => Y24.out) (fun hHeld => ?_)
     clear hK K y2
     try simp only [Act.put, List.setIfInBounds_toArray, List.set_cons_zero, List.set_cons_succ]
     have hHeld := hHeld (by decide)
     refine oneT (i := 13) (by kernel_rfl) rfl (fun K hK => ?_)
     go_simp
     refine hK.out _ _ (fun _ => Y24.out) (fun hHeld => ?_)
     clear hK K
     try simp only [Act.put, List.setIfInBounds_toArray, List.set_cons_zero, List.set_cons_succ]
     have hHeld := hHeld (by decide)
     refine oneT (i := 14) (by kernel_rfl) rfl (fun K hK => ?_)
     go_simp
     refine hK.out _ _ (fun h => absurd h (by decide)) (fun _ => ?_)
     clear hK K
     try simp only [Act.put, List.setIfInBounds_toArray, List.set_cons_zero, List.set_cons_succ]
     refine doneT (by kernel_rfl) ?_ _
     have hsw := HW.out.size
     have hnew := HO.out.put (mapTo_len _ _ _ hk).symm HUR.out (grown_of_below HC4.out) (HO3.out.mono (B' := w.heap.size + 3) (by omega)) (fun b hb => Or.inr (HO3.out.lt b hb).1)
     rw [mapTo_set (fun r => insAt r q 0) _ k (r) HRR.out] at hnew
     have HN := Lib.hid hnew
     have HM3 := Lib.hid ((heap_setCell_other w4 ⟨g, k, none⟩ w1.heap.size (.slice A3 ((r).length + 1) c3) (by simp <;> omega)).trans ((HC4.out.block w1.heap.size (by omega)).trans HM2.out))
     have HB3 := Lib.hid (Below.setCell (HW.out.trans (HC4.out.mono (by omega))) (p := ⟨g, k, none⟩) (by simp <;> omega) (.slice A3 ((r).length + 1) c3))
     clear hnew
     go_wp2
     go_roundw
     case rel => exact ⟨k+1, by omega, by go_num, ⟨_, HN.out⟩, HM3.out, HB3.out⟩
     case measure => simp [intOf]; omega
  ·have hk' : k = rows.length := by omega
   subst hk'
   rw [mapTo_all _ _ _ (Nat.le_refl _)] at hown
   have m2w := hm2
   have k0w := (hbw.block _ (by omega)).trans K06.out
   have k1w := (hbw.block _ (by omega)).trans K16.out
   have k2w := (hbw.block _ (by omega)).trans K26.out
   have HO := Lib.hid (show OwnRows wr (w.heap.size + 3) (.slice gA rows.length gcap) (rows.map (fun r => insAt r q 0)) from ⟨_, hown⟩)
   have HE := Lib.hid (HB6.out.trans (hbw.mono (by omega)))
   clear hown hbw hm2
   obtain ⟨y0, y1, y2, y3, y4⟩ := cells_5 k1w
   obtain ⟨s0, s1, s2⟩ := cells_3 k0w
   clear k0w k1w
   have e0 := blk_cell m2w 0
   have e1 := blk_cell m2w 1
   have e2 := blk_cell m2w 2
   have e3 := blk_cell k2w 0
   have e4 := blk_cell k2w 1
   have e5 := blk_cell k2w 2
   have e6 := blk_free k2w 0
   have e7 := blk_free k2w 1
   have e8 := blk_free k2w 2
   simp only [List.getElem?_cons_zero, List.getElem?_cons_succ] at e0 e1 e2 e3 e4 e5
   clear m2w k2w
   go_wp2
   refine bodyPost_ret (v := .agg #[.int .i64 v, .int .i64 (h + 1), .slice gA rows.length gcap]) (by simp [results, Tryz.results49, go_sem, *]) rfl ⟨_, rfl, ?_, ?_⟩
   ·exact (((HO.out.setCell (by simp <;> omega) _).setCell (by simp <;> omega) _).setCell (by simp <;> omega) _).mono (by omega)
   ·exact ((HE.out.setCell (by simp <;> omega) _).setCell (by simp <;> omega) _).setCell (by simp <;> omega) _
end Go.Proofs.YtjdbfokbgmbphaaGreatDoor
