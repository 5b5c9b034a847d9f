/- spReduce: the reference's elimination. Conditions: p is a field; rows of the right shape. -/
import Derived.Test.YtjdbfokbgmbphaaGreatDoorPk45
import Derived.Test.YtjdbfokbgmbphaaGreatDoorPk11
namespace Go.Proofs.YtjdbfokbgmbphaaGreatDoor
set_option linter.unusedVariables false
set_option linter.unusedSimpArgs false
open Go.RowKit
/-- What holds in front of a column. -/
structure PAt (p : Int) (N n cap : Nat) (A : Option Addr) (M : List (List Int)) (w wr : World) (c : Nat) (z : Nat × (List (List Int) × List (List Int))) : Prop where
 c1 : c ≤ n
 c2 : z.1 ≤ N
 el : elimL p (n - c) c z = elimQ p n M (List.replicate N [])
 own : ∃ us, OwnRowsW wr w.heap.size (.slice A N cap) z.2.1 us
 s1 : Shp p N n z.2.1
 s2 : Shp p N 0 z.2.2
 be : Below w.heap.size w wr
/-- An element of own rows of the right shape. -/
theorem own_at_e {p : Int} {N n B cap : Nat} {A : Option Addr} {M : List (List Int)} {wr : World} {us : List Value} (h : OwnRowsW wr B (.slice A N cap) M us) (s : Shp p N n M) {i d : Nat} (hi : i < N) (hd : d < n) :
  ∃ g ga c, A = some ⟨g, 0, none⟩ ∧ wr.cell? ⟨g, i, none⟩ = some (.slice (some ⟨ga, 0, none⟩) n c) ∧ wr.cell? ⟨ga, d, none⟩ = some (.int .i64 (eM M i d)) ∧ us[i]? = some (.slice (some ⟨ga, 0, none⟩) n c) := by
 obtain ⟨r, hr⟩ := get_of_lt (show i < M.length by rw [s.1]; exact hi)
 have hl := s.row r (List.mem_of_getElem? hr)
 obtain ⟨x, hx⟩ := get_of_lt (show d < r.length by omega)
 have he : eM M i d = x := by unfold eM; rw [getD_some hr, getD_some hx]
 obtain ⟨g, A', c, rfl, hu, hc, _⟩ := h.at hr
 obtain ⟨ga, c', hu', hc', _⟩ := h.ent hr hx
 rw [hu] at hu'
 simp only [Option.some.injEq, Value.slice.injEq] at hu'
 obtain ⟨rfl, _, rfl⟩ := hu'
 rw [hl] at hc hu
 rw [he]
 exact ⟨g, ga, c, rfl, hc, hc', hu⟩
set_option maxRecDepth 100000 in
set_option maxHeartbeats 8000000 in
theorem spReduce_any (p : Int) (M : List (List Int)) (A0 : Option Addr) (cap0 N n : Nat) (w : World) (hf : fieldB p = true) (hR : RowsAt w A0 M) (s : Shp p N n M) (hN : N ≤ 1048576) (hn : n ≤ 1048576) :
  Calls Tryz.prog 130 #[.int .i64 p, .int .i64 n, .slice A0 N cap0] w (RdTo (redI p n M) w) := by
 obtain ⟨p2, p97⟩ := fieldB_bd hf
 obtain ⟨l1, l2⟩ := redI_len hf s
 have hrows : redI p n M = (elimQ p n M (List.replicate N [])).2.1.take (elimQ p n M (List.replicate N [])).1 := by unfold redI; rw [s.1]
 obtain ⟨Z, hZ⟩ : ∃ Z, Z = elimQ p n M (List.replicate N []) := ⟨_, rfl⟩
 rw [← hZ] at l1 l2 hrows
 have HZ := Lib.hid hZ; have HROWS := Lib.hid hrows; have HLEN := Lib.hid l1
 have HRL := Lib.hid (show ∀ r ∈ M, r.length ≤ 1048576 from fun r hr => by rw [s.row r hr]; exact hn)
 have hNM := s.1
 subst hNM
 have HS := Lib.hid s; have HF := Lib.hid hf
 clear hZ hrows l1 s hf
 go_enter Tryz.func130, Tryz.ntmps130
 go_wp2
 go_loopw [7, 21] (fun u i wr => ∃ k : Nat, k ≤ M.length ∧ i = .int .i64 k ∧ OwnRows wr w.heap.size u (M.take k) ∧ Below w.heap.size w wr)
  (fun _ i _ => M.length - (intOf i).toNat)
 case atStart => exact ⟨0, Nat.zero_le _, rfl, OwnRows.empty (World.ownsRow_nil _ _ _ _), Below.refl _ _⟩
 case round =>
  obtain ⟨k, hk, rfl, hown, hbel⟩ := hrel
  have Hown := Lib.hid hown
  clear hown
  by_cases hlt : k < M.length
  ·obtain ⟨r, hr⟩ := get_of_lt hlt
   obtain ⟨bb, o, rfl, hc⟩ := (hR.ext hbel).here hlt
   obtain ⟨A', cap', hck, hin⟩ := hc k r hr
   have HM := Lib.hid (show r.length ≤ 1099511627776 by have := HRL.out r (List.mem_of_getElem? hr); omega)
   have HT := Lib.hid (show M.take (k + 1) = M.take k ++ [r] by rw [List.take_add_one, hr]; rfl)
   have hsz := hbel.size
   have HNN := Lib.hid (show (M.take k).length + 1 ≤ 1073741824 by simp; omega)
   clear hr hc hR
   go_wp2_with (first | (go_at_call 74; refine (l1Own_any _ _ _ _ hin HM.out).mono ?_; rintro e w' ⟨u2, rfl, hu2, hbel2⟩; obtain ⟨A2, c2, rfl, _⟩ := hu2.view) | (at_builtin; refine wp_appendRow rfl _ _ rfl w.heap.size wr _ _ _ _ _ Hown.out hbel2 hu2 HNN.out hsz rfl rfl ?_; intro u' w1 hown1 hbel1))
   go_roundw
   case rel => exact ⟨k+1, by omega, by go_num, by rw [HT.out]; exact hown1, hbel.trans hbel1⟩
   case measure => simp [intOf]; omega
  ·have hown := Hown.out
   rw [List.take_of_length_le (by omega)] at hown
   obtain ⟨A, cap, rfl, _⟩ := hown.view
   have HO := Lib.hid hown; have HB := Lib.hid hbel
   have HFM := Lib.hid (own_formR hown)
   clear hown Hown hbel
   go_wp2
   clear hk hlt
   go_loopw [10, 11] (fun u9 u11 wr => ∃ (c : Nat) (z : Nat × (List (List Int) × List (List Int))), u9 = .int .i64 (z.1 : Nat) ∧ u11 = .int .i64 c ∧ PAt p M.length n cap A M w wr c z)
    (fun _ u _ => n - (intOf u).toNat)
   case atStart => exact ⟨0, (0, (M, List.replicate M.length [])), rfl, rfl, ⟨Nat.zero_le _, Nat.zero_le _, rfl, HO.out, HS.out, shp_nil p M.length, HB.out⟩⟩
   case round =>
    obtain ⟨c, ⟨r, z1, z2⟩, rfl, rfl, hP⟩ := hrel
    clear HO HB
    have hc1 := hP.c1; have hr1 : r ≤ M.length := hP.c2
    have HP := Lib.hid hP
    clear hP
    by_cases hc : c < n
    ·by_cases hr : r < M.length
     ·have hl1' : z1.length = M.length := HP.out.s1.1
      obtain ⟨f1, f2, f3, f4⟩ := fstL_spec z1 c r (by omega)
      have HE := Lib.hid (elim_succ (p := p) (z2 := z2) hc hr hl1')
      obtain ⟨K, hK⟩ : ∃ K, K = fstL z1 c r := ⟨_, rfl⟩
      rw [← hK] at f1 f2 f3 f4
      have HK := Lib.hid hK
      rw [hl1'] at f2 f4
      have F3 := Lib.hid f3; have F4 := Lib.hid f4; have HL := Lib.hid hl1'
      clear f3 f4 hK hl1'
      by_cases hKN : K = M.length
      ·go_wp2
       go_loopw [12] (fun u wr' => ∃ k : Nat, r ≤ k ∧ k ≤ M.length ∧ u = .int .i64 k ∧ wr' = wr) (fun u _ => M.length - (intOf u).toNat)
       case atStart => exact ⟨r, Nat.le_refl _, by omega, rfl, rfl⟩
       case round =>
        obtain ⟨k, hk1, hk2, rfl, rfl⟩ := hrel
        by_cases hlt : k < M.length
        ·obtain ⟨us, hown⟩ := HP.out.own
         obtain ⟨g, ga, cc, rfl, e1, e2, -⟩ := own_at_e hown HP.out.s1 hlt hc
         rw [F3.out k hk1 (by omega)] at e2
         clear hown
         have HKN := Lib.hid hKN
         clear hKN
         go_wp2
         go_roundw
         case rel => exact ⟨k + 1, by omega, by omega, by go_num, by trivial⟩
         case measure => simp [intOf]; omega
        ·have HKN := Lib.hid hKN
         have hkN := Lib.hid (show k = M.length by omega)
         have hki : (M.length : Int) ≤ k := by omega
         obtain rfl : k = M.length := hkN.out
         clear hKN
         go_wp2
         go_roundw
         case rel => exact ⟨c + 1, (r, z1, z2), rfl, by go_num, ⟨by omega, hr1, by have := HP.out.el; rw [HE.out, ← HK.out, if_pos HKN.out] at this; exact this, HP.out.own, HP.out.s1, HP.out.s2, HP.out.be⟩⟩
         case measure => simp [intOf]; omega
      ·have hKlt : K < M.length := by omega
       have hx0 := F4.out hKlt
       obtain ⟨x1, x2⟩ := HP.out.s1.2.2 K c hKlt hc
       obtain ⟨x, hx⟩ : ∃ x, x = eM z1 K c := ⟨_, rfl⟩
       rw [← hx] at hx0 x1 x2
       have HX := Lib.hid hx
       have hxb : (x == 0) = false := by simpa using hx0
       clear hx
       go_wp2
       go_loopw [12] (fun u wr' => ∃ k : Nat, r ≤ k ∧ k ≤ K ∧ u = .int .i64 k ∧ wr' = wr) (fun u _ => K - (intOf u).toNat)
       case atStart => exact ⟨r, Nat.le_refl _, by omega, rfl, rfl⟩
       case round =>
        obtain ⟨k, hk1, hk2, rfl, rfl⟩ := hrel
        obtain ⟨us, hown⟩ := HP.out.own
        by_cases hlt : k < K
        ·obtain ⟨g, ga, cc, rfl, e1, e2, -⟩ := own_at_e hown HP.out.s1 (show k < M.length by omega) hc
         rw [F3.out k hk1 (by omega)] at e2
         clear hown
         go_wp2
         go_roundw
         case rel => exact ⟨k + 1, by omega, by omega, by go_num, by trivial⟩
         case measure => simp [intOf]; omega
        ·obtain rfl : k = K := by omega
         obtain ⟨rK, hrK⟩ := get_of_lt (show k < z1.length by have := HL.out; omega)
         obtain ⟨rR, hrR⟩ := get_of_lt (show r < z1.length by have := HL.out; omega)
         obtain ⟨g, gK, cK, rfl, e1, e2, huK⟩ := own_at_e hown HP.out.s1 hKlt hc
         obtain ⟨g', gR, cR, eg, e3, e4, huR⟩ := own_at_e hown HP.out.s1 hr hc
         cases eg
         rw [← HX.out] at e2
         have HLZ := HL.out
         have ho1 : wr.ownsRow w.heap.size 25 1 (.slice (some ⟨g, 0, none⟩) M.length cap) M.length us := by have := hown.outer; dsimp only at this; rw [HLZ] at this; exact this
         have hst1 := ho1.stored r (.slice (some ⟨gK, 0, none⟩) n cK)
         have z3 : (wr.setCell ⟨g, r, none⟩ (.slice (some ⟨gK, 0, none⟩) n cK)).cell? ⟨g, k, none⟩ = some (.slice (some ⟨gK, 0, none⟩) n cK) := by
          rw [hst1.1.cellAt k (by omega)]
          by_cases e : r = k
          ·subst e; rw [List.getElem?_set_self (List.getElem?_eq_some_iff.1 huR).1]
          ·rw [List.getElem?_set_ne e, huK]
         have z4 : (wr.setCell ⟨g, r, none⟩ (.slice (some ⟨gK, 0, none⟩) n cK)).frozen? ⟨g, k, none⟩ = false := hst1.1.frozenAt k
         have z5 : wr.frozen? ⟨g, r, none⟩ = false := ho1.frozenAt r
         have hsw := hown.swap HLZ.symm huR huK hrR hrK
         have HSW := Lib.hid (show OwnRowsW _ w.heap.size _ (swL z1 r k) _ by unfold swL; rw [getD_some hrK, getD_some hrR]; exact hsw)
         have HBE := Lib.hid (HP.out.be)
         have hg1 : w.heap.size ≤ g := (World.ownsRow.lt ho1 g rfl).1
         have hse : eM (swL z1 r k) r c = x := by rw [swL_e HP.out.s1 hr hKlt, swN_self]; exact HX.out.symm
         have HKF := Lib.hid (show fstL z1 c r = k from HK.out.symm)
         have HSE := Lib.hid hse
         have HSH := Lib.hid (swL_shp HP.out.s1 hr hKlt)
         have HSH2 := Lib.hid (swL_shp HP.out.s2 hr hKlt)
         clear ho1 hst1 hsw hrK hrR huK huR hown hse HLZ
         go_upto_region 17 with (fail)
         clear z5 e1 e2 e3 e4
         obtain ⟨Wa, hWa⟩ : ∃ Wa, Wa = wr.setCell ⟨g, r, none⟩ (.slice (some ⟨gK, 0, none⟩) n cK) := ⟨_, rfl⟩
         rw [← hWa] at z3 z4 ⊢
         have HWa := Lib.hid hWa
         clear hWa
         go_upto_region 18 with (fail)
         clear z3 z4
         obtain ⟨Wb, hWb⟩ : ∃ Wb, Wb = Wa.setCell ⟨g, k, none⟩ (.slice (some ⟨gR, 0, none⟩) n cR) := ⟨_, rfl⟩
         rw [← hWb]
         have hWa := HWa.out
         have HOb := Lib.hid (by have := HSW.out; rw [← hWa, ← hWb] at this; exact this)
         have HBb := Lib.hid (show Below w.heap.size w Wb by rw [hWb, hWa]; exact ((HBE.out.setCell (p := ⟨g, r, none⟩) hg1 _).setCell (p := ⟨g, k, none⟩) hg1 _))
         clear hWa hWb HSW HBE
         obtain ⟨Y, hY⟩ : ∃ Y, Y = swL z1 r k := ⟨_, rfl⟩
         obtain ⟨Y2, hY2⟩ : ∃ Y2, Y2 = swL z2 r k := ⟨_, rfl⟩
         have HCOL := Lib.hid (show colL p r k c (z1, z2) = clrL p r c M.length (scL p (invP p x) Y r, scL p (invP p x) Y2 r) by unfold colL; dsimp only; rw [HL.out, HSE.out, hY, hY2])
         rw [← hY] at HOb HSE HSH
         rw [← hY2] at HSH2
         clear hY hY2
         obtain ⟨F, hF⟩ : ∃ F, F = invP p x := ⟨_, rfl⟩
         obtain ⟨i1, i2, i3⟩ := inv_spec HF.out (show 1 ≤ x by omega) x2
         have INV := Lib.hid (fun w => (by rw [hF]; exact fdInv_any p x w p2 p97 x1 x2 : Calls Tryz.prog 96 #[.int .i64 p, .int .i64 x] w fun e w' => e = .returned (.int .i64 F) ∧ w = w'))
         rw [← hF] at i2 i3 HCOL
         clear hF i1
         obtain ⟨rr, hrr⟩ := get_of_lt (show r < Y.length by have := HSH.out.1; omega)
         have hrl := HSH.out.row rr (List.mem_of_getElem? hrr)
         have HRE := Lib.hid (HSH.out.el rr (List.mem_of_getElem? hrr))
         obtain ⟨g', ga0, ca0, eg, e5, e6, -⟩ := own_at_e HOb.out HSH.out hr hc
         cases eg
         rw [HSE.out] at e6
         have HRR := Lib.hid hrr; have HRLn := Lib.hid hrl
         clear hrr hrl
         go_wp2_with ((go_at_call 96; refine (INV.out _).mono ?_; rintro e w' ⟨rfl, rfl⟩))
         clear e5 e6
         go_loopw [92] (fun u wq => ∃ j : Nat, j ≤ n ∧ u = .int .i64 j ∧ (∃ us, OwnRowsW wq w.heap.size (.slice (some ⟨g, 0, none⟩) M.length cap) (Y.set r (mulTo p F rr j)) us) ∧ Below w.heap.size w wq) (fun u _ => n - (intOf u).toNat)
         case atStart => exact ⟨0, Nat.zero_le _, rfl, ⟨_, by rw [mulTo_zero, set_same HRR.out]; exact HOb.out⟩, HBb.out⟩
         case round =>
          obtain ⟨j, hj, rfl, ⟨usj, hoj⟩, hbj⟩ := hrel
          clear HOb HBb
          by_cases hlt2 : j < n
          ·have hml : (mulTo p F rr j).length = n := by have := HRLn.out; simp [mulTo]; omega
           have hrow : (Y.set r (mulTo p F rr j))[r]? = some (mulTo p F rr j) := List.getElem?_set_self (by have := HSH.out.1; omega)
           obtain ⟨y, hy⟩ := get_of_lt (show j < rr.length by have := HRLn.out; omega)
           have hel : (mulTo p F rr j)[j]? = some y := by rw [mulTo_get _ _ _ _ (by have := HRLn.out; omega), hy]
           obtain ⟨g', A9, c9, eg, hu9, hc9, _⟩ := hoj.at hrow
           cases eg
           obtain ⟨ga, c10, hu10, hca, hfa, hga1, hga2, hga3, hst⟩ := hoj.ent hrow hel
           rw [hu9] at hu10
           simp only [Option.some.injEq, Value.slice.injEq] at hu10
           obtain ⟨rfl, -, rfl⟩ := hu10
           rw [hml] at hc9
           obtain ⟨y1, y2⟩ := HRE.out y (List.mem_of_getElem? hy)
           obtain ⟨s1, s2⟩ := hst (y * F % p)
           rw [List.set_set, mulTo_set _ _ _ _ _ hy] at s1
           have S1 := Lib.hid s1
           have S2 := Lib.hid (hbj.setCell (p := ⟨ga, j, none⟩) hga1 (.int .i64 (y * F % p)))
           have hne : g ≠ ga := fun e => hga3 (by rw [← e]; rfl)
           clear hml hrow hy hel hu9 hst s1 s2 hoj
           go_wp2_with fail
           refine wp_region_T (S := fun W => W.cell? ⟨g, r, none⟩ = some (.slice (some ⟨ga, 0, none⟩) n c9) ∧ W.cell? ⟨ga, j, none⟩ = some (.int .i64 y)) 16 (by kernel_rfl) (by simp [*]) (fun hHeld => ?_)
           refine takeQ 0 (v := ?_) rfl (Or.inl ⟨by rfl, ?_⟩) ?_
           rotate_left
           ·intro w h; (try dsimp only at h); go_simp; (try with_reducible rfl)
           simp only [Act.put, List.setIfInBounds_toArray, List.set_cons_zero, List.set_cons_succ]
           refine takeQ 1 (v := ?_) rfl (Or.inl ⟨by rfl, ?_⟩) ?_
           rotate_left
           ·intro w h; (try dsimp only at h); go_simp; (try with_reducible rfl)
           simp only [Act.put, List.setIfInBounds_toArray, List.set_cons_zero, List.set_cons_succ]
           refine takeQ 2 (v := ?_) rfl (Or.inl ⟨by rfl, ?_⟩) ?_
           rotate_left
           ·intro w h; (try dsimp only at h); go_simp; (try with_reducible rfl)
           simp only [Act.put, List.setIfInBounds_toArray, List.set_cons_zero, List.set_cons_succ]
           refine takeQ 3 (v := ?_) rfl (Or.inl ⟨by rfl, ?_⟩) ?_
           rotate_left
           ·intro w h; (try dsimp only at h); go_simp; (try with_reducible rfl)
           simp only [Act.put, List.setIfInBounds_toArray, List.set_cons_zero, List.set_cons_succ]
           refine takeQ 4 (v := ?_) rfl (Or.inl ⟨by rfl, ?_⟩) ?_
           rotate_left
           ·intro w h; (try dsimp only at h); go_simp; (try with_reducible rfl)
           simp only [Act.put, List.setIfInBounds_toArray, List.set_cons_zero, List.set_cons_succ]
           refine takeQ 5 (v := ?_) rfl (Or.inl ⟨by rfl, ?_⟩) ?_
           rotate_left
           ·intro w h; (try dsimp only at h); go_simp; (try with_reducible rfl)
           simp only [Act.put, List.setIfInBounds_toArray, List.set_cons_zero, List.set_cons_succ]
           refine takeQ 6 (v := ?_) rfl (Or.inl ⟨by rfl, ?_⟩) ?_
           rotate_left
           ·intro w h; (try dsimp only at h); go_simp; (try with_reducible rfl)
           simp only [Act.put, List.setIfInBounds_toArray, List.set_cons_zero, List.set_cons_succ]
           refine takeQ 7 (v := ?_) rfl (Or.inl ⟨by rfl, ?_⟩) ?_
           rotate_left
           ·intro w h; (try dsimp only at h); go_simp; (try with_reducible rfl)
           simp only [Act.put, List.setIfInBounds_toArray, List.set_cons_zero, List.set_cons_succ]
           refine takeQ 8 (v := ?_) rfl (Or.inl ⟨by rfl, ?_⟩) ?_
           rotate_left
           ·intro w h; (try dsimp only at h); go_simp; (try with_reducible rfl)
           simp only [Act.put, List.setIfInBounds_toArray, List.set_cons_zero, List.set_cons_succ]
           refine takeQ 9 (v := ?_) rfl (Or.inl ⟨by rfl, ?_⟩) ?_
           rotate_left
           ·intro w h; (try dsimp only at h); go_simp; (try with_reducible rfl)
           simp only [Act.put, List.setIfInBounds_toArray, List.set_cons_zero, List.set_cons_succ]
           refine takeQ 10 (v := ?_) rfl (Or.inl ⟨by rfl, ?_⟩) ?_
           rotate_left
           ·intro w h; (try dsimp only at h); go_simp; (try with_reducible rfl)
           simp only [Act.put, List.setIfInBounds_toArray, List.set_cons_zero, List.set_cons_succ]
           refine takeQ 11 (v := ?_) rfl (Or.inl ⟨by rfl, ?_⟩) ?_
           rotate_left
           ·intro w h; (try dsimp only at h); go_simp; (try with_reducible rfl)
           simp only [Act.put, List.setIfInBounds_toArray, List.set_cons_zero, List.set_cons_succ]
           refine takeQ 12 (v := ?_) rfl (Or.inl ⟨by rfl, ?_⟩) ?_
           rotate_left
           ·intro w h; (try dsimp only at h); go_simp; (try with_reducible rfl)
           simp only [Act.put, List.setIfInBounds_toArray, List.set_cons_zero, List.set_cons_succ]
           refine takeQ 13 (v := ?_) rfl (Or.inl ⟨by rfl, ?_⟩) ?_
           rotate_left
           ·intro w h; (try dsimp only at h); go_simp; (try with_reducible rfl)
           simp only [Act.put, List.setIfInBounds_toArray, List.set_cons_zero, List.set_cons_succ]
           refine oneT (i := 14) (by kernel_rfl) rfl (fun K hK => ?_)
           go_simp
           refine (fdMul_any p y F _ (by omega) (by omega) y1 (by omega) (by omega) (by omega)).mono ?_
           rintro e w' ⟨rfl, rfl⟩
           go_simp
           refine hK.out _ _ (fun _ => hHeld) (fun hHeld => ?_)
           clear hK K
           try simp only [Act.put, List.setIfInBounds_toArray, List.set_cons_zero, List.set_cons_succ]
           have hHeld := hHeld (by decide)
           refine oneT (i := 15) (by kernel_rfl) rfl (fun K hK => ?_)
           go_simp
           refine hK.out _ _ (fun _ => hHeld) (fun hHeld => ?_)
           clear hK K
           try simp only [Act.put, List.setIfInBounds_toArray, List.set_cons_zero, List.set_cons_succ]
           have hHeld := hHeld (by decide)
           refine oneT (i := 16) (by kernel_rfl) rfl (fun K hK => ?_)
           go_simp
           refine hK.out _ _ (fun h => absurd h (by decide)) (fun _ => ?_)
           clear hK K
           try simp only [Act.put, List.setIfInBounds_toArray, List.set_cons_zero, List.set_cons_succ]
           refine doneT (by kernel_rfl) ?_ _
           go_wp2
           go_roundw
           case rel => exact ⟨j+1, by omega, by go_num, ⟨_, S1.out.ext (Below.refl _ _).drew⟩, S2.out.drew⟩
           case measure => simp [intOf]; omega
          ·have HQ := Lib.hid (show OwnRowsW wr w.heap.size (.slice (some ⟨g, 0, none⟩) M.length cap) (scL p F Y r) usj from by
            rw [mulTo_all _ _ _ _ (by have := HRLn.out; omega)] at hoj
            unfold scL; rw [getD_some HRR.out]; exact hoj)
           have HBQ := Lib.hid hbj
           have HSQ := Lib.hid (scL_shp (f := F) p2 HSH.out hr)
           have HSQ2 := Lib.hid (scL_shp (f := F) p2 HSH2.out hr)
           have hcol := HCOL.out
           obtain ⟨Q1, hQ1⟩ : ∃ Q1, Q1 = scL p F Y r := ⟨_, rfl⟩
           obtain ⟨Q2, hQ2⟩ : ∃ Q2, Q2 = scL p F Y2 r := ⟨_, rfl⟩
           rw [← hQ1, ← hQ2] at hcol
           rw [← hQ1] at HQ HSQ
           rw [← hQ2] at HSQ2
           have HCOL2 := Lib.hid hcol
           clear hoj hbj hcol hQ1 hQ2 HCOL
           have hjn : (n : Int) ≤ j := by omega
           go_wp2
           go_loopw [114] (fun u wq => ∃ i : Nat, i ≤ M.length ∧ u = .int .i64 i ∧ (∃ us, OwnRowsW wq w.heap.size (.slice (some ⟨g, 0, none⟩) M.length cap) (clrL p r c i (Q1, Q2)).1 us) ∧ Below w.heap.size w wq) (fun u _ => M.length - (intOf u).toNat)
           case atStart => exact ⟨0, Nat.zero_le _, rfl, ⟨_, HQ.out⟩, HBQ.out⟩
           case round =>
            obtain ⟨i, hi, rfl, ⟨usi, hoi⟩, hbi⟩ := hrel
            clear HQ HBQ
            have hcl := clrL_all (r := r) (c := c) (q := (Q1, Q2)) p2 HSQ.out HSQ2.out hr hc i hi
            have HC1 := Lib.hid hcl.s1; have HC2 := Lib.hid hcl.s2
            clear hcl
            by_cases hlt3 : i < M.length
            ·have hsucc : clrL p r c (i + 1) (Q1, Q2) = if i ≠ r ∧ eM (clrL p r c i (Q1, Q2)).1 i c ≠ 0 then
               ((clrL p r c i (Q1, Q2)).1.set i (addRow p (-(eM (clrL p r c i (Q1, Q2)).1 i c)) ((clrL p r c i (Q1, Q2)).1.getD i []) ((clrL p r c i (Q1, Q2)).1.getD r [])),
                (clrL p r c i (Q1, Q2)).2.set i (addRow p (-(eM (clrL p r c i (Q1, Q2)).1 i c)) ((clrL p r c i (Q1, Q2)).2.getD i []) ((clrL p r c i (Q1, Q2)).2.getD r [])))
               else clrL p r c i (Q1, Q2) := rfl
             obtain ⟨q, hq⟩ : ∃ q, q = clrL p r c i (Q1, Q2) := ⟨_, rfl⟩
             rw [← hq] at hsucc hoi HC1 HC2
             clear hq
             by_cases hir : i = r
             ·have hs2 := Lib.hid (show clrL p r c (i + 1) (Q1, Q2) = q by rw [hsucc, if_neg (fun h => h.1 hir)])
              have HOI := Lib.hid hoi; have HBI := Lib.hid hbi
              clear hsucc hoi hbi
              go_wp2
              go_roundw
              case rel => exact ⟨i + 1, by omega, by go_num, ⟨_, by rw [hs2.out]; exact HOI.out⟩, HBI.out⟩
              case measure => simp [intOf]; omega
             ·obtain ⟨v, hv⟩ : ∃ v, v = eM q.1 i c := ⟨_, rfl⟩
              obtain ⟨g', gb, cb, eg, e5, e6, -⟩ := own_at_e hoi HC1.out hlt3 hc
              cases eg
              obtain ⟨v1, v2⟩ := HC1.out.2.2 i c hlt3 hc
              rw [← hv] at e6 v1 v2 hsucc
              clear hv
              have hirn : (i == r) = false := by simpa using hir
              have hirm : ((i : Int) == (r : Int)) = false := by simp; omega
              have HOI := Lib.hid hoi; have HBI := Lib.hid hbi
              clear hoi hbi
              by_cases hv0 : v = 0
              ·have hs2 := Lib.hid (show clrL p r c (i + 1) (Q1, Q2) = q by rw [hsucc, if_neg (fun h => h.2 hv0)])
               subst hv0
               clear hsucc
               go_wp2
               go_roundw
               case rel => exact ⟨i + 1, by omega, by go_num, ⟨_, by rw [hs2.out]; exact HOI.out⟩, HBI.out⟩
               case measure => simp [intOf]; omega
              ·have hs2 := Lib.hid (show clrL p r c (i + 1) (Q1, Q2) = (q.1.set i (addRow p (-v) (q.1.getD i []) (q.1.getD r [])), q.2.set i (addRow p (-v) (q.2.getD i []) (q.2.getD r []))) by rw [hsucc, if_pos ⟨hir, hv0⟩])
               have hvb : (v == 0) = false := by simpa using hv0
               have hvn : (v != 0) = true := by simpa using hv0
               clear hsucc
               go_wp2
               clear e5 e6
               obtain ⟨ri, hri⟩ := get_of_lt (show i < q.1.length by have := HC1.out.1; omega)
               obtain ⟨rr2, hrr2⟩ := get_of_lt (show r < q.1.length by have := HC1.out.1; omega)
               have HRI := Lib.hid hri; have HRR2 := Lib.hid hrr2
               have HLI := Lib.hid (HC1.out.row ri (List.mem_of_getElem? hri)); have HLR := Lib.hid (HC1.out.row rr2 (List.mem_of_getElem? hrr2))
               have HEI := Lib.hid (HC1.out.el ri (List.mem_of_getElem? hri)); have HER := Lib.hid (HC1.out.el rr2 (List.mem_of_getElem? hrr2))
               clear hri hrr2
               go_loopw [142] (fun u wq => ∃ j : Nat, j ≤ n ∧ u = .int .i64 j ∧ (∃ us, OwnRowsW wq w.heap.size (.slice (some ⟨g, 0, none⟩) M.length cap) (q.1.set i (addTo p (-v) ri rr2 j)) us) ∧ Below w.heap.size w wq) (fun u _ => n - (intOf u).toNat)
               case atStart => exact ⟨0, Nat.zero_le _, rfl, ⟨_, by rw [addTo_zero, set_same HRI.out]; exact HOI.out⟩, HBI.out⟩
               case round =>
                obtain ⟨j, hj, rfl, ⟨usj, hoj⟩, hbj⟩ := hrel
                clear HOI HBI
                have hlir : ri.length = rr2.length := by rw [HLI.out, HLR.out]
                by_cases hlt4 : j < n
                ·have hml : (addTo p (-v) ri rr2 j).length = n := by rw [addTo_len _ _ _ _ _ hlir (by have := HLI.out; omega)]; exact HLI.out
                 have hrow : (q.1.set i (addTo p (-v) ri rr2 j))[i]? = some (addTo p (-v) ri rr2 j) := List.getElem?_set_self (by have := HC1.out.1; omega)
                 have hrow2 : (q.1.set i (addTo p (-v) ri rr2 j))[r]? = some rr2 := by rw [List.getElem?_set_ne hir]; exact HRR2.out
                 obtain ⟨y, hy⟩ := get_of_lt (show j < ri.length by have := HLI.out; omega)
                 obtain ⟨t, ht⟩ := get_of_lt (show j < rr2.length by have := HLR.out; omega)
                 have hel : (addTo p (-v) ri rr2 j)[j]? = some y := by rw [addTo_get _ _ _ _ _ (by have := HLR.out; omega) hlir, hy]
                 obtain ⟨g', A9, c9, eg, hu9, hc9, _⟩ := hoj.at hrow
                 cases eg
                 obtain ⟨g', A8, c8, eg, hu8, hc8, _⟩ := hoj.at hrow2
                 cases eg
                 obtain ⟨ga, c10, hu10, hca, hfa, hga1, hga2, hga3, hst⟩ := hoj.ent hrow hel
                 rw [hu9] at hu10
                 simp only [Option.some.injEq, Value.slice.injEq] at hu10
                 obtain ⟨rfl, -, rfl⟩ := hu10
                 obtain ⟨gr, c11, hu11, hcr, _⟩ := hoj.ent hrow2 ht
                 rw [hu8] at hu11
                 simp only [Option.some.injEq, Value.slice.injEq] at hu11
                 obtain ⟨rfl, -, rfl⟩ := hu11
                 rw [hml] at hc9
                 rw [HLR.out] at hc8
                 obtain ⟨y1, y2⟩ := HEI.out y (List.mem_of_getElem? hy)
                 obtain ⟨t1, t2⟩ := HER.out t (List.mem_of_getElem? ht)
                 obtain ⟨s1, s2⟩ := hst ((y + p - v * t) % p)
                 rw [List.set_set] at s1
                 have hval : (y + p - v * t) % p = (y + -v * t) % p := by rw [show y + p - v * t = (y + -v * t) + p * 1 by rw [Int.neg_mul]; omega, Int.add_mul_emod_self_left]
                 rw [show (addTo p (-v) ri rr2 j).set j ((y + p - v * t) % p) = addTo p (-v) ri rr2 (j + 1) by rw [hval]; exact addTo_set _ _ _ _ _ _ _ hy ht] at s1
                 have S1 := Lib.hid s1
                 have S2 := Lib.hid (hbj.setCell (p := ⟨ga, j, none⟩) hga1 (.int .i64 ((y + p - v * t) % p)))
                 have hne : g ≠ ga := fun e => hga3 (by rw [← e]; rfl)
                 have m0 := Int.emod_nonneg (v * t) (show p ≠ 0 by omega)
                 have m1 := Int.emod_lt_of_pos (v * t) (show 0 < p by omega)
                 clear hml hrow hrow2 hy ht hel hu9 hu8 hst s1 s2 hoj hval hlir
                 go_wp2_with fail
                 refine wp_region_T (S := fun W => W.cell? ⟨g, i, none⟩ = some (.slice (some ⟨ga, 0, none⟩) n c9) ∧ W.cell? ⟨g, r, none⟩ = some (.slice (some ⟨gr, 0, none⟩) n c8) ∧ W.cell? ⟨ga, j, none⟩ = some (.int .i64 y) ∧ W.cell? ⟨gr, j, none⟩ = some (.int .i64 t)) 25 (by kernel_rfl) (by simp [*]) (fun hHeld => ?_)
                 refine takeQ 0 (v := ?_) rfl (Or.inl ⟨by rfl, ?_⟩) ?_
                 rotate_left
                 ·intro w h; (try dsimp only at h); go_simp; (try with_reducible rfl)
                 simp only [Act.put, List.setIfInBounds_toArray, List.set_cons_zero, List.set_cons_succ]
                 refine takeQ 1 (v := ?_) rfl (Or.inl ⟨by rfl, ?_⟩) ?_
                 rotate_left
                 ·intro w h; (try dsimp only at h); go_simp; (try with_reducible rfl)
                 simp only [Act.put, List.setIfInBounds_toArray, List.set_cons_zero, List.set_cons_succ]
                 refine takeQ 2 (v := ?_) rfl (Or.inl ⟨by rfl, ?_⟩) ?_
                 rotate_left
                 ·intro w h; (try dsimp only at h); go_simp; (try with_reducible rfl)
                 simp only [Act.put, List.setIfInBounds_toArray, List.set_cons_zero, List.set_cons_succ]
                 refine takeQ 3 (v := ?_) rfl (Or.inl ⟨by rfl, ?_⟩) ?_
                 rotate_left
                 ·intro w h; (try dsimp only at h); go_simp; (try with_reducible rfl)
                 simp only [Act.put, List.setIfInBounds_toArray, List.set_cons_zero, List.set_cons_succ]
                 refine takeQ 4 (v := ?_) rfl (Or.inl ⟨by rfl, ?_⟩) ?_
                 rotate_left
                 ·intro w h; (try dsimp only at h); go_simp; (try with_reducible rfl)
                 simp only [Act.put, List.setIfInBounds_toArray, List.set_cons_zero, List.set_cons_succ]
                 refine takeQ 5 (v := ?_) rfl (Or.inl ⟨by rfl, ?_⟩) ?_
                 rotate_left
                 ·intro w h; (try dsimp only at h); go_simp; (try with_reducible rfl)
                 simp only [Act.put, List.setIfInBounds_toArray, List.set_cons_zero, List.set_cons_succ]
                 refine takeQ 6 (v := ?_) rfl (Or.inl ⟨by rfl, ?_⟩) ?_
                 rotate_left
                 ·intro w h; (try dsimp only at h); go_simp; (try with_reducible rfl)
                 simp only [Act.put, List.setIfInBounds_toArray, List.set_cons_zero, List.set_cons_succ]
                 refine takeQ 7 (v := ?_) rfl (Or.inl ⟨by rfl, ?_⟩) ?_
                 rotate_left
                 ·intro w h; (try dsimp only at h); go_simp; (try with_reducible rfl)
                 simp only [Act.put, List.setIfInBounds_toArray, List.set_cons_zero, List.set_cons_succ]
                 refine takeQ 8 (v := ?_) rfl (Or.inl ⟨by rfl, ?_⟩) ?_
                 rotate_left
                 ·intro w h; (try dsimp only at h); go_simp; (try with_reducible rfl)
                 simp only [Act.put, List.setIfInBounds_toArray, List.set_cons_zero, List.set_cons_succ]
                 refine takeQ 9 (v := ?_) rfl (Or.inl ⟨by rfl, ?_⟩) ?_
                 rotate_left
                 ·intro w h; (try dsimp only at h); go_simp; (try with_reducible rfl)
                 simp only [Act.put, List.setIfInBounds_toArray, List.set_cons_zero, List.set_cons_succ]
                 refine takeQ 10 (v := ?_) rfl (Or.inl ⟨by rfl, ?_⟩) ?_
                 rotate_left
                 ·intro w h; (try dsimp only at h); go_simp; (try with_reducible rfl)
                 simp only [Act.put, List.setIfInBounds_toArray, List.set_cons_zero, List.set_cons_succ]
                 refine takeQ 11 (v := ?_) rfl (Or.inl ⟨by rfl, ?_⟩) ?_
                 rotate_left
                 ·intro w h; (try dsimp only at h); go_simp; (try with_reducible rfl)
                 simp only [Act.put, List.setIfInBounds_toArray, List.set_cons_zero, List.set_cons_succ]
                 refine takeQ 12 (v := ?_) rfl (Or.inl ⟨by rfl, ?_⟩) ?_
                 rotate_left
                 ·intro w h; (try dsimp only at h); go_simp; (try with_reducible rfl)
                 simp only [Act.put, List.setIfInBounds_toArray, List.set_cons_zero, List.set_cons_succ]
                 refine takeQ 13 (v := ?_) rfl (Or.inl ⟨by rfl, ?_⟩) ?_
                 rotate_left
                 ·intro w h; (try dsimp only at h); go_simp; (try with_reducible rfl)
                 simp only [Act.put, List.setIfInBounds_toArray, List.set_cons_zero, List.set_cons_succ]
                 refine takeQ 14 (v := ?_) rfl (Or.inl ⟨by rfl, ?_⟩) ?_
                 rotate_left
                 ·intro w h; (try dsimp only at h); go_simp; (try with_reducible rfl)
                 simp only [Act.put, List.setIfInBounds_toArray, List.set_cons_zero, List.set_cons_succ]
                 refine takeQ 15 (v := ?_) rfl (Or.inl ⟨by rfl, ?_⟩) ?_
                 rotate_left
                 ·intro w h; (try dsimp only at h); go_simp; (try with_reducible rfl)
                 simp only [Act.put, List.setIfInBounds_toArray, List.set_cons_zero, List.set_cons_succ]
                 refine takeQ 16 (v := ?_) rfl (Or.inl ⟨by rfl, ?_⟩) ?_
                 rotate_left
                 ·intro w h; (try dsimp only at h); go_simp; (try with_reducible rfl)
                 simp only [Act.put, List.setIfInBounds_toArray, List.set_cons_zero, List.set_cons_succ]
                 refine takeQ 17 (v := ?_) rfl (Or.inl ⟨by rfl, ?_⟩) ?_
                 rotate_left
                 ·intro w h; (try dsimp only at h); go_simp; (try with_reducible rfl)
                 simp only [Act.put, List.setIfInBounds_toArray, List.set_cons_zero, List.set_cons_succ]
                 refine takeQ 18 (v := ?_) rfl (Or.inl ⟨by rfl, ?_⟩) ?_
                 rotate_left
                 ·intro w h; (try dsimp only at h); go_simp; (try with_reducible rfl)
                 simp only [Act.put, List.setIfInBounds_toArray, List.set_cons_zero, List.set_cons_succ]
                 refine takeQ 19 (v := ?_) rfl (Or.inl ⟨by rfl, ?_⟩) ?_
                 rotate_left
                 ·intro w h; (try dsimp only at h); go_simp; (try with_reducible rfl)
                 simp only [Act.put, List.setIfInBounds_toArray, List.set_cons_zero, List.set_cons_succ]
                 refine takeQ 20 (v := ?_) rfl (Or.inl ⟨by rfl, ?_⟩) ?_
                 rotate_left
                 ·intro w h; (try dsimp only at h); go_simp; (try with_reducible rfl)
                 simp only [Act.put, List.setIfInBounds_toArray, List.set_cons_zero, List.set_cons_succ]
                 refine takeQ 21 (v := ?_) rfl (Or.inl ⟨by rfl, ?_⟩) ?_
                 rotate_left
                 ·intro w h; (try dsimp only at h); go_simp; (try with_reducible rfl)
                 simp only [Act.put, List.setIfInBounds_toArray, List.set_cons_zero, List.set_cons_succ]
                 refine oneT (i := 22) (by kernel_rfl) rfl (fun K hK => ?_)
                 go_simp
                 refine (fdMul_any p v t _ (by omega) (by omega) v1 (by omega) t1 (by omega)).mono ?_
                 rintro e w' ⟨rfl, rfl⟩
                 go_simp
                 refine hK.out _ _ (fun _ => hHeld) (fun hHeld => ?_)
                 clear hK K
                 try simp only [Act.put, List.setIfInBounds_toArray, List.set_cons_zero, List.set_cons_succ]
                 have hHeld := hHeld (by decide)
                 refine oneT (i := 23) (by kernel_rfl) rfl (fun K hK => ?_)
                 go_simp
                 refine (fdSub_any p y (v * t % p) _ (by omega) (by omega) y1 y2 m0 m1).mono ?_
                 rintro e w' ⟨rfl, rfl⟩
                 go_simp
                 refine hK.out _ _ (fun _ => hHeld) (fun hHeld => ?_)
                 clear hK K
                 try simp only [Act.put, List.setIfInBounds_toArray, List.set_cons_zero, List.set_cons_succ]
                 have hHeld := hHeld (by decide)
                 refine oneT (i := 24) (by kernel_rfl) rfl (fun K hK => ?_)
                 go_simp
                 refine hK.out _ _ (fun _ => hHeld) (fun hHeld => ?_)
                 clear hK K
                 try simp only [Act.put, List.setIfInBounds_toArray, List.set_cons_zero, List.set_cons_succ]
                 have hHeld := hHeld (by decide)
                 refine oneT (i := 25) (by kernel_rfl) rfl (fun K hK => ?_)
                 go_simp
                 refine hK.out _ _ (fun h => absurd h (by decide)) (fun _ => ?_)
                 clear hK K
                 try simp only [Act.put, List.setIfInBounds_toArray, List.set_cons_zero, List.set_cons_succ]
                 refine doneT (by kernel_rfl) ?_ _
                 go_wp2
                 go_roundw
                 case rel => exact ⟨j+1, by omega, by go_num, ⟨_, S1.out.ext (Below.refl _ _).drew⟩, S2.out.drew⟩
                 case measure => simp [intOf]; omega
                ·have HQ := Lib.hid (show OwnRowsW wr w.heap.size (.slice (some ⟨g, 0, none⟩) M.length cap) (clrL p r c (i + 1) (Q1, Q2)).1 usj from by
                  rw [addTo_all _ _ _ _ hlir _ (by have := HLR.out; omega)] at hoj
                  rw [hs2.out, getD_some HRI.out, getD_some HRR2.out]; exact hoj)
                 have HBQ := Lib.hid hbj
                 have hjn2 : (n : Int) ≤ j := by omega
                 clear hoj hbj hlir
                 go_wp2
                 go_roundw
                 case rel => exact ⟨i + 1, by omega, by go_num, ⟨_, HQ.out⟩, HBQ.out⟩
                 case measure => simp [intOf]; omega
            ·have HOI := Lib.hid hoi; have HBI := Lib.hid hbi
             have hiN := Lib.hid (show i = M.length by omega)
             have hMi : (M.length : Int) ≤ i := by omega
             clear hoi hbi
             go_wp2
             go_roundw
             case rel => exact ⟨c + 1, (r + 1, clrL p r c i (Q1, Q2)), by go_num, by go_num, ⟨by omega, by omega, by have := HP.out.el; rw [HE.out, HKF.out, if_neg hKN, HCOL2.out, show clrL p r c M.length (Q1, Q2) = clrL p r c i (Q1, Q2) by rw [hiN.out]] at this; exact this, ⟨_, HOI.out⟩, HC1.out, HC2.out, HBI.out⟩⟩
             case measure => simp [intOf]; omega
     ·have he := Lib.hid (show elimQ p n M (List.replicate M.length []) = (r, z1, z2) by
       rw [← HP.out.el]
       obtain ⟨m, hm⟩ : ∃ m, n - c = m + 1 := ⟨n - c - 1, by omega⟩
       rw [hm, elimL]; dsimp only; rw [if_neg (by rw [HP.out.s1.1]; exact hr)])
      have hz := HZ.out.trans he.out
      obtain rfl : Z = (r, z1, z2) := hz
      have HRD := Lib.hid (show RowsFrom wr w.heap.size A (z1.take r) from by obtain ⟨us, ho⟩ := HP.out.own; exact (OwnRows.from ⟨us, ho⟩).take _)
      have HBE := Lib.hid HP.out.be
      have HLE2 := Lib.hid (show (redI p n M).length = r from HLEN.out)
      have HRO2 := Lib.hid (show redI p n M = z1.take r from HROWS.out)
      rcases HFM.out with ⟨rfl, h0, rfl, hnil⟩ | ⟨g, rfl, -, hc5, hc6⟩
      ·have hr0 : r = 0 := by omega
       subst hr0
       have H0 := Lib.hid h0
       clear hnil
       go_wp2
       go_ret
       exact ⟨none, 0, by rw [HLE2.out]; rfl, by rw [HRO2.out]; exact HRD.out, HBE.out⟩
      ·go_wp2
       go_ret
       exact ⟨some ⟨g, 0, none⟩, cap, by rw [HLE2.out]; rfl, by rw [HRO2.out]; exact HRD.out, HBE.out⟩
    ·have he := Lib.hid (show elimQ p n M (List.replicate M.length []) = (r, z1, z2) by rw [← HP.out.el, show n - c = 0 by omega]; rfl)
     have hz := HZ.out.trans he.out
     obtain rfl : Z = (r, z1, z2) := hz
     have HRD := Lib.hid (show RowsFrom wr w.heap.size A (z1.take r) from by obtain ⟨us, ho⟩ := HP.out.own; exact (OwnRows.from ⟨us, ho⟩).take _)
     have HBE := Lib.hid HP.out.be
     have HLE2 := Lib.hid (show (redI p n M).length = r from HLEN.out)
     have HRO2 := Lib.hid (show redI p n M = z1.take r from HROWS.out)
     rcases HFM.out with ⟨rfl, h0, rfl, hnil⟩ | ⟨g, rfl, -, hc5, hc6⟩
     ·have hr0 : r = 0 := by omega
      subst hr0
      have H0 := Lib.hid h0
      clear hnil
      go_wp2
      go_ret
      exact ⟨none, 0, by rw [HLE2.out]; rfl, by rw [HRO2.out]; exact HRD.out, HBE.out⟩
     ·go_wp2
      go_ret
      exact ⟨some ⟨g, 0, none⟩, cap, by rw [HLE2.out]; rfl, by rw [HRO2.out]; exact HRD.out, HBE.out⟩
end Go.Proofs.YtjdbfokbgmbphaaGreatDoor
