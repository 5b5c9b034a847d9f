/- The reference's stOwn: a system in memory of its own. Conditions: lengths of at most 2^20. -/
import Derived.Test.YtjdbfokbgmbphaaGreatDoorDo3
import Derived.Test.YtjdbfokbgmbphaaGreatDoorUS
import Derived.Deep.AppendLies
namespace Go.Proofs.YtjdbfokbgmbphaaGreatDoor
set_option linter.unusedVariables false
set_option linter.unusedSimpArgs false
open Go.RowKit

/-- 'append(s, r)' of one slice that lies in a block just made, as one step of a region that draws. -/
theorem step_appendRow {ops : Array Oper} {o : Oper} {a : Act} {K : Act → World → Prop} {Q : Exit → Act → World → Prop} {E : Prop} (hgd : o.guard = none) (s x : Operand)
    (ho : o.op = .call { callee := .builtin .append, args := #[s, x], argTypes := #[22, 22] }) (B : Nat) (W0 W : World) (v u : Value) (rows : List (List Int)) (r : List Int)
    (hown : OwnRows W0 B v rows) (hbel : Below W0.heap.size W0 W) (hu : OwnInts W W0.heap.size u r) (hlen : rows.length + 1 ≤ 1073741824) (hB : B ≤ W0.heap.size) (hs : a.eval s = v) (hx : a.eval x = .slice (some ⟨W.heap.size, 0, none⟩) 1 1)
    (h : ∀ g cap w', OwnRows w' B (.slice (some ⟨g, 0, none⟩) (rows.length + 1) cap) (rows ++ [r]) → Below B W0 w' → W.heap.size ≤ w'.heap.size → (∀ k, k < W.heap.size → some k ≠ v.ownBlock → w'.heap[k]? = W.heap[k]?) → K (a.put o.dst (.slice (some ⟨g, 0, none⟩) (rows.length + 1) cap)) w') :
    if Region.wanted o (yielded ops a.tmps) = true then Oper.wp Tryz.prog o a (W.alloc (.cells #[u] 25)) K Q else E := by
  obtain ⟨i0, hi, hz0, hz1, hz2⟩ := info_parts infoRow
  obtain ⟨us, hown⟩ := hown
  have hW := hown.ext hbel
  have ho1 := World.ownsRow.alloc hW.outer (.cells #[u] 25)
  have hsz := hbel.size
  refine step_append_lies _ hgd s x 22 ho B 25 i0 (.slice none 0 0) 1 24 Tryz.underlying22 hi hz0 hz1 hz2 rfl (by decide) v _ _ hs ho1 ⟨W.heap.size, 0, none⟩ 1 1 [u] hx rfl ?_ ?_ (by decide) ?_ ?_ ?_ _ rfl ?_
  · intro j u' hj
    match j, hj with
    | 0, hj => simp at hj; subst hj; simp [Addr.add]
    | j + 1, hj => simp at hj
  · intro u' hu'; simp at hu'; subst hu'; obtain ⟨A', c', rfl, _⟩ := hu.view; rfl
  · unfold maxLen; omega
  · omega
  · simp; omega
  · intro g cap w' hown' hgrow _ _
    have hg : W.grownBy w' v.ownBlock := ⟨hgrow.os, hgrow.tape, hgrow.output, by have := hgrow.size; simp at this; omega, fun k hk hne => (hgrow.block k (by simp; omega) hne).trans (heap_alloc_old W _ hk)⟩
    refine h g cap w' ⟨us ++ [u], ?_, ?_, ?_⟩ (hbel.mono hB |>.trans ((Below.refl _ _).grown hg (by omega) fun k hk => (World.ownsRow.lt hW.outer k hk).1)) hg.size (fun k hk hne => hg.block k hk hne)
    · simpa using hown'
    · intro k u' r' hu' hr'
      by_cases hk : k < us.length
      · rw [List.getElem?_append_left hk] at hu'
        rw [List.getElem?_append_left (by rw [← hown.len]; exact hk)] at hr'
        exact OwnInts.kept (hW.each k u' r' hu' hr') hg (apart_types hW.outer (hW.each k u' r' hu' hr'))
      · have hk' : k = us.length := by
          have := (List.getElem?_eq_some_iff.1 hu').1
          simp at this; omega
        subst hk'
        simp at hu'
        rw [hown.len] at hr'
        simp at hr'
        subst hu' hr'
        have hkept := OwnInts.kept hu hg (apart_types hW.outer hu)
        exact ⟨hkept.1, hkept.2.imp id fun ⟨g, cap, cur, a1, a2, a3⟩ => ⟨g, cap, cur, a1, by omega, a3⟩⟩
    · have new : ∀ (i : Nat) (u' : Value) (b : Nat), i < us.length → us[i]? = some u' → u'.ownBlock = some b → u.ownBlock = some b → False := fun i u' b _ h1 h2 h3 => by
        obtain ⟨r', _, ho'⟩ := hown.getR h1
        have a1 := (ho'.lt b h2).2
        have a2 := (hu.lt b h3).1
        omega
      intro i j u1 u2 b h1 h2 h3 h4
      have hi := (List.getElem?_eq_some_iff.1 h1).1
      have hj := (List.getElem?_eq_some_iff.1 h2).1
      simp only [List.length_append, List.length_cons, List.length_nil] at hi hj
      by_cases ci : i < us.length <;> by_cases cj : j < us.length
      · rw [List.getElem?_append_left ci] at h1
        rw [List.getElem?_append_left cj] at h2
        exact hown.apart i j u1 u2 b h1 h2 h3 h4
      · rw [List.getElem?_append_left ci] at h1
        obtain rfl : j = us.length := by omega
        simp at h2; subst h2
        exact (new i u1 b ci h1 h3 h4).elim
      · rw [List.getElem?_append_left cj] at h2
        obtain rfl : i = us.length := by omega
        simp at h1; subst h1
        exact (new j u2 b cj h2 h4 h3).elim
      · omega


/-- Behind k rounds of stOwn. -/
def StO (v h : Int) (rows : List (List Int)) (w : World) (k : Nat) (wr : World) : Prop :=
  Below w.heap.size w wr ∧ ∃ u, wr.heap[w.heap.size + 1 + 1]? = some (.cells #[.int .i64 v, .int .i64 h, u] 30 (0, 0)) ∧ wr.heap[w.heap.size + 1]? = some (.cells #[.int .i64 0, .int .i64 0, .slice none 0 0] 30 (0, 0)) ∧
    OwnRows wr (w.heap.size + 3) u (rows.take k) ∧ w.heap.size + 3 ≤ wr.heap.size

set_option maxRecDepth 20000 in
set_option maxHeartbeats 4000000 in
theorem stOwn_any (v h : Int) (A : Option Addr) (cap : Nat) (rows : List (List Int)) (w : World) (hR : RowsAt w A rows) (hm : rows.length ≤ 1048576) (hms : ∀ r ∈ rows, r.length ≤ 1048576) :
    Calls Tryz.prog 72 #[.agg #[.int .i64 v, .int .i64 h, .slice A rows.length cap]] w fun e w' => ∃ u, e = .returned (.agg #[.int .i64 v, .int .i64 h, u]) ∧ OwnRows w' w.heap.size u rows ∧ Below w.heap.size w w' := by
  have HM := Lib.hid hm; have HMS := Lib.hid hms
  clear hms
  go_enter Tryz.func72, Tryz.ntmps72
  go_wp2
  go_loopw [14] (fun i wr => ∃ k : Nat, k ≤ rows.length ∧ i = .int .i64 k ∧ StO v h rows w k wr) (fun i _ => rows.length - (intOf i).toNat)
  case atStart =>
    obtain ⟨q0, q1, q2⟩ := heap_at3 w (.cells #[.int .i64 v, .int .i64 h, .slice A rows.length cap] 30) (.cells #[.int .i64 0, .int .i64 0, .slice none 0 0] 30) (.cells #[.int .i64 v, .int .i64 h, .slice none 0 0] 30)
    exact ⟨0, Nat.zero_le _, rfl, below_alloc3 w _ _ _, .slice none 0 0, q2, q1, (Has.nil _ _ 0).own, by simp⟩
  case round =>
    obtain ⟨k, hk, rfl, hbel, u, q2, q1, hown, hsz⟩ := hrel
    by_cases hlt : k < rows.length
    · obtain ⟨r, hr⟩ := get_of_lt hlt
      obtain ⟨bb, o, rfl, hc⟩ := (hR.ext hbel).here hlt
      obtain ⟨A', cap', hck, hin⟩ := hc _ r hr
      have HIN := Lib.hid hin; have HRL := Lib.hid (HMS.out r (List.mem_of_getElem? hr)); have HRR := Lib.hid hr
      have HB := Lib.hid hbel; have HO := Lib.hid hown; have HQ2 := Lib.hid q2; have HQ1 := Lib.hid q1; have HSZ := Lib.hid hsz
      obtain ⟨Au, cu, hu⟩ : ∃ Au cu, u = .slice Au (rows.take k).length cu := by obtain ⟨A1, c1, e, _⟩ := hown.view; exact ⟨A1, c1, e⟩
      obtain ⟨x0, x1, x2⟩ := cells_3 q2
      clear hR hc hin hr hbel hown q2 q1 hsz
      rw [show (rows.take k).length = k by simp; omega] at hu
      subst hu
      go_upto_region 5 with (fail)
      refine wp_region_T (S := fun W => W.cell? ⟨w.heap.size + 1 + 1, 2, none⟩ = some (.slice Au k cu)) 7 (by kernel_rfl) (by simp [*]) (fun hHeld => ?_)
      refine takeT (i := 0) (v := ?_) rfl (by kernel_rfl) (by kernel_rfl) (by kernel_rfl) (by kernel_rfl) (Or.inl ⟨by rfl, ?_⟩) (by assumption) ?_
      rotate_left
      · intro w hSw; (try dsimp only at hSw); go_simp; (try with_reducible rfl)
      simp only [Act.put, List.setIfInBounds_toArray, List.set_cons_zero, List.set_cons_succ]
      refine takeT (i := 1) (v := ?_) rfl (by kernel_rfl) (by kernel_rfl) (by kernel_rfl) (by kernel_rfl) (Or.inl ⟨by rfl, ?_⟩) (by assumption) ?_
      rotate_left
      · intro w hSw; (try dsimp only at hSw); go_simp; (try with_reducible rfl)
      simp only [Act.put, List.setIfInBounds_toArray, List.set_cons_zero, List.set_cons_succ]
      refine takeT (i := 2) (v := ?_) rfl (by kernel_rfl) (by kernel_rfl) (by kernel_rfl) (by kernel_rfl) (Or.inl ⟨by rfl, ?_⟩) (by assumption) ?_
      rotate_left
      · intro w hSw; (try dsimp only at hSw); go_simp; (try with_reducible rfl)
      simp only [Act.put, List.setIfInBounds_toArray, List.set_cons_zero, List.set_cons_succ]
      refine oneT (i := 3) (by kernel_rfl) rfl (fun K hK => ?_)
      go_simp
      refine (l1Own_any A' cap' r _ (HIN.out.ext (Below.refl _ _).drew) (by have := HRL.out; omega)).mono ?_
      rintro e w2 ⟨u2, rfl, hu2, hb2⟩
      obtain ⟨A2, c2, rfl, _⟩ := hu2.view
      have H2 := Lib.hid ((Below.refl wr.heap.size wr).drew.trans hb2)
      have HU2 := Lib.hid hu2
      clear hu2 hb2
      go_simp
      refine hK.out _ _ (fun _ => ext_cell H2.out x2) (fun hHeld => ?_)
      clear hK K
      try simp only [Act.put, List.setIfInBounds_toArray, List.set_cons_zero, List.set_cons_succ]
      have hHeld := hHeld (by decide)
      refine oneT (i := 4) (by kernel_rfl) rfl (fun K hK => ?_)
      go_simp
      refine hK.out _ _ (fun _ => ext_cell (H2.out.alloc H2.out.size _) x2) (fun hHeld => ?_)
      clear hK K
      try simp only [Act.put, List.setIfInBounds_toArray, List.set_cons_zero, List.set_cons_succ]
      have hHeld := hHeld (by decide)
      refine oneT (i := 5) (by kernel_rfl) rfl (fun K hK => ?_)
      refine step_appendRow rfl (.tmp 19) (.tmp 22) rfl (w.heap.size + 3) wr w2 (.slice Au k cu) (.slice A2 r.length c2) (rows.take k) r HO.out H2.out HU2.out (by simp; omega) HSZ.out rfl rfl ?_
      intro g capg w3 hown3 hbel3 _ _
      rw [show (rows.take k).length + 1 = k + 1 by simp; omega] at hown3 ⊢
      have q2' : w3.heap[w.heap.size + 1 + 1]? = _ := (hbel3.block _ (by omega)).trans HQ2.out
      have q1' : w3.heap[w.heap.size + 1]? = _ := (hbel3.block _ (by omega)).trans HQ1.out
      obtain ⟨y0, y1, y2, f0, f1, f2⟩ := box3 (Below.refl _ _) q2'
      have HQ2' := Lib.hid q2'; have HQ1' := Lib.hid q1'; have HO3 := Lib.hid hown3; have HB3 := Lib.hid hbel3
      clear q2' q1' hown3 hbel3
      refine hK.out _ _ (fun _ => y2) (fun hHeld => ?_)
      clear hK K
      try simp only [Act.put, List.setIfInBounds_toArray, List.set_cons_zero, List.set_cons_succ]
      have hHeld := hHeld (by decide)
      refine oneT (i := 6) (by kernel_rfl) rfl (fun K hK => ?_)
      go_simp
      refine hK.out _ _ (fun _ => y2) (fun hHeld => ?_)
      clear hK K
      try simp only [Act.put, List.setIfInBounds_toArray, List.set_cons_zero, List.set_cons_succ]
      have hHeld := hHeld (by decide)
      refine oneT (i := 7) (by kernel_rfl) rfl (fun K hK => ?_)
      go_simp
      refine hK.out _ _ (fun h => absurd h (by decide)) (fun _ => ?_)
      clear hK K
      try simp only [Act.put, List.setIfInBounds_toArray, List.set_cons_zero, List.set_cons_succ]
      refine doneT (by kernel_rfl) ?_ _
      go_wp2
      go_roundw
      case rel =>
        have e2 := heap_setCell_same w3 (w.heap.size + 1 + 1) 2 _ _ (.slice (some ⟨g, 0, none⟩) (k + 1) capg) HQ2'.out
        have e1 := (heap_setCell_other w3 ⟨w.heap.size + 1 + 1, 2, none⟩ (w.heap.size + 1) (.slice (some ⟨g, 0, none⟩) (k + 1) capg) (by simp <;> omega)).trans HQ1'.out
        have hs3 := HB3.out.size
        have hs0 := HSZ.out
        refine ⟨k + 1, by omega, by go_num, ?_, .slice (some ⟨g, 0, none⟩) (k + 1) capg, by simpa using e2, e1, ?_, ?_⟩
        · exact (HB.out.trans (HB3.out.mono (by omega))).setCell (by simp <;> omega) _
        · have h1 := HO3.out.setCell (a := ⟨w.heap.size + 1 + 1, 2, none⟩) (by simp <;> omega) (.slice (some ⟨g, 0, none⟩) (k + 1) capg)
          rw [List.take_add_one, HRR.out]
          exact h1
        · simp; omega
      case measure => simp [intOf]; omega
    · have hke : k = rows.length := by omega
      subst hke
      obtain ⟨x0, x1, x2⟩ := cells_3 q2
      obtain ⟨y0, y1, y2⟩ := cells_3 q1
      obtain ⟨_, _, _, f0, f1, f2⟩ := box3 (Below.refl _ _) q1
      rw [List.take_length] at hown
      obtain ⟨Au, cu, rfl, _⟩ := hown.view
      have HO := Lib.hid hown; have HB := Lib.hid hbel; have HSZ := Lib.hid hsz
      clear hown hbel q1 q2 hsz
      go_wp2
      refine bodyPost_ret (v := .agg #[.int .i64 v, .int .i64 h, .slice Au rows.length cu]) (by simp [results, Tryz.results72, go_sem, *]) rfl ⟨_, rfl, ?_, ?_⟩
      · exact (((HO.out.setCell (by simp <;> omega) _).setCell (by simp <;> omega) _).setCell (by simp <;> omega) _).mono (by omega)
      · exact ((HB.out.setCell (by simp <;> omega) _).setCell (by simp <;> omega) _).setCell (by simp <;> omega) _
end Go.Proofs.YtjdbfokbgmbphaaGreatDoor
