/- The steps made (methods 'do'): put. Conditions: a system of moderate size; the place is there. | The steps made (methods 'do'): forget, invent, solve. | The steps made (methods 'do'): bring. Conditions: a system of moderate size; the places are there. -/
import Derived.Test.YtjdbfokbgmbphaaGreatDoorPk7
import Derived.Test.YtjdbfokbgmbphaaGreatDoorPk12
namespace Go.Proofs.YtjdbfokbgmbphaaGreatDoor
set_option linter.unusedVariables false
set_option linter.unusedSimpArgs false
open Go.RowKit
set_option maxHeartbeats 4000000 in
theorem putDo_any (a p v h : Int) (A : Option Addr) (cap : Nat) (rows : List (List Int)) (w : World) (hR : RowsAt w A rows) (hm : rows.length ≤ 160) (hms : ∀ r ∈ rows, r.length ≤ 1000)
  (ha : 0 ≤ a) (ha' : a ≤ rows.length) (hv : 0 ≤ v) (hv' : v ≤ 1000) (hh : 0 ≤ h) (hh' : h ≤ 1000) :
  Calls Tryz.prog 178 #[.agg #[.int .i64 a], .int .i64 p, .agg #[.int .i64 v, .int .i64 h, .slice A rows.length cap]] w fun e w' =>
   ∃ u, e = .returned (.agg #[.int .i64 v, .int .i64 h, u]) ∧ OwnRows w' w.heap.size u (insAt rows a.toNat (List.replicate (v + h).toNat 0)) ∧ Below w.heap.size w w' := by
 have HM := Lib.hid (show rows.length ≤ 1048576 by omega)
 have HMS := Lib.hid (show ∀ r ∈ rows, r.length ≤ 1048576 from fun r hr => by have := hms r hr; omega)
 go_enter Tryz.func178, Tryz.ntmps178
 go_wp2_with fail
 refine (copy_any _ _ _ _ _ _ (hR.ext (((Below.refl _ _).alloc (by simp) _ |>.alloc (by simp) _).alloc (by simp <;> omega) _)) HM.out HMS.out).mono ?_
 rintro e w1 ⟨u, rfl, ⟨us, hu⟩, hb1⟩
 obtain ⟨gA, gcap, rfl, _, _, _⟩ := OwnRows.view ⟨us, hu⟩
 obtain ⟨q0, q1, q2⟩ := heap_at3 w (.cells #[.int .i64 a] 125) (.cells #[.int .i64 v, .int .i64 h, .slice A rows.length cap] 30) (.cells #[.int .i64 0, .int .i64 0, .slice none 0 0] 30)
 have hsz1 := hb1.size
 simp only [World.size_alloc] at hsz1
 go_upto_region 2 with (fail)
 obtain ⟨W2, hW2⟩ : ∃ W2, W2 = w1.alloc (.cells #[.int .i64 v, .int .i64 h, .slice gA rows.length gcap] 30) := ⟨_, rfl⟩
 rw [← hW2]
 have hb2 : Below w1.heap.size w1 W2 := by rw [hW2]; exact (Below.refl _ _).alloc (Nat.le_refl _) _
 have hsz2 : W2.heap.size = w1.heap.size + 1 := by rw [hW2]; simp
 have hb02 := hb1.trans (hb2.mono hb1.size)
 have m2 : W2.heap[w1.heap.size]? = some (.cells #[.int .i64 v, .int .i64 h, .slice gA rows.length gcap] 30 (0, 0)) := by rw [hW2]; exact heap_at _ _ rfl
 have k0 := boxb hb02 q0
 have k1 := boxb hb02 q1
 have k2 := boxb hb02 q2
 have hu2 : OwnRowsW W2 (w.heap.size + 3) (.slice gA rows.length gcap) rows us := (hu.ext hb2).mono (by simp)
 have hub : ∀ g', gA = some ⟨g', 0, none⟩ → g' < w1.heap.size := fun g' e => by subst e; exact (World.ownsRow.lt hu.outer g' rfl).2
 have hin : ∀ (k : Nat) (x : Value), us[k]? = some x → ∀ b, x.ownBlock = some b → b < w1.heap.size := fun k x hx b hb => by obtain ⟨r, _, ho⟩ := hu.getR hx; exact (ho.lt b hb).2
 have hb3 : Below w.heap.size w W2 := (below_alloc3 w _ _ _).trans (hb02.mono (by simp <;> omega))
 clear hu hb1 hb2 hb02 hR hms q0 q1 q2 hW2
 have x0 := blk_cell k0 0
 have x1 := blk_cell k1 0
 have x2 := blk_cell k1 1
 have x3 := blk_cell k1 2
 have x4 := blk_cell m2 2
 simp only [List.getElem?_cons_zero, List.getElem?_cons_succ] at x0 x1 x2 x3 x4
 have HU := Lib.hid hu2; have HB := Lib.hid hb3
 have K2 := Lib.hid k2; have M2 := Lib.hid m2; have HUB := Lib.hid hub
 clear hu2 hb3 hub hin k0 k1 k2 m2
 refine wp_region_T (S := fun w' => w'.cell? ⟨w.heap.size, 0, none⟩ = some (.int .i64 a) ∧ w'.cell? ⟨w.heap.size + 1, 0, none⟩ = some (.int .i64 v) ∧ w'.cell? ⟨w.heap.size + 1, 1, none⟩ = some (.int .i64 h) ∧ w'.cell? ⟨w.heap.size + 1, 2, none⟩ = some (.slice A rows.length cap) ∧ w'.cell? ⟨w1.heap.size, 2, none⟩ = some (.slice gA rows.length gcap)) 10 (by kernel_rfl) (by simp [*]) (fun hHeld => ?_)
 refine takeQ 0 (v := ?_) rfl (Or.inl ⟨by rfl, ?_⟩) ?_
 rotate_left
 ·intro w h; (try dsimp only at h); go_simp; (try with_reducible rfl)
 simp only [Act.put, List.setIfInBounds_toArray, List.set_cons_zero, List.set_cons_succ]
 refine takeQ 1 (v := ?_) rfl (Or.inl ⟨by rfl, ?_⟩) ?_
 rotate_left
 ·intro w h; (try dsimp only at h); go_simp; (try with_reducible rfl)
 simp only [Act.put, List.setIfInBounds_toArray, List.set_cons_zero, List.set_cons_succ]
 refine takeQ 2 (v := ?_) rfl (Or.inl ⟨by rfl, ?_⟩) ?_
 rotate_left
 ·intro w h; (try dsimp only at h); go_simp; (try with_reducible rfl)
 simp only [Act.put, List.setIfInBounds_toArray, List.set_cons_zero, List.set_cons_succ]
 refine takeQ 3 (v := ?_) rfl (Or.inl ⟨by rfl, ?_⟩) ?_
 rotate_left
 ·intro w h; (try dsimp only at h); go_simp; (try with_reducible rfl)
 simp only [Act.put, List.setIfInBounds_toArray, List.set_cons_zero, List.set_cons_succ]
 refine takeQ 4 (v := ?_) rfl (Or.inl ⟨by rfl, ?_⟩) ?_
 rotate_left
 ·intro w h; (try dsimp only at h); go_simp; (try with_reducible rfl)
 simp only [Act.put, List.setIfInBounds_toArray, List.set_cons_zero, List.set_cons_succ]
 have HS2 : ∀ wx, Below W2.heap.size W2 wx → (fun w' : World => w'.cell? ⟨w.heap.size, 0, none⟩ = some (.int .i64 a) ∧ w'.cell? ⟨w.heap.size + 1, 0, none⟩ = some (.int .i64 v) ∧ w'.cell? ⟨w.heap.size + 1, 1, none⟩ = some (.int .i64 h) ∧ w'.cell? ⟨w.heap.size + 1, 2, none⟩ = some (.slice A rows.length cap) ∧ w'.cell? ⟨w1.heap.size, 2, none⟩ = some (.slice gA rows.length gcap)) wx := fun wx hb =>
  ⟨ext_cell hb x0, ext_cell hb x1, ext_cell hb x2, ext_cell hb x3, ext_cell hb x4⟩
 refine oneT (i := 5) (by kernel_rfl) rfl (fun K hK => ?_)
 go_simp
 refine (size_any v h _ _ hv hv' hh hh').mono ?_
 rintro e wa ⟨rfl, hba⟩
 have hba : Below W2.heap.size W2 wa := (Below.refl _ _).drew.trans hba
 go_simp
 refine hK.out _ _ (fun _ => HS2 wa hba) (fun hHeld => ?_)
 clear hK K
 try simp only [Act.put, List.setIfInBounds_toArray, List.set_cons_zero, List.set_cons_succ]
 have hHeld := hHeld (by decide)
 refine oneT (i := 6) (by kernel_rfl) rfl (fun K hK => ?_)
 go_simp
 obtain ⟨nz, hnz⟩ : ∃ nz : Nat, v + h = nz := ⟨(v + h).toNat, by omega⟩
 have HNZ := Lib.hid hnz
 rw [hnz]
 clear hnz
 refine (zeros_any nz _ (by have := HNZ.out; omega)).mono ?_
 rintro e wb ⟨uz, rfl, hz, hbb⟩
 have hbb : Below W2.heap.size W2 wb := hba.trans (hbb.mono hba.size)
 have hz := hz.mono hba.size
 obtain ⟨Az, cz, hzv, _⟩ := hz.view
 try simp only [List.length_replicate] at hzv
 subst hzv
 dsimp only
 refine hK.out _ _ (fun _ => HS2 wb hbb) (fun hHeld => ?_)
 clear hK K
 try simp only [Act.put, List.setIfInBounds_toArray, List.set_cons_zero, List.set_cons_succ]
 have hHeld := hHeld (by decide)
 have HZ := Lib.hid hz
 clear hz
 refine oneT (i := 7) (by kernel_rfl) rfl (fun K hK => ?_)
 go_simp
 have hbc : Below W2.heap.size W2 (wb.alloc (.cells #[.slice Az nz cz] 25)) := hbb.alloc hbb.size _
 refine hK.out _ _ (fun _ => HS2 _ hbc) (fun hHeld => ?_)
 clear hK K
 try simp only [Act.put, List.setIfInBounds_toArray, List.set_cons_zero, List.set_cons_succ]
 have hHeld := hHeld (by decide)
 refine oneT (i := 8) (by kernel_rfl) rfl (fun K hK => ?_)
 go_simp
 have hszb := hbb.size
 have hOW := HU.out.ext hbc
 have hne : ∀ b, (Value.slice gA rows.length gcap).ownBlock = some b → w.heap.size + 3 ≤ b ∧ b < w1.heap.size := fun b hb => ⟨(World.ownsRow.lt HU.out.outer b hb).1, by
  rcases HU.out.outer.2 with ⟨h1, _⟩ | ⟨g', cap', cur', h1, _⟩
  ·rw [h1] at hb; cases hb
  ·rw [h1] at hb; cases hb; exact HUB.out g' (by simp only [Value.slice.injEq] at h1; exact h1.1)⟩
 refine (insertRows_any (w.heap.size + 3) rows.length wb.heap.size a (.slice gA rows.length gcap) us (.slice Az nz cz) _ hOW.outer (own_one hOW) rfl (heap_at _ _ rfl) (fun e => by have := hne _ e; omega) ha ha' (by omega) (by simp <;> omega)).mono ?_
 rintro e wr ⟨g, gcap2, rfl, hown, hgr, _⟩
 dsimp only
 have hgb : ∀ p : Addr, p.block = w.heap.size ∨ p.block = w.heap.size + 1 ∨ p.block = w1.heap.size → ∀ x, (wb.alloc (.cells #[.slice Az nz cz] 25)).cell? p = some x → wr.cell? p = some x := fun p hp x hx => hgr.cell hx (fun e => by
  have := hne _ e.symm
  rcases hp with hp | hp | hp <;> omega)
 refine hK.out _ _ (fun _ => ⟨hgb _ (Or.inl rfl) _ hHeld.1, hgb _ (Or.inr (Or.inl rfl)) _ hHeld.2.1, hgb _ (Or.inr (Or.inl rfl)) _ hHeld.2.2.1, hgb _ (Or.inr (Or.inl rfl)) _ hHeld.2.2.2.1, hgb _ (Or.inr (Or.inr rfl)) _ hHeld.2.2.2.2⟩) (fun hHeld => ?_)
 clear hK K
 try simp only [Act.put, List.setIfInBounds_toArray, List.set_cons_zero, List.set_cons_succ]
 have hHeld := hHeld (by decide)
 refine oneT (i := 9) (by kernel_rfl) rfl (fun K hK => ?_)
 go_simp
 refine hK.out _ _ (fun _ => hHeld) (fun hHeld => ?_)
 clear hK K
 try simp only [Act.put, List.setIfInBounds_toArray, List.set_cons_zero, List.set_cons_succ]
 have hF : wr.heap[w1.heap.size]? = _ := (hgr.block w1.heap.size (by simp <;> omega) (fun e => by have := hne _ e.symm; omega)).trans ((hbc.block w1.heap.size (by omega)).trans M2.out)
 have HF := Lib.hid hF
 have f2 := blk_free hF 2
 have c2 := blk_cell hF 2
 simp only [List.getElem?_cons_zero, List.getElem?_cons_succ] at c2
 clear hF hgb hHeld
 refine oneT (i := 10) (by kernel_rfl) rfl (fun K hK => ?_)
 go_simp
 refine hK.out _ _ (fun h => absurd h (by decide)) (fun _ => ?_)
 clear hK K
 try simp only [Act.put, List.setIfInBounds_toArray, List.set_cons_zero, List.set_cons_succ]
 refine doneT (by kernel_rfl) ?_ _
 have m2w := heap_setCell_same wr w1.heap.size 2 _ _ (.slice (some ⟨g, 0, none⟩) (rows.length + 1) gcap2) HF.out
 simp only [List.setIfInBounds_toArray, List.set_cons_zero, List.set_cons_succ] at m2w
 have k2w := (heap_setCell_other wr ⟨w1.heap.size, 2, none⟩ (w.heap.size + 1 + 1) (.slice (some ⟨g, 0, none⟩) (rows.length + 1) gcap2) (by simp <;> omega)).trans ((hgr.block _ (by simp <;> omega) (fun e => by have := hne _ e.symm; omega)).trans ((hbc.block _ (by omega)).trans K2.out))
 have hW := HU.out.insert hbc (HZ.out.ext ((Below.refl _ _).alloc (Nat.le_refl _) _)) (by omega) (by omega) hown hgr
 have HO := Lib.hid (show OwnRows _ (w.heap.size + 3) _ _ from ⟨_, hW.setSys HF.out (j := 2) (u := .slice (some ⟨g, 0, none⟩) (rows.length + 1) gcap2)⟩)
 have HE := Lib.hid ((Below.grown (HB.out.trans (hbc.mono (by omega))) hgr (by simp <;> omega) fun b hb => by have := hne b hb; omega).setCell (p := ⟨w1.heap.size, 2, none⟩) (by simp <;> omega) (.slice (some ⟨g, 0, none⟩) (rows.length + 1) gcap2))
 clear hW c2 f2 x0 x4 hgr hown hbb hbc hOW hne
 rw [show List.replicate nz (0 : Int) = List.replicate (v + h).toNat 0 by rw [HNZ.out]; rfl] at HO
 have e0 := blk_cell m2w 0
 have e1 := blk_cell m2w 1
 have e2 := blk_cell m2w 2
 have e3 := blk_cell k2w 0
 have e4 := blk_cell k2w 1
 have e5 := blk_cell k2w 2
 have e6 := blk_free k2w 0
 have e7 := blk_free k2w 1
 have e8 := blk_free k2w 2
 simp only [List.getElem?_cons_zero, List.getElem?_cons_succ] at e0 e1 e2 e3 e4 e5
 clear m2w k2w
 go_wp2
 refine bodyPost_ret (v := .agg #[.int .i64 v, .int .i64 h, .slice (some ⟨g, 0, none⟩) (rows.length + 1) gcap2]) (by simp [results, Tryz.results178, go_sem, *]) rfl ⟨_, rfl, ?_, ?_⟩
 ·exact (((HO.out.setCell (by simp <;> omega) _).setCell (by simp <;> omega) _).setCell (by simp <;> omega) _).mono (by omega)
 ·exact ((HE.out.setCell (by simp <;> omega) _).setCell (by simp <;> omega) _).setCell (by simp <;> omega) _
set_option maxHeartbeats 2000000 in
theorem forgetDo_any (b p v h : Int) (A : Option Addr) (cap : Nat) (rows : List (List Int)) (w : World) (hR : RowsAt w A rows) (hm : rows.length ≤ 160) (hms : ∀ r ∈ rows, r.length ≤ 1000)
  (hv : 0 ≤ v) (hv' : v ≤ 1000) (hb : 0 ≤ b) (hb' : b ≤ 1000) (hh : 1 ≤ h) (hh' : h ≤ 1000) (hlen : ∀ r ∈ rows, v + b < r.length) :
  Calls Tryz.prog 202 #[.agg #[.int .i64 b], .int .i64 p, .agg #[.int .i64 v, .int .i64 h, .slice A rows.length cap]] w fun e w' =>
   ∃ u, e = .returned (.agg #[.int .i64 v, .int .i64 (h - 1), u]) ∧ OwnRows w' w.heap.size u (rows.map (fun r => r.eraseIdx (v + b).toNat)) ∧ Below w.heap.size w w' := by
 have HLEN := Lib.hid hlen
 clear hlen
 have HMS := Lib.hid hms
 go_enter Tryz.func202, Tryz.ntmps202
 go_wp2_with fail
 refine (without_any b v h A cap rows _ (hR.ext (below_alloc3 w _ _ _)) hm HMS.out hv hv' hb hb' hh hh' HLEN.out).mono ?_
 rintro e w1 ⟨u, rfl, hou, hb1⟩
 obtain ⟨gA, gcap, hgv, _, _, _⟩ := OwnRows.view hou
 simp only [List.length_map] at hgv
 subst hgv
 obtain ⟨q0, q1, q2⟩ := heap_at3 w (.cells #[.int .i64 b] 130) (.cells #[.int .i64 v, .int .i64 h, .slice A rows.length cap] 30) (.cells #[.int .i64 0, .int .i64 0, .slice none 0 0] 30)
 have hsz1 := hb1.size
 simp only [World.size_alloc] at hsz1
 have k2w := boxb hb1 q2
 have e3 := blk_cell k2w 0
 have e4 := blk_cell k2w 1
 have e5 := blk_cell k2w 2
 have e6 := blk_free k2w 0
 have e7 := blk_free k2w 1
 have e8 := blk_free k2w 2
 simp only [List.getElem?_cons_zero, List.getElem?_cons_succ] at e3 e4 e5
 have HO := Lib.hid (hou.mono (B' := w.heap.size + 3) (by simp))
 have HE := Lib.hid ((below_alloc3 w _ _ _).trans (hb1.mono (B' := w.heap.size) (by simp <;> omega)))
 clear hou hb1 q0 q1 q2 k2w
 go_wp2
 refine bodyPost_ret (v := .agg #[.int .i64 v, .int .i64 (h - 1), .slice gA rows.length gcap]) (by simp [results, Tryz.results202, go_sem, *]) rfl ⟨_, rfl, ?_, ?_⟩
 ·exact (((HO.out.setCell (by simp <;> omega) _).setCell (by simp <;> omega) _).setCell (by simp <;> omega) _).mono (by omega)
 ·exact ((HE.out.setCell (by simp <;> omega) _).setCell (by simp <;> omega) _).setCell (by simp <;> omega) _
set_option maxHeartbeats 2000000 in
theorem inventDo_any (b p v h : Int) (A : Option Addr) (cap : Nat) (rows : List (List Int)) (w : World) (hR : RowsAt w A rows) (hm : rows.length ≤ 160) (hms : ∀ r ∈ rows, r.length ≤ 1000)
  (hv : 0 ≤ v) (hv' : v ≤ 1000) (hb : 0 ≤ b) (hb' : b ≤ 1000) (hh : 0 ≤ h) (hh' : h ≤ 1000) (hlen : ∀ r ∈ rows, v + b ≤ r.length) :
  Calls Tryz.prog 205 #[.agg #[.int .i64 b], .int .i64 p, .agg #[.int .i64 v, .int .i64 h, .slice A rows.length cap]] w fun e w' =>
   ∃ u, e = .returned (.agg #[.int .i64 v, .int .i64 (h + 1), u]) ∧ OwnRows w' w.heap.size u (rows.map (fun r => insAt r (v + b).toNat 0)) ∧ Below w.heap.size w w' := by
 have HLEN := Lib.hid hlen
 clear hlen
 have HMS := Lib.hid hms
 go_enter Tryz.func205, Tryz.ntmps205
 go_wp2_with fail
 refine (with_any b v h A cap rows _ (hR.ext (below_alloc3 w _ _ _)) hm HMS.out hv hv' hb hb' hh hh' HLEN.out).mono ?_
 rintro e w1 ⟨u, rfl, hou, hb1⟩
 obtain ⟨gA, gcap, hgv, _, _, _⟩ := OwnRows.view hou
 simp only [List.length_map] at hgv
 subst hgv
 obtain ⟨q0, q1, q2⟩ := heap_at3 w (.cells #[.int .i64 b] 131) (.cells #[.int .i64 v, .int .i64 h, .slice A rows.length cap] 30) (.cells #[.int .i64 0, .int .i64 0, .slice none 0 0] 30)
 have hsz1 := hb1.size
 simp only [World.size_alloc] at hsz1
 have k2w := boxb hb1 q2
 have e3 := blk_cell k2w 0
 have e4 := blk_cell k2w 1
 have e5 := blk_cell k2w 2
 have e6 := blk_free k2w 0
 have e7 := blk_free k2w 1
 have e8 := blk_free k2w 2
 simp only [List.getElem?_cons_zero, List.getElem?_cons_succ] at e3 e4 e5
 have HO := Lib.hid (hou.mono (B' := w.heap.size + 3) (by simp))
 have HE := Lib.hid ((below_alloc3 w _ _ _).trans (hb1.mono (B' := w.heap.size) (by simp <;> omega)))
 clear hou hb1 q0 q1 q2 k2w
 go_wp2
 refine bodyPost_ret (v := .agg #[.int .i64 v, .int .i64 (h + 1), .slice gA rows.length gcap]) (by simp [results, Tryz.results205, go_sem, *]) rfl ⟨_, rfl, ?_, ?_⟩
 ·exact (((HO.out.setCell (by simp <;> omega) _).setCell (by simp <;> omega) _).setCell (by simp <;> omega) _).mono (by omega)
 ·exact ((HE.out.setCell (by simp <;> omega) _).setCell (by simp <;> omega) _).setCell (by simp <;> omega) _
set_option maxHeartbeats 2000000 in
theorem solveDo_any (a b p v h : Int) (A : Option Addr) (cap : Nat) (rows : List (List Int)) (w : World) (hR : RowsAt w A rows) (hm : rows.length ≤ 160) (hms : ∀ r ∈ rows, r.length ≤ 1000)
  (ha : 0 ≤ a) (ha' : a < rows.length) (hv : 0 ≤ v) (hv' : v ≤ 1000) (hb : 0 ≤ b) (hb' : b ≤ 1000) (hh : 1 ≤ h) (hh' : h ≤ 1000) (hlen : ∀ r ∈ rows, v + b < r.length) :
  Calls Tryz.prog 186 #[.agg #[.int .i64 a, .int .i64 b], .int .i64 p, .agg #[.int .i64 v, .int .i64 h, .slice A rows.length cap]] w fun e w' =>
   ∃ u, e = .returned (.agg #[.int .i64 v, .int .i64 (h - 1), u]) ∧ OwnRows w' w.heap.size u ((rows.map (fun r => r.eraseIdx (v + b).toNat)).eraseIdx a.toNat) ∧ Below w.heap.size w w' := by
 have HLEN := Lib.hid hlen
 clear hlen
 have HMS := Lib.hid hms
 go_enter Tryz.func186, Tryz.ntmps186
 go_wp2_with fail
 refine (without_any b v h A cap rows _ (hR.ext (below_alloc3 w _ _ _)) hm HMS.out hv hv' hb hb' hh hh' HLEN.out).mono ?_
 rintro e w1 ⟨u, rfl, hou, hb1⟩
 obtain ⟨rows1, hr1⟩ : ∃ rows1, rows1 = rows.map (fun r => r.eraseIdx (v + b).toNat) := ⟨_, rfl⟩
 rw [← hr1] at hou
 have HL1 := Lib.hid (show rows1.length = rows.length by rw [hr1]; simp)
 have HR1 := Lib.hid hr1
 clear hr1
 obtain ⟨us, hu⟩ := hou
 obtain ⟨gA, gcap, rfl, _, _, _⟩ := OwnRows.view ⟨us, hu⟩
 obtain ⟨q0, q1, q2⟩ := heap_at3 w (.cells #[.int .i64 a, .int .i64 b] 126) (.cells #[.int .i64 v, .int .i64 h, .slice A rows.length cap] 30) (.cells #[.int .i64 0, .int .i64 0, .slice none 0 0] 30)
 have hsz1 := hb1.size
 simp only [World.size_alloc] at hsz1
 go_upto_region 2 with (fail)
 obtain ⟨W2, hW2⟩ : ∃ W2, W2 = w1.alloc (.cells #[.int .i64 v, .int .i64 (h - 1), .slice gA rows1.length gcap] 30) := ⟨_, rfl⟩
 rw [← hW2]
 have hb2 : Below w1.heap.size w1 W2 := by rw [hW2]; exact (Below.refl _ _).alloc (Nat.le_refl _) _
 have hsz2 : W2.heap.size = w1.heap.size + 1 := by rw [hW2]; simp
 have hb02 := hb1.trans (hb2.mono hb1.size)
 have m2 : W2.heap[w1.heap.size]? = some (.cells #[.int .i64 v, .int .i64 (h - 1), .slice gA rows1.length gcap] 30 (0, 0)) := by rw [hW2]; exact heap_at _ _ rfl
 have k0 := boxb hb02 q0
 have k1 := boxb hb02 q1
 have k2 := boxb hb02 q2
 have hu2 : OwnRowsW W2 (w.heap.size + 3) (.slice gA rows1.length gcap) rows1 us := (hu.ext hb2).mono (by simp)
 have hub : ∀ g', gA = some ⟨g', 0, none⟩ → g' < w1.heap.size := fun g' e => by subst e; exact (World.ownsRow.lt hu.outer g' rfl).2
 have hb3 : Below w.heap.size w W2 := (below_alloc3 w _ _ _).trans (hb02.mono (by simp <;> omega))
 clear hu hb1 hb2 hb02 hms q0 q1 q2 hW2
 obtain ⟨g, hgv, hgB, hgl⟩ : ∃ g, gA = some ⟨g, 0, none⟩ ∧ w.heap.size + 3 ≤ g ∧ g < W2.heap.size := own_at hu2 (by have := HL1.out; omega)
 subst hgv
 have hgu := hub g rfl
 have x0 := blk_cell k0 0
 have x2 := blk_cell m2 2
 simp only [List.getElem?_cons_zero, List.getElem?_cons_succ] at x0 x2
 have HU := Lib.hid hu2; have HB := Lib.hid hb3
 have K2 := Lib.hid k2; have M2 := Lib.hid m2
 clear hu2 hb3 hub k0 k1 k2 m2 hR
 go_upto_region 3 with (go_at_call 175; refine (deleteRows_any (w.heap.size + 3) g rows1.length gcap a us _ HU.out.outer (own_one HU.out) ha (by have := HL1.out; omega) (by have := HL1.out; omega)).mono ?_; rintro e wr ⟨rfl, hown, hgr⟩; have hF := (hgr.block w1.heap.size (by omega) (by simp; omega)).trans M2.out; have HG := Lib.hid hgr; have HO := Lib.hid hown; have f2 := blk_free hF 2; have c2 := blk_cell hF 2; simp only [List.getElem?_cons_zero, List.getElem?_cons_succ] at c2; have HF := Lib.hid hF; clear hF hgr hown)
 have m2w := heap_setCell_same wr w1.heap.size 2 _ _ (.slice (some ⟨g, 0, none⟩) (rows1.length - 1) gcap) HF.out
 simp only [List.setIfInBounds_toArray, List.set_cons_zero, List.set_cons_succ] at m2w
 have k2w := (heap_setCell_other wr ⟨w1.heap.size, 2, none⟩ (w.heap.size + 1 + 1) (.slice (some ⟨g, 0, none⟩) (rows1.length - 1) gcap) (by simp <;> omega)).trans ((HG.out.block _ (by omega) (by simp; omega)).trans K2.out)
 have hW := HU.out.erase (by have := HL1.out; omega) HO.out HG.out
 have hso := hW.setSys HF.out (j := 2) (u := .slice (some ⟨g, 0, none⟩) (rows1.length - 1) gcap)
 rw [show rows1.eraseIdx a.toNat = (rows.map (fun r => r.eraseIdx (v + b).toNat)).eraseIdx a.toNat by rw [HR1.out]] at hso
 have HO := Lib.hid (show OwnRows _ (w.heap.size + 3) _ _ from ⟨_, hso⟩)
 have HE := Lib.hid ((HB.out.grown HG.out (by omega) fun b hb => by cases hb; omega).setCell (p := ⟨w1.heap.size, 2, none⟩) (by simp <;> omega) (.slice (some ⟨g, 0, none⟩) (rows1.length - 1) gcap))
 clear hW hso c2 f2 x0 x2
 have e0 := blk_cell m2w 0
 have e1 := blk_cell m2w 1
 have e2 := blk_cell m2w 2
 have e3 := blk_cell k2w 0
 have e4 := blk_cell k2w 1
 have e5 := blk_cell k2w 2
 have e6 := blk_free k2w 0
 have e7 := blk_free k2w 1
 have e8 := blk_free k2w 2
 simp only [List.getElem?_cons_zero, List.getElem?_cons_succ] at e0 e1 e2 e3 e4 e5
 clear m2w k2w
 go_wp2
 refine bodyPost_ret (v := .agg #[.int .i64 v, .int .i64 (h - 1), .slice (some ⟨g, 0, none⟩) (rows1.length - 1) gcap]) (by simp [results, Tryz.results186, go_sem, *]) rfl ⟨_, rfl, ?_, ?_⟩
 ·exact (((HO.out.setCell (by simp <;> omega) _).setCell (by simp <;> omega) _).setCell (by simp <;> omega) _).mono (by omega)
 ·exact ((HE.out.setCell (by simp <;> omega) _).setCell (by simp <;> omega) _).setCell (by simp <;> omega) _
set_option maxHeartbeats 4000000 in
theorem bringDo_any (a b p v h : Int) (A A2 : Option Addr) (cap cap2 : Nat) (xs : List Int) (rows : List (List Int)) (w : World) (hR : RowsAt w A rows) (hm : rows.length ≤ 160) (hms : ∀ r ∈ rows, r.length ≤ 1000)
  (hX : IntsAt w A2 xs) (hxm : xs.length ≤ 1000)
  (ha : 0 ≤ a) (ha' : a ≤ rows.length) (hv : 0 ≤ v) (hv' : v ≤ 1000) (hb : 0 ≤ b) (hb' : b ≤ 1000) (hh : 0 ≤ h) (hh' : h ≤ 1000) (hlen : ∀ r ∈ rows, v + b ≤ r.length) :
  Calls Tryz.prog 193 #[.agg #[.int .i64 a, .int .i64 b, .slice A2 xs.length cap2], .int .i64 p, .agg #[.int .i64 v, .int .i64 h, .slice A rows.length cap]] w fun e w' =>
   ∃ u, e = .returned (.agg #[.int .i64 v, .int .i64 (h + 1), u]) ∧ OwnRows w' w.heap.size u (insAt (rows.map (fun r => insAt r (v + b).toNat 0)) a.toNat xs) ∧ Below w.heap.size w w' := by
 have HLEN := Lib.hid hlen
 have HX := Lib.hid hX
 clear hlen hX
 have HMS := Lib.hid hms
 go_enter Tryz.func193, Tryz.ntmps193
 go_wp2_with fail
 refine (with_any b v h A cap rows _ (hR.ext (below_alloc3 w _ _ _)) hm HMS.out hv hv' hb hb' hh hh' HLEN.out).mono ?_
 rintro e w1 ⟨u, rfl, hou, hb1⟩
 obtain ⟨rows1, hr1⟩ : ∃ rows1, rows1 = rows.map (fun r => insAt r (v + b).toNat 0) := ⟨_, rfl⟩
 rw [← hr1] at hou
 have HL1 := Lib.hid (show rows1.length = rows.length by rw [hr1]; simp)
 have HR1 := Lib.hid hr1
 clear hr1
 obtain ⟨us, hu⟩ := hou
 obtain ⟨gA, gcap, rfl, _, _, _⟩ := OwnRows.view ⟨us, hu⟩
 obtain ⟨q0, q1, q2⟩ := heap_at3 w (.cells #[.int .i64 a, .int .i64 b, .slice A2 xs.length cap2] 128) (.cells #[.int .i64 v, .int .i64 h, .slice A rows.length cap] 30) (.cells #[.int .i64 0, .int .i64 0, .slice none 0 0] 30)
 have hsz1 := hb1.size
 simp only [World.size_alloc] at hsz1
 go_upto_region 2 with (fail)
 obtain ⟨W2, hW2⟩ : ∃ W2, W2 = w1.alloc (.cells #[.int .i64 v, .int .i64 (h + 1), .slice gA rows1.length gcap] 30) := ⟨_, rfl⟩
 rw [← hW2]
 have hb2 : Below w1.heap.size w1 W2 := by rw [hW2]; exact (Below.refl _ _).alloc (Nat.le_refl _) _
 have hsz2 : W2.heap.size = w1.heap.size + 1 := by rw [hW2]; simp
 have hb02 := hb1.trans (hb2.mono hb1.size)
 have m2 : W2.heap[w1.heap.size]? = some (.cells #[.int .i64 v, .int .i64 (h + 1), .slice gA rows1.length gcap] 30 (0, 0)) := by rw [hW2]; exact heap_at _ _ rfl
 have k0 := boxb hb02 q0
 have k1 := boxb hb02 q1
 have k2 := boxb hb02 q2
 have hu2 : OwnRowsW W2 (w.heap.size + 3) (.slice gA rows1.length gcap) rows1 us := (hu.ext hb2).mono (by simp)
 have hub : ∀ g', gA = some ⟨g', 0, none⟩ → g' < w1.heap.size := fun g' e => by subst e; exact (World.ownsRow.lt hu.outer g' rfl).2
 have hb3 : Below w.heap.size w W2 := (below_alloc3 w _ _ _).trans (hb02.mono (by simp <;> omega))
 clear hu hb1 hb2 hb02 hms q0 q1 q2 hW2
 have ha1 : a ≤ rows1.length := by have := HL1.out; omega
 have hm1 : rows1.length ≤ 160 := by have := HL1.out; omega
 have x0 := blk_cell k0 0
 have x1 := blk_cell k0 2
 have x4 := blk_cell m2 2
 simp only [List.getElem?_cons_zero, List.getElem?_cons_succ] at x0 x1 x4
 have HU := Lib.hid hu2; have HB := Lib.hid hb3
 have K2 := Lib.hid k2; have M2 := Lib.hid m2; have HUB := Lib.hid hub
 clear hu2 hb3 hub k0 k1 k2 m2 hR
 refine wp_region_T (S := fun w' => w'.cell? ⟨w.heap.size, 0, none⟩ = some (.int .i64 a) ∧ w'.cell? ⟨w.heap.size, 2, none⟩ = some (.slice A2 xs.length cap2) ∧ w'.cell? ⟨w1.heap.size, 2, none⟩ = some (.slice gA rows1.length gcap)) 10 (by kernel_rfl) ⟨x0, x1, x4⟩ (fun hHeld => ?_)
 refine takeQ 0 (v := ?_) rfl (Or.inl ⟨by rfl, ?_⟩) ?_
 rotate_left
 ·intro w h; (try dsimp only at h); go_simp; (try with_reducible rfl)
 simp only [Act.put, List.setIfInBounds_toArray, List.set_cons_zero, List.set_cons_succ]
 refine takeQ 1 (v := ?_) rfl (Or.inl ⟨by rfl, ?_⟩) ?_
 rotate_left
 ·intro w h; (try dsimp only at h); go_simp; (try with_reducible rfl)
 simp only [Act.put, List.setIfInBounds_toArray, List.set_cons_zero, List.set_cons_succ]
 refine takeQ 2 (v := ?_) rfl (Or.inl ⟨by rfl, ?_⟩) ?_
 rotate_left
 ·intro w h; (try dsimp only at h); go_simp; (try with_reducible rfl)
 simp only [Act.put, List.setIfInBounds_toArray, List.set_cons_zero, List.set_cons_succ]
 refine takeQ 3 (v := ?_) rfl (Or.inl ⟨by rfl, ?_⟩) ?_
 rotate_left
 ·intro w h; (try dsimp only at h); go_simp; (try with_reducible rfl)
 simp only [Act.put, List.setIfInBounds_toArray, List.set_cons_zero, List.set_cons_succ]
 refine takeQ 4 (v := ?_) rfl (Or.inl ⟨by rfl, ?_⟩) ?_
 rotate_left
 ·intro w h; (try dsimp only at h); go_simp; (try with_reducible rfl)
 simp only [Act.put, List.setIfInBounds_toArray, List.set_cons_zero, List.set_cons_succ]
 refine takeQ 5 (v := ?_) rfl (Or.inl ⟨by rfl, ?_⟩) ?_
 rotate_left
 ·intro w h; (try dsimp only at h); go_simp; (try with_reducible rfl)
 simp only [Act.put, List.setIfInBounds_toArray, List.set_cons_zero, List.set_cons_succ]
 have HS2 : ∀ wx, Below W2.heap.size W2 wx → (fun w' : World => w'.cell? ⟨w.heap.size, 0, none⟩ = some (.int .i64 a) ∧ w'.cell? ⟨w.heap.size, 2, none⟩ = some (.slice A2 xs.length cap2) ∧ w'.cell? ⟨w1.heap.size, 2, none⟩ = some (.slice gA rows1.length gcap)) wx := fun wx hb =>
  ⟨ext_cell hb x0, ext_cell hb x1, ext_cell hb x4⟩
 refine oneT (i := 6) (by kernel_rfl) rfl (fun K hK => ?_)
 go_simp
 refine (clone_any A2 cap2 xs _ ((HX.out.ext HB.out).ext (Below.refl _ _).drew) (by omega)).mono ?_
 rintro e wb ⟨uz, rfl, hz, hbb⟩
 have hbb : Below W2.heap.size W2 wb := (Below.refl _ _).drew.trans hbb
 obtain ⟨Az, cz, hzv, _⟩ := hz.view
 try simp only [List.length_replicate] at hzv
 subst hzv
 dsimp only
 refine hK.out _ _ (fun _ => HS2 wb hbb) (fun hHeld => ?_)
 clear hK K
 try simp only [Act.put, List.setIfInBounds_toArray, List.set_cons_zero, List.set_cons_succ]
 have hHeld := hHeld (by decide)
 have HZ := Lib.hid hz
 clear hz
 refine oneT (i := 7) (by kernel_rfl) rfl (fun K hK => ?_)
 go_simp
 have hbc : Below W2.heap.size W2 (wb.alloc (.cells #[.slice Az xs.length cz] 25)) := hbb.alloc hbb.size _
 refine hK.out _ _ (fun _ => HS2 _ hbc) (fun hHeld => ?_)
 clear hK K
 try simp only [Act.put, List.setIfInBounds_toArray, List.set_cons_zero, List.set_cons_succ]
 have hHeld := hHeld (by decide)
 refine oneT (i := 8) (by kernel_rfl) rfl (fun K hK => ?_)
 go_simp
 have hszb := hbb.size
 have hOW := HU.out.ext hbc
 have hne : ∀ b, (Value.slice gA rows1.length gcap).ownBlock = some b → w.heap.size + 3 ≤ b ∧ b < w1.heap.size := fun b hb => ⟨(World.ownsRow.lt HU.out.outer b hb).1, by
  rcases HU.out.outer.2 with ⟨h1, _⟩ | ⟨g', cap', cur', h1, _⟩
  ·rw [h1] at hb; cases hb
  ·rw [h1] at hb; cases hb; exact HUB.out g' (by simp only [Value.slice.injEq] at h1; exact h1.1)⟩
 refine (insertRows_any (w.heap.size + 3) rows1.length wb.heap.size a (.slice gA rows1.length gcap) us (.slice Az xs.length cz) _ hOW.outer (own_one hOW) rfl (heap_at _ _ rfl) (fun e => by have := hne _ e; omega) ha ha1 (by omega) (by simp <;> omega)).mono ?_
 rintro e wr ⟨g, gcap2, rfl, hown, hgr, _⟩
 dsimp only
 have hgb : ∀ p : Addr, p.block = w.heap.size ∨ p.block = w.heap.size + 1 ∨ p.block = w1.heap.size → ∀ x, (wb.alloc (.cells #[.slice Az xs.length cz] 25)).cell? p = some x → wr.cell? p = some x := fun p hp x hx => hgr.cell hx (fun e => by
  have := hne _ e.symm
  rcases hp with hp | hp | hp <;> omega)
 refine hK.out _ _ (fun _ => ⟨hgb _ (Or.inl rfl) _ hHeld.1, hgb _ (Or.inl rfl) _ hHeld.2.1, hgb _ (Or.inr (Or.inr rfl)) _ hHeld.2.2⟩) (fun hHeld => ?_)
 clear hK K
 try simp only [Act.put, List.setIfInBounds_toArray, List.set_cons_zero, List.set_cons_succ]
 have hHeld := hHeld (by decide)
 refine oneT (i := 9) (by kernel_rfl) rfl (fun K hK => ?_)
 go_simp
 refine hK.out _ _ (fun _ => hHeld) (fun hHeld => ?_)
 clear hK K
 try simp only [Act.put, List.setIfInBounds_toArray, List.set_cons_zero, List.set_cons_succ]
 have hF : wr.heap[w1.heap.size]? = _ := (hgr.block w1.heap.size (by simp <;> omega) (fun e => by have := hne _ e.symm; omega)).trans ((hbc.block w1.heap.size (by omega)).trans M2.out)
 have HF := Lib.hid hF
 have f2 := blk_free hF 2
 have c2 := blk_cell hF 2
 simp only [List.getElem?_cons_zero, List.getElem?_cons_succ] at c2
 clear hF hgb hHeld
 refine oneT (i := 10) (by kernel_rfl) rfl (fun K hK => ?_)
 go_simp
 refine hK.out _ _ (fun h => absurd h (by decide)) (fun _ => ?_)
 clear hK K
 try simp only [Act.put, List.setIfInBounds_toArray, List.set_cons_zero, List.set_cons_succ]
 refine doneT (by kernel_rfl) ?_ _
 have m2w := heap_setCell_same wr w1.heap.size 2 _ _ (.slice (some ⟨g, 0, none⟩) (rows1.length + 1) gcap2) HF.out
 simp only [List.setIfInBounds_toArray, List.set_cons_zero, List.set_cons_succ] at m2w
 have k2w := (heap_setCell_other wr ⟨w1.heap.size, 2, none⟩ (w.heap.size + 1 + 1) (.slice (some ⟨g, 0, none⟩) (rows1.length + 1) gcap2) (by simp <;> omega)).trans ((hgr.block _ (by simp <;> omega) (fun e => by have := hne _ e.symm; omega)).trans ((hbc.block _ (by omega)).trans K2.out))
 have hW := HU.out.insert hbc (HZ.out.ext ((Below.refl _ _).alloc (Nat.le_refl _) _)) (by omega) (by omega) hown hgr
 have HO := Lib.hid (show OwnRows _ (w.heap.size + 3) _ _ from ⟨_, hW.setSys HF.out (j := 2) (u := .slice (some ⟨g, 0, none⟩) (rows1.length + 1) gcap2)⟩)
 have HE := Lib.hid ((Below.grown (HB.out.trans (hbc.mono (by omega))) hgr (by simp <;> omega) fun b hb => by have := hne b hb; omega).setCell (p := ⟨w1.heap.size, 2, none⟩) (by simp <;> omega) (.slice (some ⟨g, 0, none⟩) (rows1.length + 1) gcap2))
 clear hW c2 f2 x0 x4 hgr hown hbb hbc hOW hne
 rw [show rows1.take a.toNat ++ xs :: rows1.drop a.toNat = insAt (rows.map (fun r => insAt r (v + b).toNat 0)) a.toNat xs by rw [HR1.out]; rfl] at HO
 have e0 := blk_cell m2w 0
 have e1 := blk_cell m2w 1
 have e2 := blk_cell m2w 2
 have e3 := blk_cell k2w 0
 have e4 := blk_cell k2w 1
 have e5 := blk_cell k2w 2
 have e6 := blk_free k2w 0
 have e7 := blk_free k2w 1
 have e8 := blk_free k2w 2
 simp only [List.getElem?_cons_zero, List.getElem?_cons_succ] at e0 e1 e2 e3 e4 e5
 clear m2w k2w
 go_wp2
 refine bodyPost_ret (v := .agg #[.int .i64 v, .int .i64 (h + 1), .slice (some ⟨g, 0, none⟩) (rows1.length + 1) gcap2]) (by simp [results, Tryz.results193, go_sem, *]) rfl ⟨_, rfl, ?_, ?_⟩
 ·exact (((HO.out.setCell (by simp <;> omega) _).setCell (by simp <;> omega) _).setCell (by simp <;> omega) _).mono (by omega)
 ·exact ((HE.out.setCell (by simp <;> omega) _).setCell (by simp <;> omega) _).setCell (by simp <;> omega) _
end Go.Proofs.YtjdbfokbgmbphaaGreatDoor
