/- A system with one hidden column more. Conditions: a system of moderate size; the column is there. -/
import Derived.Test.YtjdbfokbgmbphaaGreatDoorPk11
namespace Go.Proofs.YtjdbfokbgmbphaaGreatDoor
set_option linter.unusedVariables false
set_option linter.unusedSimpArgs false
open Go.RowKit
theorem frz' {w w' : World} {r : Option Nat} {a : Addr} {v : Value} (hg : w.grownBy w' r) (hf : w.frozen? a = false) (hc : w.cell? a = some v) (hne : some a.block ≠ r) : w'.frozen? a = false := by
 have h := hg.block a.block (World.block_lt_of_cell? w a hc) hne
 unfold World.frozen? at hf ⊢
 rw [h]; exact hf
theorem gcell' {w w' : World} {r : Option Nat} {a : Addr} {v : Value} (hg : w.grownBy w' r) (hc : w.cell? a = some v) (hne : some a.block ≠ r) : w'.cell? a = some v :=
 (World.cell?_of_block (w := w) (hg.block a.block (World.block_lt_of_cell? w a hc) hne)).trans hc
theorem block_of {w : World} {a : Addr} {v : Value} (h : w.cell? a = some v) : a.block < w.heap.size := World.block_lt_of_cell? w a h
set_option maxHeartbeats 4000000 in
theorem with_any (b v h : Int) (A : Option Addr) (cap : Nat) (rows : List (List Int)) (w : World) (hR : RowsAt w A rows) (hm : rows.length ≤ 160) (hms : ∀ r ∈ rows, r.length ≤ 1000)
  (hv : 0 ≤ v) (hv' : v ≤ 1000) (hb : 0 ≤ b) (hb' : b ≤ 1000) (hh : 0 ≤ h) (hh' : h ≤ 1000) (hlen : ∀ r ∈ rows, v + b ≤ r.length) :
  Calls Tryz.prog 195 #[.agg #[.int .i64 v, .int .i64 h, .slice A rows.length cap], .int .i64 b] w fun e w' =>
   ∃ u, e = .returned (.agg #[.int .i64 v, .int .i64 (h + 1), u]) ∧ OwnRows w' w.heap.size u (rows.map (fun r => insAt r (v + b).toNat 0)) ∧ Below w.heap.size w w' := by
 have HLEN := Lib.hid (show ∀ r ∈ rows, v + b ≤ r.length ∧ r.length ≤ 1000 from fun r hr => ⟨hlen r hr, hms r hr⟩)
 clear hlen
 have HM := Lib.hid (show rows.length ≤ 1048576 by omega)
 have HMS := Lib.hid (show ∀ r ∈ rows, r.length ≤ 1048576 from fun r hr => by have := hms r hr; omega)
 go_enter Tryz.func195, Tryz.ntmps195
 go_wp2_with fail
 refine (copy_any _ _ _ _ _ _ (hR.ext ((Below.refl _ _).alloc (by simp) _ |>.alloc (by simp) _)) HM.out HMS.out).mono ?_
 rintro e w1 ⟨u, rfl, ⟨us, hu⟩, hb1⟩
 obtain ⟨gA, gcap, rfl, _, _, _⟩ := OwnRows.view ⟨us, hu⟩
 have q1 : ((w.alloc (.cells #[.int .i64 v, .int .i64 h, .slice A rows.length cap] 30)).alloc (.cells #[.int .i64 0, .int .i64 0, .slice none 0 0] 30)).heap[w.heap.size]? = some (.cells #[.int .i64 v, .int .i64 h, .slice A rows.length cap] 30) := (heap_past _ _ (by simp)).trans (heap_at _ _ rfl)
 have q2 : ((w.alloc (.cells #[.int .i64 v, .int .i64 h, .slice A rows.length cap] 30)).alloc (.cells #[.int .i64 0, .int .i64 0, .slice none 0 0] 30)).heap[w.heap.size + 1]? = some (.cells #[.int .i64 0, .int .i64 0, .slice none 0 0] 30) := heap_at _ _ (by simp)
 have hsz1 := hb1.size
 simp only [World.size_alloc] at hsz1
 go_upto_region 2 with (fail)
 obtain ⟨W2, hW2⟩ : ∃ W2, W2 = w1.alloc (.cells #[.int .i64 v, .int .i64 h, .slice gA rows.length gcap] 30) := ⟨_, rfl⟩
 rw [← hW2]
 have hb2 : Below w1.heap.size w1 W2 := by rw [hW2]; exact (Below.refl _ _).alloc (Nat.le_refl _) _
 have hsz2 : W2.heap.size = w1.heap.size + 1 := by rw [hW2]; simp
 have hb02 := hb1.trans (hb2.mono hb1.size)
 have m2 : W2.heap[w1.heap.size]? = some (.cells #[.int .i64 v, .int .i64 h, .slice gA rows.length gcap] 30 (0, 0)) := by rw [hW2]; exact heap_at _ _ rfl
 have k1 := boxb hb02 q1
 have k2 := boxb hb02 q2
 have hu2 : OwnRowsW W2 (w.heap.size + 2) (.slice gA rows.length gcap) rows us := (hu.ext hb2).mono (by simp)
 have hb3 : Below w.heap.size w W2 := ((Below.refl w.heap.size w).alloc (by simp) _ |>.alloc (by simp) _).trans (hb02.mono (by simp <;> omega))
 clear hu hb1 hb2 hb02 hR hms q1 q2 hW2
 have x1 := blk_cell k1 0
 have x2 := blk_cell m2 2
 simp only [List.getElem?_cons_zero, List.getElem?_cons_succ] at x1 x2
 have HU := Lib.hid hu2; have HB := Lib.hid hb3
 have K1 := Lib.hid k1; have K2 := Lib.hid k2; have M2 := Lib.hid m2
 clear hu2 hb3 k1 k2 m2
 go_wp2
 go_loopw [13] (fun i wr => ∃ k : Nat, k ≤ rows.length ∧ i = .int .i64 k ∧ (∃ usk, OwnRowsW wr (w.heap.size + 2) (.slice gA rows.length gcap) (mapTo (fun r => insAt r (v + b).toNat 0) rows k) usk) ∧
   wr.heap[w1.heap.size]? = some (.cells #[.int .i64 v, .int .i64 h, .slice gA rows.length gcap] 30 (0, 0)) ∧ Below (w.heap.size + 2) W2 wr)
  (fun i _ => rows.length - (intOf i).toNat)
 case atStart => exact ⟨0, Nat.zero_le _, rfl, ⟨us, by rw [mapTo_zero]; exact HU.out⟩, M2.out, Below.refl _ _⟩
 case round =>
  obtain ⟨k, hk, rfl, ⟨usk, hown⟩, hm2, hbw⟩ := hrel
  by_cases hlt : k < rows.length
  ·obtain ⟨r, hr⟩ := get_of_lt hlt
   have hrk : (mapTo (fun r => insAt r (v + b).toNat 0) rows k)[k]? = some r := (mapTo_get _ _ _ hlt).trans hr
   obtain ⟨ur, hur, hor⟩ := hown.get hrk
   obtain ⟨hl1, hl2⟩ := HLEN.out r (List.mem_of_getElem? hr)
   obtain ⟨Ar, cr, rfl, _⟩ := hor.view
   have hgr1 : ∀ c, (Value.slice Ar r.length cr).ownBlock = some c → w.heap.size + 2 ≤ c ∧ c < wr.heap.size := hor.lt
   obtain ⟨g, rfl, hg1, hg2⟩ := own_at hown (by rw [mapTo_len _ _ _ hk]; omega)
   have hout := hown.outer
   rw [mapTo_len _ _ _ hk] at hout
   have z0 : wr.cell? ⟨g, k, none⟩ = some (.slice Ar r.length cr) := by rw [hout.cellAt _ (by omega), hur]
   have y1 : wr.cell? ⟨w.heap.size, 0, none⟩ = some (.int .i64 v) := (hbw.cell (by simp <;> omega)).trans x1
   have y2 : wr.cell? ⟨w1.heap.size, 2, none⟩ = some (.slice (some ⟨g, 0, none⟩) rows.length gcap) := blk_cell hm2 2
   have hne : some w1.heap.size ≠ (Value.slice Ar r.length cr).ownBlock := fun e => by
    rcases ownsRow_neSys hor hm2 (by decide) with h1 | h1
    ·rw [h1] at e; cases e
    ·exact h1 e.symm
   have hne2 : g ≠ w1.heap.size := fun e => by
    rcases ownsRow_neSys hown.outer hm2 (by decide) with h1 | h1
    ·cases h1
    ·exact h1 (by rw [← e]; rfl)
   have f0 := hout.frozenAt k
   have HO := Lib.hid hown; have HR := Lib.hid hor; have HW := Lib.hid hbw; have HM2 := Lib.hid hm2; have HRK := Lib.hid hrk; have HUR := Lib.hid hur; have HRR := Lib.hid hr
   clear hout hown hor hbw hm2 hrk hur hr
   have hw1 : IntKind.i64.wrap (v + b) = v + b := by rw [IntKind.wrap_i64]; omega
   have hne3 : some g ≠ (Value.slice Ar r.length cr).ownBlock := by
    rcases apart_types' HO.out.outer HR.out with h1 | h1
    ·cases h1
    ·exact fun e => h1 e
   have hne4 : some w.heap.size ≠ (Value.slice Ar r.length cr).ownBlock := fun e => by have := hgr1 _ e.symm; omega
   have hba : Below wr.heap.size wr (wr.drew.alloc (.cells #[.int .i64 0] 3)) := (Below.refl _ _).drew.alloc (Nat.le_refl _) _
   have INS := Lib.hid (insertInts_any (w.heap.size + 2) r.length wr.heap.size (v + b) (.slice Ar r.length cr) (r.map (Value.int .i64)) (.int .i64 0) (wr.drew.alloc (.cells #[.int .i64 0] 3)) (HR.out.ext hba) (by intro u hu; simp at hu; obtain ⟨x, _, rfl⟩ := hu; rfl) rfl (heap_at _ _ rfl) (fun e => by have := hgr1 _ e; omega) (by omega) hl1 (by omega) (by have := HW.out.size; simp <;> omega))
   have HBA := Lib.hid hba
   have y1a := (ext_cell hba y1)
   have y2a := (ext_cell hba y2)
   have z0a := (ext_cell hba z0)
   have f0a := (ext_frozen hba f0 (block_of z0))
   clear hba
   go_wp2_with fail
   go_region_held3 (fun w' => w'.cell? ⟨w.heap.size, 0, none⟩ = some (.int .i64 v) ∧ w'.cell? ⟨w1.heap.size, 2, none⟩ = some (.slice (some ⟨g, 0, none⟩) rows.length gcap))
    (first | (exact hS3) | (exact ⟨y1, y2⟩) | (exact ⟨y1a, y2a⟩) | (refine ⟨?_, ?_⟩ <;> (first | (refine (cell_set_ne2 (by simp <;> omega)).trans ?_; assumption) | (refine (cell_set_ne' (by simp <;> omega)).trans ?_; assumption))))
    ((go_at_call 196; refine INS.out.mono ?_; rintro e wx ⟨g2, cap2, rfl, hox, hgx, hg2⟩; have f3 : wx.frozen? ⟨g, k, none⟩ = false := (frz' hgx f0a z0a hne3); have s1 := gcell' hgx y1a hne4; have s2 := gcell' hgx y2a hne; have hS3 := And.intro s1 s2; clear y1 y2; have z3 := gcell' hgx z0a hne3))
   have hou : OwnInts wx (w.heap.size + 2) (.slice (some ⟨g2, 0, none⟩) (r.length + 1) cap2) (insAt r (v + b).toNat 0) := by
    unfold OwnInts
    rw [show (insAt r (v + b).toNat (0 : Int)).length = r.length + 1 from insAt_len _ _ _ (by omega), show (insAt r (v + b).toNat (0 : Int)).map (Value.int .i64) = insAt (r.map (Value.int .i64)) (v + b).toNat (.int .i64 0) by simp [insAt, List.map_take, List.map_drop]]
    exact hox
   have hnew := (HO.out.ext HBA.out).put (mapTo_len _ _ _ hk).symm HUR.out hgx hou (fun b hb => by simp only [Value.ownBlock, Option.some.injEq] at hb; subst hb; exact hg2)
   rw [mapTo_set (fun r => insAt r (v + b).toNat 0) rows k r HRR.out] at hnew
   have HN := Lib.hid hnew
   have HM3 := Lib.hid ((heap_setCell_other wx ⟨g, k, none⟩ w1.heap.size (.slice (some ⟨g2, 0, none⟩) (r.length + 1) cap2) (by simp <;> omega)).trans ((hgx.block w1.heap.size (by have := HW.out.size; simp; omega) hne).trans ((HBA.out.block w1.heap.size (by have := HW.out.size; omega)).trans HM2.out)))
   have HB3 := Lib.hid (Below.setCell (Below.grown (HW.out.trans (HBA.out.mono (by have := HW.out.size; omega))) hgx (by have := HW.out.size; simp; omega) (fun b hb => (hgr1 b hb).1)) (p := ⟨g, k, none⟩) (by simp <;> omega) (.slice (some ⟨g2, 0, none⟩) (r.length + 1) cap2))
   clear hnew hou hox hgx INS
   go_wp2
   go_roundw
   case rel => exact ⟨k+1, by omega, by go_num, ⟨_, HN.out⟩, HM3.out, HB3.out⟩
   case measure => simp [intOf]; omega
  ·skip
   have hk' : k = rows.length := by omega
   subst hk'
   rw [mapTo_all _ _ _ (Nat.le_refl _)] at hown
   have k2w := (hbw.block _ (by omega)).trans K2.out
   have e0 := blk_cell hm2 1
   have e1 := blk_free hm2 1
   simp only [List.getElem?_cons_zero, List.getElem?_cons_succ] at e0
   have HO := Lib.hid hown; have HW := Lib.hid hbw; have HF := Lib.hid hm2
   have hk2 := Lib.hid k2w
   have hwu : IntKind.i64.wrap (h + 1) = h + 1 := by rw [IntKind.wrap_i64]; omega
   clear hown hbw hm2 k2w x1 x2
   go_upto_region 8 with (fail)
   have m2w := heap_setCell_same wr w1.heap.size 1 _ _ (.int .i64 (h + 1)) HF.out
   simp only [List.setIfInBounds_toArray, List.set_cons_zero, List.set_cons_succ] at m2w
   have k2w := (heap_setCell_other wr ⟨w1.heap.size, 1, none⟩ (w.heap.size + 1) (.int .i64 (h + 1)) (by simp <;> omega)).trans hk2.out
   have hso := HO.out.setSys HF.out (j := 1) (u := .int .i64 (h + 1))
   have HO := Lib.hid (show OwnRows _ (w.heap.size + 2) _ _ from ⟨_, hso⟩)
   have hse := ((HB.out.trans (HW.out.mono (by omega))).setCell (p := ⟨w1.heap.size, 1, none⟩) (by simp <;> omega) (.int .i64 (h + 1)))
   have HE := Lib.hid hse
   clear hso hse
   have e0 := blk_cell m2w 0
   have e1 := blk_cell m2w 1
   have e2 := blk_cell m2w 2
   have e3 := blk_cell k2w 0
   have e4 := blk_cell k2w 1
   have e5 := blk_cell k2w 2
   have e6 := blk_free k2w 0
   have e7 := blk_free k2w 1
   have e8 := blk_free k2w 2
   simp only [List.getElem?_cons_zero, List.getElem?_cons_succ] at e0 e1 e2 e3 e4 e5
   clear m2w k2w
   go_wp2
   refine bodyPost_ret (v := .agg #[.int .i64 v, .int .i64 (h + 1), .slice gA rows.length gcap]) (by simp [results, Tryz.results195, go_sem, *]) rfl ⟨_, rfl, ?_, ?_⟩
   ·exact (((HO.out.setCell (by simp <;> omega) _).setCell (by simp <;> omega) _).setCell (by simp <;> omega) _).mono (by omega)
   ·exact ((HE.out.setCell (by simp <;> omega) _).setCell (by simp <;> omega) _).setCell (by simp <;> omega) _
end Go.Proofs.YtjdbfokbgmbphaaGreatDoor
