/- makeStep where stepOf says false: nothing is made. | addTimes on empty rows. No conditions. -/
import Derived.Test.YtjdbfokbgmbphaaGreatDoorPk19
import Derived.Test.YtjdbfokbgmbphaaGreatDoorPk16
namespace Go.Proofs.YtjdbfokbgmbphaaGreatDoor
set_option linter.unusedVariables false
set_option linter.unusedSimpArgs false
open Go.RowKit
set_option maxHeartbeats 2000000 in
theorem make_not (p v h k a b c : Int) (A : Option Addr) (cap : Nat) (rows : List (List Int)) (w : World) (XA : Option Addr) (n xcap : Nat)
  (SO : ∀ W, Calls Tryz.prog 93 #[.agg #[.int .i64 k, .int .i64 a, .int .i64 b, .int .i64 c, .slice XA n xcap]] W fun e w' => e = .returned (.tuple #[.nilIface, .bool false]) ∧ Below W.heap.size W w') :
  Calls Tryz.prog 53 #[.int .i64 p, .agg #[.int .i64 v, .int .i64 h, .slice A rows.length cap], .agg #[.int .i64 k, .int .i64 a, .int .i64 b, .int .i64 c, .slice XA n xcap]] w fun e w' =>
   e = .returned (.tuple #[.agg #[.int .i64 0, .int .i64 0, .slice none 0 0], .bool false]) ∧ Below w.heap.size w w' := by
 have HSO := Lib.hid SO
 clear SO
 go_enter Tryz.func53, Tryz.ntmps53
 go_upto_region 2 with (go_at_call 93; refine (HSO.out _).mono ?_; rintro e w1 ⟨rfl, hb1⟩)
 have hB3 := (below_alloc3 w (.cells #[.int .i64 v, .int .i64 h, .slice A rows.length cap] 30) (.cells #[.int .i64 k, .int .i64 a, .int .i64 b, .int .i64 c, .slice XA n xcap] 34) (.cells #[.int .i64 0, .int .i64 0, .slice none 0 0] 30))
 obtain ⟨q0, q1, q2⟩ := heap_at3 w (.cells #[.int .i64 v, .int .i64 h, .slice A rows.length cap] 30) (.cells #[.int .i64 k, .int .i64 a, .int .i64 b, .int .i64 c, .slice XA n xcap] 34) (.cells #[.int .i64 0, .int .i64 0, .slice none 0 0] 30)
 have m2 := boxb hb1 q2
 have hb := hB3.trans (hb1.mono (B' := w.heap.size) (by simp <;> omega))
 have hsz := hb1.size
 simp only [World.size_alloc] at hsz
 obtain ⟨g0, g1, g2, g3, g4, g5⟩ := cells3 m2
 have HB := Lib.hid hb
 clear q0 q1 q2 m2 hb hb1 hB3
 go_wp2
 refine bodyPost_ret (v := .tuple #[.agg #[.int .i64 0, .int .i64 0, .slice none 0 0], .bool false]) (by simp [results, Tryz.results53, go_sem, *]) rfl ⟨rfl, ?_⟩
 exact ((HB.out.setCell (by simp <;> omega) _).setCell (by simp <;> omega) _).setCell (by simp <;> omega) _
theorem addTimes_nil (p b : Int) (A1 A2 : Option Addr) (cap cap2 : Nat) (w : World) :
  Calls Tryz.prog 145 #[.int .i64 p, .slice A1 0 cap, .int .i64 b, .slice A2 0 cap2] w fun e w' => e = .returned (.tuple #[]) ∧ w' = w := by
 go_enter Tryz.func145, Tryz.ntmps145
 go_wp2
 go_loopw [12] (fun i wr => i = .int .i64 0 ∧ wr = w) (fun _ _ => 0)
 case atStart => exact ⟨rfl, rfl⟩
 case round =>
  obtain ⟨rfl, rfl⟩ := hrel
  go_wp2
  go_end0
  exact ⟨rfl, rfl⟩
set_option maxHeartbeats 4000000 in
theorem addDo_nil (a b c p v h : Int) (A : Option Addr) (cap : Nat) (rows : List (List Int)) (w : World) (hR : RowsAt w A rows) (hm : rows.length ≤ 160) (hms : ∀ r ∈ rows, r.length ≤ 1000) (hp : 1 ≤ p) (hp' : p ≤ 1000)
  (ha : 0 ≤ a) (ha' : a < rows.length) (hb : 0 ≤ b) (hb' : b < rows.length) (hab : a ≠ b) (hc : 0 ≤ c) (hc' : c ≤ 1000) (hx : ∀ r ∈ rows, ∀ x ∈ r, 0 ≤ x ∧ x ≤ 1000) (hl : ∀ r ∈ rows, r.length = 0) :
  Calls Tryz.prog 169 #[.agg #[.int .i64 a, .int .i64 b, .int .i64 c], .int .i64 p, .agg #[.int .i64 v, .int .i64 h, .slice A rows.length cap]] w fun e w' =>
   ∃ u, e = .returned (.agg #[.int .i64 v, .int .i64 h, u]) ∧ OwnRows w' w.heap.size u (rows.set b.toNat (addRow p c (rows.getD b.toNat []) (rows.getD a.toNat []))) ∧ Below w.heap.size w w' := by
 obtain ⟨ra, hra⟩ := get_of_lt (show a.toNat < rows.length by omega)
 obtain ⟨rb, hrb⟩ := get_of_lt (show b.toNat < rows.length by omega)
 have HA := Lib.hid (show rows.getD a.toNat [] = ra by simp [List.getD, hra])
 have HBB := Lib.hid (show rows.getD b.toNat [] = rb by simp [List.getD, hrb])
 obtain rfl : ra = [] := List.eq_nil_of_length_eq_zero (hl ra (List.mem_of_getElem? hra))
 obtain rfl : rb = [] := List.eq_nil_of_length_eq_zero (hl rb (List.mem_of_getElem? hrb))
 clear hx hl
 have HM := Lib.hid (show rows.length ≤ 1048576 by omega)
 have HMS := Lib.hid (show ∀ r ∈ rows, r.length ≤ 1048576 from fun r hr => by have := hms r hr; omega)
 go_enter Tryz.func169, Tryz.ntmps169
 go_wp2_with fail
 refine (copy_any _ _ _ _ _ _ (hR.ext (((Below.refl _ _).alloc (by simp) _ |>.alloc (by simp) _).alloc (by simp <;> omega) _)) HM.out HMS.out).mono ?_
 rintro e w1 ⟨u, rfl, ⟨us, hu⟩, hb1⟩
 obtain ⟨gA, gcap, rfl, _, _, _⟩ := OwnRows.view ⟨us, hu⟩
 obtain ⟨q0, q1, q2⟩ := heap_at3 w (.cells #[.int .i64 a, .int .i64 b, .int .i64 c] 122) (.cells #[.int .i64 v, .int .i64 h, .slice A rows.length cap] 30) (.cells #[.int .i64 0, .int .i64 0, .slice none 0 0] 30)
 have hsz1 := hb1.size
 simp only [World.size_alloc] at hsz1
 go_upto_region 2 with (fail)
 obtain ⟨W2, hW2⟩ : ∃ W2, W2 = w1.alloc (.cells #[.int .i64 v, .int .i64 h, .slice gA rows.length gcap] 30) := ⟨_, rfl⟩
 rw [← hW2]
 have hb2 : Below w1.heap.size w1 W2 := by rw [hW2]; exact (Below.refl _ _).alloc (Nat.le_refl _) _
 have hsz2 : W2.heap.size = w1.heap.size + 1 := by rw [hW2]; simp
 have hb02 := hb1.trans (hb2.mono hb1.size)
 have m2 : W2.heap[w1.heap.size]? = some (.cells #[.int .i64 v, .int .i64 h, .slice gA rows.length gcap] 30 (0, 0)) := by rw [hW2]; exact heap_at _ _ rfl
 have k0 := boxb hb02 q0
 have k1 := boxb hb02 q1
 have k2 := boxb hb02 q2
 have hu2 : OwnRowsW W2 (w.heap.size + 3) (.slice gA rows.length gcap) rows us := (hu.ext hb2).mono (by simp)
 have hub : ∀ g', gA = some ⟨g', 0, none⟩ → g' < w1.heap.size := fun g' e => by subst e; exact (World.ownsRow.lt hu.outer g' rfl).2
 have hin : ∀ (k : Nat) (x : Value), us[k]? = some x → ∀ b, x.ownBlock = some b → b < w1.heap.size := fun k x hx b hb => by obtain ⟨r, _, ho⟩ := hu.getR hx; exact (ho.lt b hb).2
 have hb3 : Below w.heap.size w W2 := (below_alloc3 w _ _ _).trans (hb02.mono (by simp <;> omega))
 clear hu hb1 hb2 hb02 hR hms q0 q1 q2 hW2
 obtain ⟨ua, hua, hoa⟩ := hu2.get hra
 obtain ⟨ub, hubb, hob⟩ := hu2.get hrb
 obtain ⟨g, hgv, hgB, hgl⟩ : ∃ g, gA = some ⟨g, 0, none⟩ ∧ w.heap.size + 3 ≤ g ∧ g < W2.heap.size := own_at hu2 (by omega)
 subst hgv
 have hgu := hub g rfl
 obtain ⟨Aa, ca, rfl, hIa, _⟩ := hoa.view
 obtain ⟨Ab, cb, rfl, _, _⟩ := hob.view
 have x0 := blk_cell k0 0
 have x1 := blk_cell k0 1
 have x2 := blk_cell k0 2
 have x4 := blk_cell m2 2
 simp only [List.getElem?_cons_zero, List.getElem?_cons_succ] at x0 x1 x2 x4
 have z0 : W2.cell? ⟨g, a.toNat, none⟩ = some (.slice Aa 0 ca) := by rw [hu2.outer.cellAt _ (by omega), hua]; rfl
 have z1 : W2.cell? ⟨g, b.toNat, none⟩ = some (.slice Ab 0 cb) := by rw [hu2.outer.cellAt _ (by omega), hubb]; rfl
 have HU := Lib.hid hu2; have HB := Lib.hid hb3; have HUB := Lib.hid hubb; have HRB := Lib.hid hrb; have HOB := Lib.hid hob
 have K2 := Lib.hid k2; have M2 := Lib.hid m2
 have ADD := Lib.hid (addTimes_nil p c Ab Aa cb ca W2.drew)
 clear hu2 hb3 hua hubb hoa hob hra hrb hIa hub hin k0 k1 k2 m2
 go_region_held3 (fun w' => w'.cell? ⟨w.heap.size, 0, none⟩ = some (.int .i64 a) ∧ w'.cell? ⟨w.heap.size, 1, none⟩ = some (.int .i64 b) ∧ w'.cell? ⟨w.heap.size, 2, none⟩ = some (.int .i64 c) ∧ w'.cell? ⟨w1.heap.size, 2, none⟩ = some (.slice (some ⟨g, 0, none⟩) rows.length gcap) ∧ w'.cell? ⟨g, a.toNat, none⟩ = some (.slice Aa 0 ca) ∧ w'.cell? ⟨g, b.toNat, none⟩ = some (.slice Ab 0 cb))
  (first | exact ⟨x0, x1, x2, x4, z0, z1⟩)
  ((go_at_call 145; refine ADD.out.mono ?_; rintro e wr ⟨rfl, rfl⟩))
 obtain ⟨W3, hW3⟩ : ∃ W3, W3 = W2.drew := ⟨_, rfl⟩
 have hh3 : W3.heap = W2.heap := by rw [hW3]; rfl
 have m2w := M2.out
 have k2w := K2.out
 rw [← hh3] at m2w k2w
 have hin := HU.out.ext (Below.refl _ _).drew
 rw [← hW3] at hin ⊢
 rw [← set_same HRB.out, show ([] : List Int) = addRow p c [] [] from rfl] at hin
 rw [show (List.set rows b.toNat (addRow p c [] [])) = rows.set b.toNat (addRow p c (rows.getD b.toNat []) (rows.getD a.toNat [])) by rw [HA.out, HBB.out]] at hin
 simp only [List.length_set] at hin
 have HO := Lib.hid (show OwnRows W3 (w.heap.size + 3) _ _ from ⟨_, hin⟩)
 have HE := Lib.hid (show Below w.heap.size w W3 by rw [hW3]; exact HB.out.drew)
 clear hW3 hh3
 clear hin x0 x1 x2 x4 z0 z1 ADD
 have e0 := blk_cell m2w 0
 have e1 := blk_cell m2w 1
 have e2 := blk_cell m2w 2
 have e3 := blk_cell k2w 0
 have e4 := blk_cell k2w 1
 have e5 := blk_cell k2w 2
 have e6 := blk_free k2w 0
 have e7 := blk_free k2w 1
 have e8 := blk_free k2w 2
 simp only [List.getElem?_cons_zero, List.getElem?_cons_succ] at e0 e1 e2 e3 e4 e5
 clear m2w k2w
 go_wp2
 refine bodyPost_ret (v := .agg #[.int .i64 v, .int .i64 h, .slice (some ⟨g, 0, none⟩) rows.length gcap]) (by simp [results, Tryz.results169, go_sem, *]) rfl ⟨_, rfl, ?_, ?_⟩
 ·exact (((HO.out.setCell (by simp <;> omega) _).setCell (by simp <;> omega) _).setCell (by simp <;> omega) _).mono (by omega)
 ·exact ((HE.out.setCell (by simp <;> omega) _).setCell (by simp <;> omega) _).setCell (by simp <;> omega) _
end Go.Proofs.YtjdbfokbgmbphaaGreatDoor
