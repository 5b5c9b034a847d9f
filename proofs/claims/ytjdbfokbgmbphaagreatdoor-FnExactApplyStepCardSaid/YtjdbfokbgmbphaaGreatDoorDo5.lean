/- The steps made (methods 'do'): add. Conditions: a system of moderate size whose rows are of one length and whose elements lie in 0..1000; the two rows are there and are not one. -/
import Derived.Test.YtjdbfokbgmbphaaGreatDoorDo7
namespace Go.Proofs.YtjdbfokbgmbphaaGreatDoor
set_option linter.unusedVariables false
set_option linter.unusedSimpArgs false
open Go.RowKit

set_option maxHeartbeats 4000000 in
theorem addDo_any (a b c p v h : Int) (n : Nat) (A : Option Addr) (cap : Nat) (rows : List (List Int)) (w : World) (hR : RowsAt w A rows) (hm : rows.length ≤ 160) (hms : ∀ r ∈ rows, r.length ≤ 1000) (hp : 1 ≤ p) (hp' : p ≤ 1000)
    (ha : 0 ≤ a) (ha' : a < rows.length) (hb : 0 ≤ b) (hb' : b < rows.length) (hab : a ≠ b) (hc : 0 ≤ c) (hc' : c ≤ 1000) (hx : ∀ r ∈ rows, ∀ x ∈ r, 0 ≤ x ∧ x ≤ 1000) (hn : 1 ≤ n) (hl : ∀ r ∈ rows, r.length = n) :
    Calls Tryz.prog 169 #[.agg #[.int .i64 a, .int .i64 b, .int .i64 c], .int .i64 p, .agg #[.int .i64 v, .int .i64 h, .slice A rows.length cap]] w fun e w' =>
      ∃ u, e = .returned (.agg #[.int .i64 v, .int .i64 h, u]) ∧ OwnRows w' w.heap.size u (rows.set b.toNat (addRow p c (rows.getD b.toNat []) (rows.getD a.toNat []))) ∧ Below w.heap.size w w' := by
  obtain ⟨ra, hra⟩ := get_of_lt (show a.toNat < rows.length by omega)
  obtain ⟨rb, hrb⟩ := get_of_lt (show b.toNat < rows.length by omega)
  have HA := Lib.hid (show rows.getD a.toNat [] = ra by simp [List.getD, hra])
  have HBB := Lib.hid (show rows.getD b.toNat [] = rb by simp [List.getD, hrb])
  have HXA := Lib.hid (show ∀ x ∈ ra, 0 ≤ x ∧ x ≤ 1000 from hx ra (List.mem_of_getElem? hra))
  have HXB := Lib.hid (show ∀ x ∈ rb, 0 ≤ x ∧ x ≤ 1000 from hx rb (List.mem_of_getElem? hrb))
  have HLA := Lib.hid (hl ra (List.mem_of_getElem? hra))
  have HLB := Lib.hid (hl rb (List.mem_of_getElem? hrb))
  have hrm : ra.length ≤ 1000 := hms ra (List.mem_of_getElem? hra)
  clear hx hl
  have HM := Lib.hid (show rows.length ≤ 1048576 by omega)
  have HMS := Lib.hid (show ∀ r ∈ rows, r.length ≤ 1048576 from fun r hr => by have := hms r hr; omega)
  go_enter Tryz.func169, Tryz.ntmps169
  go_wp2_with fail
  refine (copy_any _ _ _ _ _ _ (hR.ext (((Below.refl _ _).alloc (by simp) _ |>.alloc (by simp) _).alloc (by simp <;> omega) _)) HM.out HMS.out).mono ?_
  rintro e w1 ⟨u, rfl, ⟨us, hu⟩, hb1⟩
  obtain ⟨gA, gcap, rfl, _, _, _⟩ := OwnRows.view ⟨us, hu⟩
  obtain ⟨q0, q1, q2⟩ := heap_at3 w (.cells #[.int .i64 a, .int .i64 b, .int .i64 c] 122) (.cells #[.int .i64 v, .int .i64 h, .slice A rows.length cap] 30) (.cells #[.int .i64 0, .int .i64 0, .slice none 0 0] 30)
  have hsz1 := hb1.size
  simp only [World.size_alloc] at hsz1
  go_upto_region 2 with (fail)
  obtain ⟨W2, hW2⟩ : ∃ W2, W2 = w1.alloc (.cells #[.int .i64 v, .int .i64 h, .slice gA rows.length gcap] 30) := ⟨_, rfl⟩
  rw [← hW2]
  have hb2 : Below w1.heap.size w1 W2 := by rw [hW2]; exact (Below.refl _ _).alloc (Nat.le_refl _) _
  have hsz2 : W2.heap.size = w1.heap.size + 1 := by rw [hW2]; simp
  have hb02 := hb1.trans (hb2.mono hb1.size)
  have m2 : W2.heap[w1.heap.size]? = some (.cells #[.int .i64 v, .int .i64 h, .slice gA rows.length gcap] 30 (0, 0)) := by rw [hW2]; exact heap_at _ _ rfl
  have k0 := boxb hb02 q0
  have k1 := boxb hb02 q1
  have k2 := boxb hb02 q2
  have hu2 : OwnRowsW W2 (w.heap.size + 3) (.slice gA rows.length gcap) rows us := (hu.ext hb2).mono (by simp)
  have hub : ∀ g', gA = some ⟨g', 0, none⟩ → g' < w1.heap.size := fun g' e => by subst e; exact (World.ownsRow.lt hu.outer g' rfl).2
  have hin : ∀ (k : Nat) (x : Value), us[k]? = some x → ∀ b, x.ownBlock = some b → b < w1.heap.size := fun k x hx b hb => by obtain ⟨r, _, ho⟩ := hu.getR hx; exact (ho.lt b hb).2
  have hb3 : Below w.heap.size w W2 := (below_alloc3 w _ _ _).trans (hb02.mono (by simp <;> omega))
  clear hu hb1 hb2 hb02 hR hms q0 q1 q2 hW2
  obtain ⟨ua, hua, hoa⟩ := hu2.get hra
  obtain ⟨ub, hubb, hob⟩ := hu2.get hrb
  obtain ⟨g, hgv, hgB, hgl⟩ : ∃ g, gA = some ⟨g, 0, none⟩ ∧ w.heap.size + 3 ≤ g ∧ g < W2.heap.size := own_at hu2 (by omega)
  subst hgv
  have hgu := hub g rfl
  obtain ⟨Aa, ca, rfl, hIa, _⟩ := hoa.view
  obtain ⟨Ab, cb, rfl, _, _⟩ := hob.view
  obtain ⟨ga, rfl, hga, _⟩ := own_at1 hoa (by have := HLA.out; omega)
  obtain ⟨gb, rfl, hgb, _⟩ := own_at1 hob (by have := HLB.out; omega)
  have hgb' := hin _ _ hubb gb rfl
  have hne : ga ≠ gb := fun e => by
    have := hu2.apart _ _ _ _ ga hua hubb rfl (by rw [e]; rfl)
    omega
  have hne2 : g ≠ gb := by
    rcases apart_types' hu2.outer hob with h1 | h1
    · cases h1
    · exact fun e => h1 (by rw [e]; rfl)
  have x0 := blk_cell k0 0
  have x1 := blk_cell k0 1
  have x2 := blk_cell k0 2
  have x4 := blk_cell m2 2
  simp only [List.getElem?_cons_zero, List.getElem?_cons_succ] at x0 x1 x2 x4
  have z0 : W2.cell? ⟨g, a.toNat, none⟩ = some (.slice (some ⟨ga, 0, none⟩) ra.length ca) := by rw [hu2.outer.cellAt _ (by omega), hua]
  have z1 : W2.cell? ⟨g, b.toNat, none⟩ = some (.slice (some ⟨gb, 0, none⟩) rb.length cb) := by rw [hu2.outer.cellAt _ (by omega), hubb]
  have HU := Lib.hid hu2; have HB := Lib.hid hb3; have HUB := Lib.hid hubb; have HRB := Lib.hid hrb; have HOB := Lib.hid hob
  have K2 := Lib.hid k2; have M2 := Lib.hid m2
  have ADD := Lib.hid (addTimes_any p c (w.heap.size + 3) gb cb ca (some ⟨ga, 0, none⟩) rb ra W2.drew hp hp' (by omega) (by omega) (World.ownsRow.drew hob) (hIa.ext (Below.refl _ _).drew) (fun b o e => by simp only [Option.some.injEq, Addr.mk.injEq] at e; omega) (by rw [HLA.out, HLB.out]) (by have := HLB.out; have := HLA.out; omega) HXB.out HXA.out)
  clear hu2 hb3 hua hubb hoa hob hra hrb hIa hub hin k0 k1 k2 m2
  go_region_held3 (fun w' => w'.cell? ⟨w.heap.size, 0, none⟩ = some (.int .i64 a) ∧ w'.cell? ⟨w.heap.size, 1, none⟩ = some (.int .i64 b) ∧ w'.cell? ⟨w.heap.size, 2, none⟩ = some (.int .i64 c) ∧ w'.cell? ⟨w1.heap.size, 2, none⟩ = some (.slice (some ⟨g, 0, none⟩) rows.length gcap) ∧ w'.cell? ⟨g, a.toNat, none⟩ = some (.slice (some ⟨ga, 0, none⟩) ra.length ca) ∧ w'.cell? ⟨g, b.toNat, none⟩ = some (.slice (some ⟨gb, 0, none⟩) rb.length cb))
    (first | exact hS3 | exact ⟨x0, x1, x2, x4, z0, z1⟩)
    ((go_at_call 145; refine ADD.out.mono ?_; rintro e wr ⟨rfl, hown, hgr⟩; have s0 := gcell hgr (a := ⟨w.heap.size, 0, none⟩) x0 (show w.heap.size ≠ gb by omega); have s1 := gcell hgr (a := ⟨w.heap.size, 1, none⟩) x1 (show w.heap.size ≠ gb by omega); have s2 := gcell hgr (a := ⟨w.heap.size, 2, none⟩) x2 (show w.heap.size ≠ gb by omega); have s4 := gcell hgr (a := ⟨w1.heap.size, 2, none⟩) x4 (show w1.heap.size ≠ gb by omega); have s5 := gcell hgr (a := ⟨g, a.toNat, none⟩) z0 hne2; have s6 := gcell hgr (a := ⟨g, b.toNat, none⟩) z1 hne2; have hS3 := And.intro s0 (And.intro s1 (And.intro s2 (And.intro s4 (And.intro s5 s6))))))
  have hgr := grownBy_trans (grownBy_drew W2 (some gb)) hgr
  have m2w := (hgr.block w1.heap.size (by omega) (by simp; omega)).trans M2.out
  have k2w := (hgr.block (w.heap.size + 1 + 1) (by omega) (by simp; omega)).trans K2.out
  have hin := HU.out.inner (r' := addRow p c rb ra) HUB.out hgr (by
    unfold OwnInts
    rw [show (addRow p c rb ra).length = rb.length by simp [addRow, HLA.out, HLB.out]]
    exact hown)
  rw [← HA.out, ← HBB.out] at hin
  have HO := Lib.hid (show OwnRows wr (w.heap.size + 3) _ _ from ⟨_, hin⟩)
  have HE := Lib.hid (HB.out.grown hgr (by omega) fun b hb => by cases hb; omega)
  clear hown hgr hin s0 s1 s2 s4 s5 s6 hS3 x0 x1 x2 x4 z0 z1 ADD
  have e0 := blk_cell m2w 0
  have e1 := blk_cell m2w 1
  have e2 := blk_cell m2w 2
  have e3 := blk_cell k2w 0
  have e4 := blk_cell k2w 1
  have e5 := blk_cell k2w 2
  have e6 := blk_free k2w 0
  have e7 := blk_free k2w 1
  have e8 := blk_free k2w 2
  simp only [List.getElem?_cons_zero, List.getElem?_cons_succ] at e0 e1 e2 e3 e4 e5
  clear m2w k2w
  go_wp2
  refine bodyPost_ret (v := .agg #[.int .i64 v, .int .i64 h, .slice (some ⟨g, 0, none⟩) rows.length gcap]) (by simp [results, Tryz.results169, go_sem, *]) rfl ⟨_, rfl, ?_, ?_⟩
  · exact (((HO.out.setCell (by simp <;> omega) _).setCell (by simp <;> omega) _).setCell (by simp <;> omega) _).mono (by omega)
  · exact ((HE.out.setCell (by simp <;> omega) _).setCell (by simp <;> omega) _).setCell (by simp <;> omega) _
end Go.Proofs.YtjdbfokbgmbphaaGreatDoor
