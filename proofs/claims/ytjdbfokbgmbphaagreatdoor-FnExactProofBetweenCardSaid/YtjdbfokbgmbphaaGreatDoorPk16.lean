/- The steps made (methods 'do'): add. Conditions: a system of moderate size whose rows are of one length and whose elements lie in 0..1000; the two rows are there and are not one. | fieldsOf, validSystem. Conditions: validSystem: as isSystem. | What a step asks and does, in plain terms; what the program asks against what the reference asks. Condition: the system is valid. | The reference's stEmpty: the fields that a kind does not name are zero. Condition: the line's length is at most 2^20. -/
import Derived.Test.YtjdbfokbgmbphaaGreatDoorPk15
namespace Go.Proofs.YtjdbfokbgmbphaaGreatDoor
set_option linter.unusedVariables false
set_option linter.unusedSimpArgs false
open Go.RowKit
set_option maxHeartbeats 4000000 in
theorem addDo_any (a b c p v h : Int) (n : Nat) (A : Option Addr) (cap : Nat) (rows : List (List Int)) (w : World) (hR : RowsAt w A rows) (hm : rows.length ≤ 160) (hms : ∀ r ∈ rows, r.length ≤ 1000) (hp : 1 ≤ p) (hp' : p ≤ 1000)
  (ha : 0 ≤ a) (ha' : a < rows.length) (hb : 0 ≤ b) (hb' : b < rows.length) (hab : a ≠ b) (hc : 0 ≤ c) (hc' : c ≤ 1000) (hx : ∀ r ∈ rows, ∀ x ∈ r, 0 ≤ x ∧ x ≤ 1000) (hn : 1 ≤ n) (hl : ∀ r ∈ rows, r.length = n) :
  Calls Tryz.prog 169 #[.agg #[.int .i64 a, .int .i64 b, .int .i64 c], .int .i64 p, .agg #[.int .i64 v, .int .i64 h, .slice A rows.length cap]] w fun e w' =>
   ∃ u, e = .returned (.agg #[.int .i64 v, .int .i64 h, u]) ∧ OwnRows w' w.heap.size u (rows.set b.toNat (addRow p c (rows.getD b.toNat []) (rows.getD a.toNat []))) ∧ Below w.heap.size w w' := by
 obtain ⟨ra, hra⟩ := get_of_lt (show a.toNat < rows.length by omega)
 obtain ⟨rb, hrb⟩ := get_of_lt (show b.toNat < rows.length by omega)
 have HA := Lib.hid (show rows.getD a.toNat [] = ra by simp [List.getD, hra])
 have HBB := Lib.hid (show rows.getD b.toNat [] = rb by simp [List.getD, hrb])
 have HXA := Lib.hid (show ∀ x ∈ ra, 0 ≤ x ∧ x ≤ 1000 from hx ra (List.mem_of_getElem? hra))
 have HXB := Lib.hid (show ∀ x ∈ rb, 0 ≤ x ∧ x ≤ 1000 from hx rb (List.mem_of_getElem? hrb))
 have HLA := Lib.hid (hl ra (List.mem_of_getElem? hra))
 have HLB := Lib.hid (hl rb (List.mem_of_getElem? hrb))
 have hrm : ra.length ≤ 1000 := hms ra (List.mem_of_getElem? hra)
 clear hx hl
 have HM := Lib.hid (show rows.length ≤ 1048576 by omega)
 have HMS := Lib.hid (show ∀ r ∈ rows, r.length ≤ 1048576 from fun r hr => by have := hms r hr; omega)
 go_enter Tryz.func169, Tryz.ntmps169
 go_wp2_with fail
 refine (copy_any _ _ _ _ _ _ (hR.ext (((Below.refl _ _).alloc (by simp) _ |>.alloc (by simp) _).alloc (by simp <;> omega) _)) HM.out HMS.out).mono ?_
 rintro e w1 ⟨u, rfl, ⟨us, hu⟩, hb1⟩
 obtain ⟨gA, gcap, rfl, _, _, _⟩ := OwnRows.view ⟨us, hu⟩
 obtain ⟨q0, q1, q2⟩ := heap_at3 w (.cells #[.int .i64 a, .int .i64 b, .int .i64 c] 122) (.cells #[.int .i64 v, .int .i64 h, .slice A rows.length cap] 30) (.cells #[.int .i64 0, .int .i64 0, .slice none 0 0] 30)
 have hsz1 := hb1.size
 simp only [World.size_alloc] at hsz1
 go_upto_region 2 with (fail)
 obtain ⟨W2, hW2⟩ : ∃ W2, W2 = w1.alloc (.cells #[.int .i64 v, .int .i64 h, .slice gA rows.length gcap] 30) := ⟨_, rfl⟩
 rw [← hW2]
 have hb2 : Below w1.heap.size w1 W2 := by rw [hW2]; exact (Below.refl _ _).alloc (Nat.le_refl _) _
 have hsz2 : W2.heap.size = w1.heap.size + 1 := by rw [hW2]; simp
 have hb02 := hb1.trans (hb2.mono hb1.size)
 have m2 : W2.heap[w1.heap.size]? = some (.cells #[.int .i64 v, .int .i64 h, .slice gA rows.length gcap] 30 (0, 0)) := by rw [hW2]; exact heap_at _ _ rfl
 have k0 := boxb hb02 q0
 have k1 := boxb hb02 q1
 have k2 := boxb hb02 q2
 have hu2 : OwnRowsW W2 (w.heap.size + 3) (.slice gA rows.length gcap) rows us := (hu.ext hb2).mono (by simp)
 have hub : ∀ g', gA = some ⟨g', 0, none⟩ → g' < w1.heap.size := fun g' e => by subst e; exact (World.ownsRow.lt hu.outer g' rfl).2
 have hin : ∀ (k : Nat) (x : Value), us[k]? = some x → ∀ b, x.ownBlock = some b → b < w1.heap.size := fun k x hx b hb => by obtain ⟨r, _, ho⟩ := hu.getR hx; exact (ho.lt b hb).2
 have hb3 : Below w.heap.size w W2 := (below_alloc3 w _ _ _).trans (hb02.mono (by simp <;> omega))
 clear hu hb1 hb2 hb02 hR hms q0 q1 q2 hW2
 obtain ⟨ua, hua, hoa⟩ := hu2.get hra
 obtain ⟨ub, hubb, hob⟩ := hu2.get hrb
 obtain ⟨g, hgv, hgB, hgl⟩ : ∃ g, gA = some ⟨g, 0, none⟩ ∧ w.heap.size + 3 ≤ g ∧ g < W2.heap.size := own_at hu2 (by omega)
 subst hgv
 have hgu := hub g rfl
 obtain ⟨Aa, ca, rfl, hIa, _⟩ := hoa.view
 obtain ⟨Ab, cb, rfl, _, _⟩ := hob.view
 obtain ⟨ga, rfl, hga, _⟩ := own_at1 hoa (by have := HLA.out; omega)
 obtain ⟨gb, rfl, hgb, _⟩ := own_at1 hob (by have := HLB.out; omega)
 have hgb' := hin _ _ hubb gb rfl
 have hne : ga ≠ gb := fun e => by
  have := hu2.apart _ _ _ _ ga hua hubb rfl (by rw [e]; rfl)
  omega
 have hne2 : g ≠ gb := by
  rcases apart_types' hu2.outer hob with h1 | h1
  ·cases h1
  ·exact fun e => h1 (by rw [e]; rfl)
 have x0 := blk_cell k0 0
 have x1 := blk_cell k0 1
 have x2 := blk_cell k0 2
 have x4 := blk_cell m2 2
 simp only [List.getElem?_cons_zero, List.getElem?_cons_succ] at x0 x1 x2 x4
 have z0 : W2.cell? ⟨g, a.toNat, none⟩ = some (.slice (some ⟨ga, 0, none⟩) ra.length ca) := by rw [hu2.outer.cellAt _ (by omega), hua]
 have z1 : W2.cell? ⟨g, b.toNat, none⟩ = some (.slice (some ⟨gb, 0, none⟩) rb.length cb) := by rw [hu2.outer.cellAt _ (by omega), hubb]
 have HU := Lib.hid hu2; have HB := Lib.hid hb3; have HUB := Lib.hid hubb; have HRB := Lib.hid hrb; have HOB := Lib.hid hob
 have K2 := Lib.hid k2; have M2 := Lib.hid m2
 have ADD := Lib.hid (addTimes_any p c (w.heap.size + 3) gb cb ca (some ⟨ga, 0, none⟩) rb ra W2.drew hp hp' (by omega) (by omega) (World.ownsRow.drew hob) (hIa.ext (Below.refl _ _).drew) (fun b o e => by simp only [Option.some.injEq, Addr.mk.injEq] at e; omega) (by rw [HLA.out, HLB.out]) (by have := HLB.out; have := HLA.out; omega) HXB.out HXA.out)
 clear hu2 hb3 hua hubb hoa hob hra hrb hIa hub hin k0 k1 k2 m2
 go_region_held3 (fun w' => w'.cell? ⟨w.heap.size, 0, none⟩ = some (.int .i64 a) ∧ w'.cell? ⟨w.heap.size, 1, none⟩ = some (.int .i64 b) ∧ w'.cell? ⟨w.heap.size, 2, none⟩ = some (.int .i64 c) ∧ w'.cell? ⟨w1.heap.size, 2, none⟩ = some (.slice (some ⟨g, 0, none⟩) rows.length gcap) ∧ w'.cell? ⟨g, a.toNat, none⟩ = some (.slice (some ⟨ga, 0, none⟩) ra.length ca) ∧ w'.cell? ⟨g, b.toNat, none⟩ = some (.slice (some ⟨gb, 0, none⟩) rb.length cb))
  (first | exact hS3 | exact ⟨x0, x1, x2, x4, z0, z1⟩)
  ((go_at_call 145; refine ADD.out.mono ?_; rintro e wr ⟨rfl, hown, hgr⟩; have s0 := gcell hgr (a := ⟨w.heap.size, 0, none⟩) x0 (show w.heap.size ≠ gb by omega); have s1 := gcell hgr (a := ⟨w.heap.size, 1, none⟩) x1 (show w.heap.size ≠ gb by omega); have s2 := gcell hgr (a := ⟨w.heap.size, 2, none⟩) x2 (show w.heap.size ≠ gb by omega); have s4 := gcell hgr (a := ⟨w1.heap.size, 2, none⟩) x4 (show w1.heap.size ≠ gb by omega); have s5 := gcell hgr (a := ⟨g, a.toNat, none⟩) z0 hne2; have s6 := gcell hgr (a := ⟨g, b.toNat, none⟩) z1 hne2; have hS3 := And.intro s0 (And.intro s1 (And.intro s2 (And.intro s4 (And.intro s5 s6))))))
 have hgr := grownBy_trans (grownBy_drew W2 (some gb)) hgr
 have m2w := (hgr.block w1.heap.size (by omega) (by simp; omega)).trans M2.out
 have k2w := (hgr.block (w.heap.size + 1 + 1) (by omega) (by simp; omega)).trans K2.out
 have hin := HU.out.inner (r' := addRow p c rb ra) HUB.out hgr (by
  unfold OwnInts
  rw [show (addRow p c rb ra).length = rb.length by simp [addRow, HLA.out, HLB.out]]
  exact hown)
 rw [← HA.out, ← HBB.out] at hin
 have HO := Lib.hid (show OwnRows wr (w.heap.size + 3) _ _ from ⟨_, hin⟩)
 have HE := Lib.hid (HB.out.grown hgr (by omega) fun b hb => by cases hb; omega)
 clear hown hgr hin s0 s1 s2 s4 s5 s6 hS3 x0 x1 x2 x4 z0 z1 ADD
 have e0 := blk_cell m2w 0
 have e1 := blk_cell m2w 1
 have e2 := blk_cell m2w 2
 have e3 := blk_cell k2w 0
 have e4 := blk_cell k2w 1
 have e5 := blk_cell k2w 2
 have e6 := blk_free k2w 0
 have e7 := blk_free k2w 1
 have e8 := blk_free k2w 2
 simp only [List.getElem?_cons_zero, List.getElem?_cons_succ] at e0 e1 e2 e3 e4 e5
 clear m2w k2w
 go_wp2
 refine bodyPost_ret (v := .agg #[.int .i64 v, .int .i64 h, .slice (some ⟨g, 0, none⟩) rows.length gcap]) (by simp [results, Tryz.results169, go_sem, *]) rfl ⟨_, rfl, ?_, ?_⟩
 ·exact (((HO.out.setCell (by simp <;> omega) _).setCell (by simp <;> omega) _).setCell (by simp <;> omega) _).mono (by omega)
 ·exact ((HE.out.setCell (by simp <;> omega) _).setCell (by simp <;> omega) _).setCell (by simp <;> omega) _
/-- Which fields a kind uses: row, other, factor, line. -/
def fldA (k : Int) : Bool := !(k == 8 || k == 9)
def fldB (k : Int) : Bool := k == 1 || k == 6 || k == 3 || k == 7 || k == 8 || k == 9
def fldC (k : Int) : Bool := k == 2 || k == 3
def fldL (k : Int) : Bool := k == 7
theorem fieldsOf_any (k : Int) (w : World) : Calls Tryz.prog 111 #[.int .i64 k] w fun e w' =>
  e = .returned (.agg #[.bool (fldA k), .bool (fldB k), .bool (fldC k), .bool (fldL k)]) ∧ Below w.heap.size w w' := by
 by_cases h1 : k = 1
 ·subst h1; go_enter Tryz.func111, Tryz.ntmps111; go_wp2; exact bodyPost_ret (v := .agg #[.bool true, .bool true, .bool false, .bool false]) (by simp [results, Tryz.results111, go_sem]) rfl ⟨rfl, (Below.refl _ _).alloc (Nat.le_refl _) _⟩
 by_cases h6 : k = 6
 ·subst h6; go_enter Tryz.func111, Tryz.ntmps111; go_wp2; exact bodyPost_ret (v := .agg #[.bool true, .bool true, .bool false, .bool false]) (by simp [results, Tryz.results111, go_sem]) rfl ⟨rfl, (Below.refl _ _).alloc (Nat.le_refl _) _⟩
 by_cases h2 : k = 2
 ·subst h2; go_enter Tryz.func111, Tryz.ntmps111; go_wp2; exact bodyPost_ret (v := .agg #[.bool true, .bool false, .bool true, .bool false]) (by simp [results, Tryz.results111, go_sem]) rfl ⟨rfl, (Below.refl _ _).alloc (Nat.le_refl _) _⟩
 by_cases h3 : k = 3
 ·subst h3; go_enter Tryz.func111, Tryz.ntmps111; go_wp2; exact bodyPost_ret (v := .agg #[.bool true, .bool true, .bool true, .bool false]) (by simp [results, Tryz.results111, go_sem]) rfl ⟨rfl, (Below.refl _ _).alloc (Nat.le_refl _) _⟩
 by_cases h7 : k = 7
 ·subst h7; go_enter Tryz.func111, Tryz.ntmps111; go_wp2; exact bodyPost_ret (v := .agg #[.bool true, .bool true, .bool false, .bool true]) (by simp [results, Tryz.results111, go_sem]) rfl ⟨rfl, (Below.refl _ _).alloc (Nat.le_refl _) _⟩
 by_cases h8 : k = 8
 ·subst h8; go_enter Tryz.func111, Tryz.ntmps111; go_wp2; exact bodyPost_ret (v := .agg #[.bool false, .bool true, .bool false, .bool false]) (by simp [results, Tryz.results111, go_sem]) rfl ⟨rfl, (Below.refl _ _).alloc (Nat.le_refl _) _⟩
 by_cases h9 : k = 9
 ·subst h9; go_enter Tryz.func111, Tryz.ntmps111; go_wp2; exact bodyPost_ret (v := .agg #[.bool false, .bool true, .bool false, .bool false]) (by simp [results, Tryz.results111, go_sem]) rfl ⟨rfl, (Below.refl _ _).alloc (Nat.le_refl _) _⟩
 go_enter Tryz.func111, Tryz.ntmps111
 go_wp2
 exact bodyPost_ret (v := .agg #[.bool true, .bool false, .bool false, .bool false]) (by simp [results, Tryz.results111, go_sem]) rfl ⟨by simp [fldA, fldB, fldC, fldL, *], (Below.refl _ _).alloc (Nat.le_refl _) _⟩
set_option maxHeartbeats 2000000 in
theorem validSystem_any (p v h : Int) (A : Option Addr) (cap : Nat) (rows : List (List Int)) (w : World) (hP : Primes w) (hR : RowsAt w A rows) (hm : rows.length ≤ maxLen) (hms : ∀ r ∈ rows, r.length ≤ maxLen) :
  Calls Tryz.prog 94 #[.int .i64 p, .agg #[.int .i64 v, .int .i64 h, .slice A rows.length cap]] w fun e w' =>
   (sysB p v h rows = true → e = .returned (.tuple #[.agg #[.int .i64 v, .int .i64 h, .slice A rows.length cap], .bool true])) ∧ (sysB p v h rows = false → e = .returned (.tuple #[.agg #[.int .i64 0, .int .i64 0, .slice none 0 0], .bool false])) ∧ Below w.heap.size w w' := by
 have HMS := Lib.hid hms
 have HM := Lib.hid hm
 clear hms hm
 go_enter Tryz.func94, Tryz.ntmps94
 go_wp2_with fail
 have hB : Below w.heap.size w ((w.alloc (.cells #[.int .i64 v, .int .i64 h, .slice A rows.length cap] 30)).alloc (.cells #[.int .i64 0, .int .i64 0, .slice none 0 0] 30)) := ((Below.refl w.heap.size w).alloc (by simp) _).alloc (by simp) _
 refine (isSystem_any p v h A cap rows _ (hP.ext hB) (hR.ext hB) HM.out HMS.out).mono ?_
 rintro e w1 ⟨rfl, hb1⟩
 have q1 : ((w.alloc (.cells #[.int .i64 v, .int .i64 h, .slice A rows.length cap] 30)).alloc (.cells #[.int .i64 0, .int .i64 0, .slice none 0 0] 30)).heap[w.heap.size]? = some (.cells #[.int .i64 v, .int .i64 h, .slice A rows.length cap] 30 (0, 0)) := (heap_past _ _ (by simp)).trans (heap_at _ _ rfl)
 have q2 : ((w.alloc (.cells #[.int .i64 v, .int .i64 h, .slice A rows.length cap] 30)).alloc (.cells #[.int .i64 0, .int .i64 0, .slice none 0 0] 30)).heap[w.heap.size + 1]? = some (.cells #[.int .i64 0, .int .i64 0, .slice none 0 0] 30 (0, 0)) := heap_at _ _ (by simp)
 have m2w := boxb hb1 q1
 have k2w := boxb hb1 q2
 have e0 := blk_cell m2w 0
 have e1 := blk_cell m2w 1
 have e2 := blk_cell m2w 2
 have e3 := blk_cell k2w 0
 have e4 := blk_cell k2w 1
 have e5 := blk_cell k2w 2
 have e6 := blk_free k2w 0
 have e7 := blk_free k2w 1
 have e8 := blk_free k2w 2
 simp only [List.getElem?_cons_zero, List.getElem?_cons_succ] at e0 e1 e2 e3 e4 e5
 have HE := Lib.hid (hB.trans (hb1.mono (B' := w.heap.size) (by simp <;> omega)))
 clear hB hb1 q1 q2 m2w k2w
 cases hs : sysB p v h rows
 ·have HS := Lib.hid hs
  clear hs
  go_wp2
  refine bodyPost_ret (v := .tuple #[.agg #[.int .i64 0, .int .i64 0, .slice none 0 0], .bool false]) (by simp [results, Tryz.results94, go_sem, *]) rfl ⟨fun h => (by rw [HS.out] at h; cases h), fun _ => rfl, ?_⟩
  exact ((HE.out.setCell (by simp <;> omega) _).setCell (by simp <;> omega) _).setCell (by simp <;> omega) _
 ·have HS := Lib.hid hs
  clear hs
  go_wp2
  refine bodyPost_ret (v := .tuple #[.agg #[.int .i64 v, .int .i64 h, .slice A rows.length cap], .bool true]) (by simp [results, Tryz.results94, go_sem, *]) rfl ⟨fun _ => rfl, fun h => (by rw [HS.out] at h; cases h), ?_⟩
  exact ((HE.out.setCell (by simp <;> omega) _).setCell (by simp <;> omega) _).setCell (by simp <;> omega) _
/-! ### Valid systems, as facts -/
structure Sys (p v h : Int) (rows : List (List Int)) : Prop where
 f : fieldB p = true
 p2 : 2 ≤ p
 p97 : p ≤ 97
 v0 : 0 ≤ v
 v24 : v ≤ 24
 h0 : 0 ≤ h
 h100 : h ≤ 100
 n : rows.length ≤ 160
 len : ∀ r ∈ rows, (r.length : Int) = v + h
 el : ∀ r ∈ rows, ∀ x ∈ r, 0 ≤ x ∧ x < p
theorem inB_iff {n lo hi : Int} : inB n lo hi = true ↔ lo ≤ n ∧ n ≤ hi := by simp [inB]
theorem elemB_iff {p a : Int} : elemB p a = true ↔ 0 ≤ a ∧ a < p := by simp [elemB]
theorem vecB_iff {p n : Int} {xs : List Int} : vecB p xs n = true ↔ (xs.length : Int) = n ∧ ∀ x ∈ xs, 0 ≤ x ∧ x < p := by simp [vecB, elemB]
theorem rowsB_iff {p n : Int} {rows : List (List Int)} : rowsB p rows n = true ↔ ∀ r ∈ rows, (r.length : Int) = n ∧ ∀ x ∈ r, 0 ≤ x ∧ x < p := by
 simp [rowsB, vecB_iff]
theorem fieldB_bd {p : Int} (h : fieldB p = true) : 2 ≤ p ∧ p ≤ 97 := by
 unfold fieldB at h; rw [Bool.and_eq_true] at h; exact inB_iff.1 h.1
theorem sysB_iff {p v h : Int} {rows : List (List Int)} : sysB p v h rows = true ↔ Sys p v h rows := by
 unfold sysB
 simp only [Bool.and_eq_true, inB_iff, rowsB_iff, decide_eq_true_eq]
 constructor
 ·rintro ⟨a, ⟨b1, b2⟩, ⟨c1, c2⟩, d, e⟩
  exact ⟨a, (fieldB_bd a).1, (fieldB_bd a).2, b1, b2, c1, c2, d, fun r hr => (e r hr).1, fun r hr => (e r hr).2⟩
 ·intro s
  exact ⟨s.f, ⟨s.v0, s.v24⟩, ⟨s.h0, s.h100⟩, s.n, fun r hr => ⟨s.len r hr, s.el r hr⟩⟩
theorem bool_iff {a b : Bool} (h : a = true ↔ b = true) : a = b := by cases a <;> cases b <;> simp_all
/-! ### What a step does -/
/-- The fields that a kind does not name are zero. -/
def emB (k a b c : Int) (n : Nat) : Bool :=
 ((k != 8 && k != 9) || a == 0) && (((k != 2 && (k != 4 && k != 5)) || b == 0) && ((k == 2 || (k == 3 || c == 0)) && (k == 7 || n == 0)))
/-- Whether the condition of a step holds. -/
def stB (p v h : Int) (rows : List (List Int)) (k a b c : Int) (row : List Int) : Bool :=
 emB k a b c row.length &&
 (if k = 1 then inB a 0 ((rows.length : Int) - 1) && (inB b 0 ((rows.length : Int) - 1) && (a != b))
 else if k = 2 then inB a 0 ((rows.length : Int) - 1) && inB c 1 (p - 1)
 else if k = 3 then (inB a 0 ((rows.length : Int) - 1) && (inB b 0 ((rows.length : Int) - 1) && (a != b))) && inB c 0 (p - 1)
 else if k = 4 then inB a 0 ((rows.length : Int) - 1) && (rows.getD a.toNat []).all (fun x => inB x 0 0)
 else if k = 5 then inB a 0 (rows.length : Int) && decide (rows.length < 160)
 else if k = 6 then inB a 0 ((rows.length : Int) - 1) && (inB b 0 (h - 1) && aloneB (colOf rows (v + b).toNat) a)
 else if k = 7 then inB a 0 (rows.length : Int) && (inB b 0 h && (decide (rows.length < 160) && (decide (h < 100) && (decide ((row.length : Int) = v + h + 1) && (row.all (elemB p) && (row.getD (v + b).toNat 0 != 0))))))
 else if k = 8 then inB b 0 (h - 1) && (colOf rows (v + b).toNat).all (fun x => inB x 0 0)
 else if k = 9 then inB b 0 h && decide (h < 100)
 else false)
/-- What the program asks ahead of making a step. -/
def canB (p v h : Int) (rows : List (List Int)) (k a b c : Int) (row : List Int) : Bool :=
 if k = 1 then inB a 0 ((rows.length : Int) - 1) && (inB b 0 ((rows.length : Int) - 1) && (a != b))
 else if k = 2 then inB a 0 ((rows.length : Int) - 1) && (elemB p c && (c != 0))
 else if k = 3 then inB a 0 ((rows.length : Int) - 1) && (inB b 0 ((rows.length : Int) - 1) && ((a != b) && elemB p c))
 else if k = 4 then inB a 0 ((rows.length : Int) - 1) && zeroB (rows.getD a.toNat [])
 else if k = 5 then inB a 0 (rows.length : Int)
 else if k = 6 then inB a 0 ((rows.length : Int) - 1) && (inB b 0 (h - 1) && (((rows.getD a.toNat []).getD (v + b).toNat 0 != 0) && freeB rows (v + b).toNat a))
 else if k = 7 then inB a 0 (rows.length : Int) && (inB b 0 h && (vecB p row (v + h + 1) && (row.getD (v + b).toNat 0 != 0)))
 else if k = 8 then inB b 0 (h - 1) && freeB rows (v + b).toNat (-1)
 else if k = 9 then inB b 0 h
 else false
def hNew (k h : Int) : Int := if k = 6 ∨ k = 8 then h - 1 else if k = 7 ∨ k = 9 then h + 1 else h
def rowsNew (p v : Int) (rows : List (List Int)) (k a b c : Int) (row : List Int) (n : Nat) : List (List Int) :=
 if k = 1 then (rows.set a.toNat (rows.getD b.toNat [])).set b.toNat (rows.getD a.toNat [])
 else if k = 2 then rows.set a.toNat (mulRow p c (rows.getD a.toNat []))
 else if k = 3 then rows.set b.toNat (addRow p c (rows.getD b.toNat []) (rows.getD a.toNat []))
 else if k = 4 then rows.eraseIdx a.toNat
 else if k = 5 then insAt rows a.toNat (List.replicate n 0)
 else if k = 6 then (rows.map (fun r => r.eraseIdx (v + b).toNat)).eraseIdx a.toNat
 else if k = 7 then insAt (rows.map (fun r => insAt r (v + b).toNat 0)) a.toNat row
 else if k = 8 then rows.map (fun r => r.eraseIdx (v + b).toNat)
 else if k = 9 then rows.map (fun r => insAt r (v + b).toNat 0)
 else rows
/-! ### The program's conditions against the reference's -/
theorem inB00 (x : Int) : inB x 0 0 = decide (x = 0) := by
 apply bool_iff; rw [inB_iff, decide_eq_true_eq]; omega
theorem all00 (xs : List Int) : xs.all (fun x => inB x 0 0) = zeroB xs := by simp only [inB00]; rfl
theorem alone_iff {xs : List Int} {a : Int} : aloneB xs a = true ↔ ∀ (k : Nat) (x : Int), xs[k]? = some x → ((k : Int) = a ↔ x ≠ 0) := by
 unfold aloneB
 simp only [List.all_eq_true, beq_iff_eq]
 constructor
 ·intro H k x hx
  have := H (x, k) (by rw [List.mem_iff_getElem?]; exact ⟨k, by simp [hx]⟩)
  exact decide_eq_decide.1 this
 ·intro H y hy
  obtain ⟨k, hk⟩ := List.mem_iff_getElem?.1 hy
  rw [List.getElem?_zipIdx] at hk
  cases hx : xs[k]? with
  | none => simp [hx] at hk
  | some x => simp [hx] at hk; subst hk; exact decide_eq_decide.2 (H k x hx)
theorem free_iff {rows : List (List Int)} {c : Nat} {but : Int} : freeB rows c but = true ↔ ∀ (k : Nat) (r : List Int), rows[k]? = some r → (k : Int) = but ∨ r.getD c 0 = 0 := by
 unfold freeB
 simp only [List.all_eq_true, Bool.or_eq_true, decide_eq_true_eq]
 constructor
 ·intro H k r hr
  exact H (r, k) (by rw [List.mem_iff_getElem?]; exact ⟨k, by simp [hr]⟩)
 ·intro H y hy
  obtain ⟨k, hk⟩ := List.mem_iff_getElem?.1 hy
  rw [List.getElem?_zipIdx] at hk
  cases hx : rows[k]? with
  | none => simp [hx] at hk
  | some x => simp [hx] at hk; subst hk; exact H k x hx
theorem col_get {rows : List (List Int)} {c k : Nat} {x : Int} : (colOf rows c)[k]? = some x ↔ ∃ r, rows[k]? = some r ∧ r.getD c 0 = x := by
 unfold colOf; rw [List.getElem?_map]; cases rows[k]? <;> simp
theorem solve_alone {rows : List (List Int)} {c : Nat} {a : Int} (h0 : 0 ≤ a) (h1 : a ≤ (rows.length : Int) - 1) :
  (((rows.getD a.toNat []).getD c 0 != 0) && freeB rows c a) = aloneB (colOf rows c) a := by
 apply bool_iff
 rw [Bool.and_eq_true, free_iff, alone_iff]
 have hlt : a.toNat < rows.length := by omega
 have hg : rows[a.toNat]? = some rows[a.toNat] := List.getElem?_eq_getElem hlt
 have hd : rows.getD a.toNat [] = rows[a.toNat] := by simp [List.getD, hg]
 rw [hd]
 constructor
 ·rintro ⟨hn, hf⟩ k x hx
  obtain ⟨r, hr, rfl⟩ := col_get.1 hx
  constructor
  ·intro hk
   have : k = a.toNat := by omega
   subst this
   rw [hg] at hr; cases hr
   simpa using hn
  ·intro hx'
   rcases hf k r hr with h | h
   ·exact h
   ·exact absurd h hx'
 ·intro H
  constructor
  ·have := (H a.toNat _ (col_get.2 ⟨_, hg, rfl⟩)).1 (by omega)
   simpa using this
  ·intro k r hr
   have := H k _ (col_get.2 ⟨r, hr, rfl⟩)
   by_cases hk : (k : Int) = a
   ·exact Or.inl hk
   ·right
    by_cases hz : r.getD c 0 = 0
    ·exact hz
    ·exact absurd (this.2 hz) hk
theorem forget_zero (rows : List (List Int)) (c : Nat) : freeB rows c (-1) = zeroB (colOf rows c) := by
 apply bool_iff
 rw [free_iff]
 unfold zeroB
 simp only [List.all_eq_true, decide_eq_true_eq]
 constructor
 ·intro H x hx
  obtain ⟨k, hk⟩ := List.mem_iff_getElem?.1 hx
  obtain ⟨r, hr, rfl⟩ := col_get.1 hk
  rcases H k r hr with h | h
  ·omega
  ·exact h
 ·intro H k r hr
  exact Or.inr (H _ (List.mem_iff_getElem?.2 ⟨k, col_get.2 ⟨r, hr, rfl⟩⟩))
/-! ### The rows that a step makes are valid -/
theorem getD_mem {rows : List (List Int)} {k : Nat} (h : k < rows.length) : rows.getD k [] ∈ rows := by
 rw [List.getD_eq_getElem?_getD, List.getElem?_eq_getElem h]; exact List.getElem_mem h
theorem mem_set {α : Type} {l : List α} {k : Nat} {x y : α} (h : y ∈ l.set k x) : y ∈ l ∨ y = x := List.mem_or_eq_of_mem_set h
theorem mem_insAt {α : Type} {l : List α} {k : Nat} {x y : α} (h : y ∈ insAt l k x) : y ∈ l ∨ y = x := by
 unfold insAt at h
 rcases List.mem_append.1 h with h | h
 ·exact Or.inl (List.mem_of_mem_take h)
 ·rcases List.mem_cons.1 h with h | h
  ·exact Or.inr h
  ·exact Or.inl (List.mem_of_mem_drop h)
theorem len_insAt {α : Type} (l : List α) (k : Nat) (x : α) : (insAt l k x).length = l.length + 1 := by
 unfold insAt; simp; omega
theorem sys_rows {p v h h' : Int} {rows rows' : List (List Int)} (s : Sys p v h rows) (a : 0 ≤ h') 
  (H : ∀ r ∈ rows', (r.length : Int) = v + h' ∧ ∀ x ∈ r, 0 ≤ x ∧ x < p) : sysB p v h' rows' = (decide (h' ≤ 100) && decide (rows'.length ≤ 160)) := by
 apply bool_iff
 rw [sysB_iff, Bool.and_eq_true, decide_eq_true_eq, decide_eq_true_eq]
 exact ⟨fun t => ⟨t.h100, t.n⟩, fun t => ⟨s.f, s.p2, s.p97, s.v0, s.v24, a, t.1, t.2, fun r hr => (H r hr).1, fun r hr => (H r hr).2⟩⟩
theorem mod_elem {p x : Int} (h : 2 ≤ p) : 0 ≤ x % p ∧ x % p < p := ⟨Int.emod_nonneg _ (by omega), Int.emod_lt_of_pos _ (by omega)⟩
theorem addRow_len (p b : Int) (xs ys : List Int) : (addRow p b xs ys).length = min xs.length ys.length := by simp [addRow]
theorem addRow_el {p b : Int} {xs ys : List Int} (h : 2 ≤ p) : ∀ x ∈ addRow p b xs ys, 0 ≤ x ∧ x < p := by
 intro x hx
 unfold addRow at hx
 obtain ⟨k, hk⟩ := List.mem_iff_getElem?.1 hx
 rw [List.getElem?_zipWith] at hk
 cases h1 : xs[k]? <;> cases h2 : ys[k]? <;> simp [h1, h2] at hk
 subst hk
 exact mod_elem h
theorem mulRow_el {p b : Int} {xs : List Int} (h : 2 ≤ p) : ∀ x ∈ mulRow p b xs, 0 ≤ x ∧ x < p := by
 intro x hx
 obtain ⟨y, _, rfl⟩ := List.mem_map.1 hx
 exact mod_elem h
/-- What is said of each new row: how long it is, and that it holds elements. -/
abbrev Good (p n : Int) (r : List Int) : Prop := (r.length : Int) = n ∧ ∀ x ∈ r, 0 ≤ x ∧ x < p
theorem erase_good {p n : Int} {r : List Int} {k : Nat} (g : Good p n r) (hk : k < r.length) : Good p (n - 1) (r.eraseIdx k) := by
 refine ⟨?_, fun x hx => g.2 x (List.mem_of_mem_eraseIdx hx)⟩
 rw [List.length_eraseIdx_of_lt hk]; have := g.1; omega
theorem ins_good {p n : Int} {r : List Int} {k : Nat} (hp : 2 ≤ p) (g : Good p n r) : Good p (n + 1) (insAt r k 0) := by
 refine ⟨?_, fun x hx => ?_⟩
 ·rw [len_insAt]; have := g.1; omega
 ·rcases mem_insAt hx with h | rfl
  ·exact g.2 x h
  ·omega
theorem Sys.good {p v h : Int} {rows : List (List Int)} (s : Sys p v h rows) : ∀ r ∈ rows, Good p (v + h) r := fun r hr => ⟨s.len r hr, s.el r hr⟩
theorem rowsNew_good {p v h : Int} {rows : List (List Int)} (s : Sys p v h rows) {k a b c : Int} {row : List Int}
  (hc : canB p v h rows k a b c row = true) : (∀ r ∈ rowsNew p v rows k a b c row (v + h).toNat, Good p (v + hNew k h) r) ∧ 0 ≤ hNew k h ∧
   (rowsNew p v rows k a b c row (v + h).toNat).length ≤ 161 := by
 have hn := s.n
 have h0 := s.h0
 have hv0 := s.v0
 have G := s.good
 have hG : ∀ i : Int, 0 ≤ i → i ≤ (rows.length : Int) - 1 → Good p (v + h) (rows.getD i.toNat []) := fun i h1 h2 => G _ (getD_mem (by omega))
 unfold canB at hc
 unfold rowsNew hNew
 by_cases h1 : k = 1
 ·subst h1
  simp only [if_true, Bool.and_eq_true, inB_iff] at hc
  obtain ⟨⟨a1, a2⟩, ⟨b1, b2⟩, _⟩ := hc
  refine ⟨?_, by simpa using h0, by simp; omega⟩
  simp
  intro r hr
  rcases mem_set hr with hr | rfl
  ·rcases mem_set hr with hr | rfl
   ·exact G r hr
   ·exact hG b b1 b2
  ·exact hG a a1 a2
 by_cases h2 : k = 2
 ·subst h2
  simp [inB_iff, elemB_iff] at hc
  obtain ⟨⟨a1, a2⟩, _⟩ := hc
  refine ⟨?_, by simpa using h0, by simp; omega⟩
  simp
  intro r hr
  rcases mem_set hr with hr | rfl
  ·exact G r hr
  ·exact ⟨by have := (hG a a1 a2).1; simpa [mulRow] using this, mulRow_el s.p2⟩
 by_cases h3 : k = 3
 ·subst h3
  simp [inB_iff, elemB_iff] at hc
  obtain ⟨⟨a1, a2⟩, ⟨b1, b2⟩, _⟩ := hc
  refine ⟨?_, by simpa using h0, by simp; omega⟩
  simp
  intro r hr
  rcases mem_set hr with hr | rfl
  ·exact G r hr
  ·refine ⟨?_, addRow_el s.p2⟩
   rw [addRow_len]
   have h5 := (hG a a1 a2).1
   have h6 := (hG b b1 b2).1
   simp only [List.getD_eq_getElem?_getD] at h5 h6
   omega
 by_cases h4 : k = 4
 ·subst h4
  refine ⟨?_, by simpa using h0, by simp [List.length_eraseIdx]; split <;> omega⟩
  simp
  intro r hr
  exact G r (List.mem_of_mem_eraseIdx hr)
 by_cases h5 : k = 5
 ·subst h5
  refine ⟨?_, by simpa using h0, by simp [len_insAt]; omega⟩
  simp
  intro r hr
  rcases mem_insAt hr with hr | rfl
  ·exact G r hr
  ·exact ⟨by simp; omega, fun x hx => by rw [List.eq_of_mem_replicate hx]; have := s.p2; omega⟩
 by_cases h6 : k = 6
 ·subst h6
  simp [inB_iff] at hc
  obtain ⟨⟨a1, a2⟩, ⟨b1, b2⟩, _⟩ := hc
  refine ⟨?_, by simp; omega, by simp [List.length_eraseIdx]; split <;> omega⟩
  simp
  intro r hr
  obtain ⟨q, hq, rfl⟩ := List.mem_map.1 (List.mem_of_mem_eraseIdx hr)
  have := erase_good (k := (v + b).toNat) (G q hq) (by have := (G q hq).1; omega)
  exact ⟨by have := this.1; omega, this.2⟩
 by_cases h7 : k = 7
 ·subst h7
  simp [inB_iff, vecB_iff] at hc
  obtain ⟨⟨a1, a2⟩, ⟨b1, b2⟩, ⟨l1, l2⟩, _⟩ := hc
  refine ⟨?_, by simp; omega, by simp [len_insAt]; omega⟩
  simp
  intro r hr
  rcases mem_insAt hr with hr | rfl
  ·obtain ⟨q, hq, rfl⟩ := List.mem_map.1 hr
   have := ins_good (k := (v + b).toNat) s.p2 (G q hq)
   exact ⟨by have := this.1; omega, this.2⟩
  ·exact ⟨by omega, l2⟩
 by_cases h8 : k = 8
 ·subst h8
  simp [inB_iff] at hc
  obtain ⟨⟨b1, b2⟩, _⟩ := hc
  refine ⟨?_, by simp; omega, by simp; omega⟩
  simp
  intro q hq
  have := erase_good (k := (v + b).toNat) (G q hq) (by have := (G q hq).1; omega)
  exact ⟨by have := this.1; omega, this.2⟩
 by_cases h9 : k = 9
 ·subst h9
  simp [inB_iff] at hc
  refine ⟨?_, by simp; omega, by simp; omega⟩
  simp
  intro q hq
  have := ins_good (k := (v + b).toNat) s.p2 (G q hq)
  exact ⟨by have := this.1; omega, this.2⟩
 simp [*] at hc
theorem stB_eq {p v h : Int} {rows : List (List Int)} (s : Sys p v h rows) (k a b c : Int) (row : List Int) :
  stB p v h rows k a b c row = (emB k a b c row.length && (canB p v h rows k a b c row && sysB p v (hNew k h) (rowsNew p v rows k a b c row (v + h).toNat))) := by
 unfold stB
 congr 1
 cases hc : canB p v h rows k a b c row with
 | false =>
  rw [Bool.false_and]
  unfold canB at hc
  by_cases h1 : k = 1
  ·subst h1; simpa using hc
  by_cases h2 : k = 2
  ·subst h2
   simp only [show (2 : Int) = 1 ↔ False by decide, if_false, if_true] at hc ⊢
   rw [← hc]; congr 1; apply bool_iff; simp [inB_iff, elemB_iff]; omega
  by_cases h3 : k = 3
  ·subst h3
   simp only [show (3 : Int) = 1 ↔ False by decide, show (3 : Int) = 2 ↔ False by decide, if_false, if_true] at hc ⊢
   rw [← hc, Bool.and_assoc, Bool.and_assoc]
   congr 3; apply bool_iff; simp [inB_iff, elemB_iff]; omega
  by_cases h4 : k = 4
  ·subst h4; simp [all00] at hc ⊢; exact hc
  by_cases h5 : k = 5
  ·subst h5; simp at hc ⊢; intro h; rw [h] at hc; cases hc
  by_cases h6 : k = 6
  ·subst h6
   simp only [show (6 : Int) = 1 ↔ False by decide, show (6 : Int) = 2 ↔ False by decide, show (6 : Int) = 3 ↔ False by decide, show (6 : Int) = 4 ↔ False by decide, show (6 : Int) = 5 ↔ False by decide, if_false, if_true] at hc ⊢
   cases ha : inB a 0 ((rows.length : Int) - 1) with
   | false => rfl
   | true => obtain ⟨a1, a2⟩ := inB_iff.1 ha; rw [ha, solve_alone a1 a2] at hc; exact hc
  by_cases h7 : k = 7
  ·subst h7
   simp only [show (7 : Int) = 1 ↔ False by decide, show (7 : Int) = 2 ↔ False by decide, show (7 : Int) = 3 ↔ False by decide, show (7 : Int) = 4 ↔ False by decide, show (7 : Int) = 5 ↔ False by decide, show (7 : Int) = 6 ↔ False by decide, if_false, if_true] at hc ⊢
   rw [show vecB p row (v + h + 1) = (decide ((row.length : Int) = v + h + 1) && row.all (elemB p)) from rfl] at hc
   cases q1 : inB a 0 (rows.length : Int) <;> cases q2 : inB b 0 h <;> cases q3 : decide ((row.length : Int) = v + h + 1) <;> cases q4 : row.all (elemB p) <;> cases q5 : (row.getD (v + b).toNat 0 != 0) <;> simp_all
  by_cases h8 : k = 8
  ·subst h8; simp [all00, forget_zero] at hc ⊢; exact hc
  by_cases h9 : k = 9
  ·subst h9; simp at hc ⊢; intro h; rw [h] at hc; cases hc
  simp [*]
 | true =>
  obtain ⟨g1, g2, g3⟩ := rowsNew_good s hc
  rw [Bool.true_and, sys_rows s g2 g1]
  clear g1 g2 g3
  have hn := s.n
  have h100 := s.h100
  unfold canB at hc
  unfold rowsNew hNew
  by_cases h1 : k = 1
  ·subst h1
   simp at hc ⊢
   simp [hc, hn, h100]
  by_cases h2 : k = 2
  ·subst h2
   simp [inB_iff, elemB_iff] at hc
   simp [hn, h100]
   exact ⟨inB_iff.2 hc.1, inB_iff.2 (by omega)⟩
  by_cases h3 : k = 3
  ·subst h3
   simp [inB_iff, elemB_iff] at hc
   simp [hn, h100]
   exact ⟨⟨inB_iff.2 hc.1, inB_iff.2 hc.2.1, hc.2.2.1⟩, inB_iff.2 (by omega)⟩
  by_cases h4 : k = 4
  ·subst h4
   simp at hc
   simp [h100, all00, hc, List.length_eraseIdx]
   split <;> omega
  by_cases h5 : k = 5
  ·subst h5
   simp at hc
   simp [h100, hc, len_insAt]
   omega
  by_cases h6 : k = 6
  ·subst h6
   simp only [show (6 : Int) = 1 ↔ False by decide, show (6 : Int) = 2 ↔ False by decide, show (6 : Int) = 3 ↔ False by decide, show (6 : Int) = 4 ↔ False by decide, show (6 : Int) = 5 ↔ False by decide, if_false, if_true, Bool.and_eq_true] at hc ⊢
   obtain ⟨a1, b1, c1⟩ := hc
   obtain ⟨a2, a3⟩ := inB_iff.1 a1
   rw [a1, b1, ← solve_alone a2 a3]
   have c2 := c1.1
   have c3 := c1.2
   rw [c2, c3]
   simp [List.length_eraseIdx]
   refine ⟨by omega, ?_⟩
   split <;> omega
  by_cases h7 : k = 7
  ·subst h7
   simp only [show (7 : Int) = 1 ↔ False by decide, show (7 : Int) = 2 ↔ False by decide, show (7 : Int) = 3 ↔ False by decide, show (7 : Int) = 4 ↔ False by decide, show (7 : Int) = 5 ↔ False by decide, show (7 : Int) = 6 ↔ False by decide, if_false, if_true] at hc ⊢
   rw [show vecB p row (v + h + 1) = (decide ((row.length : Int) = v + h + 1) && row.all (elemB p)) from rfl] at hc
   simp only [Bool.and_eq_true] at hc
   obtain ⟨a1, b1, ⟨c1, d1⟩, e1⟩ := hc
   rw [a1, b1, c1, d1, e1]
   apply bool_iff; simp [len_insAt]; omega
  by_cases h8 : k = 8
  ·subst h8
   simp [forget_zero] at hc
   simp [all00, hc, hn]
   omega
  by_cases h9 : k = 9
  ·subst h9
   simp at hc
   simp [hc, hn]
   omega
  simp [*] at hc
theorem cast0 (n : Nat) : ((n : Int) == 0) = (n == 0) := by rw [Bool.eq_iff_iff]; simp
set_option maxHeartbeats 4000000 in
theorem stEmpty_any (k a b c : Int) (A : Option Addr) (n cap : Nat) (w : World) (hn : n ≤ 1048576) :
  Calls Tryz.prog 81 #[.agg #[.int .i64 k, .int .i64 a, .int .i64 b, .int .i64 c, .slice A n cap]] w fun e w' => e = .returned (.bool (emB k a b c n)) ∧ Below w.heap.size w w' := by
 by_cases h1 : k = 1
 ·subst h1
  go_enter Tryz.func81, Tryz.ntmps81
  go_wp2
  all_goals
   go_ret
   exact ⟨ret_bool (by simp [emB, cast0, *]), (Below.refl _ _).alloc (Nat.le_refl _) _⟩
 by_cases h2 : k = 2
 ·subst h2
  go_enter Tryz.func81, Tryz.ntmps81
  go_wp2
  all_goals
   go_ret
   exact ⟨ret_bool (by simp [emB, cast0, *]), (Below.refl _ _).alloc (Nat.le_refl _) _⟩
 by_cases h3 : k = 3
 ·subst h3
  go_enter Tryz.func81, Tryz.ntmps81
  go_wp2
  all_goals
   go_ret
   exact ⟨ret_bool (by simp [emB, cast0, *]), (Below.refl _ _).alloc (Nat.le_refl _) _⟩
 by_cases h4 : k = 4
 ·subst h4
  go_enter Tryz.func81, Tryz.ntmps81
  go_wp2
  all_goals
   go_ret
   exact ⟨ret_bool (by simp [emB, cast0, *]), (Below.refl _ _).alloc (Nat.le_refl _) _⟩
 by_cases h5 : k = 5
 ·subst h5
  go_enter Tryz.func81, Tryz.ntmps81
  go_wp2
  all_goals
   go_ret
   exact ⟨ret_bool (by simp [emB, cast0, *]), (Below.refl _ _).alloc (Nat.le_refl _) _⟩
 by_cases h6 : k = 6
 ·subst h6
  go_enter Tryz.func81, Tryz.ntmps81
  go_wp2
  all_goals
   go_ret
   exact ⟨ret_bool (by simp [emB, cast0, *]), (Below.refl _ _).alloc (Nat.le_refl _) _⟩
 by_cases h7 : k = 7
 ·subst h7
  go_enter Tryz.func81, Tryz.ntmps81
  go_wp2
  all_goals
   go_ret
   exact ⟨ret_bool (by simp [emB, cast0, *]), (Below.refl _ _).alloc (Nat.le_refl _) _⟩
 by_cases h8 : k = 8
 ·subst h8
  go_enter Tryz.func81, Tryz.ntmps81
  go_wp2
  all_goals
   go_ret
   exact ⟨ret_bool (by simp [emB, cast0, *]), (Below.refl _ _).alloc (Nat.le_refl _) _⟩
 by_cases h9 : k = 9
 ·subst h9
  go_enter Tryz.func81, Tryz.ntmps81
  go_wp2
  all_goals
   go_ret
   exact ⟨ret_bool (by simp [emB, cast0, *]), (Below.refl _ _).alloc (Nat.le_refl _) _⟩
 have e2 : (k == 2) = false := by simpa using h2
 have e3 : (k == 3) = false := by simpa using h3
 have e7 : (k == 7) = false := by simpa using h7
 have n8 : (k != 8) = true := by simpa using h8
 have n9 : (k != 9) = true := by simpa using h9
 have n2 : (k != 2) = true := by simpa using h2
 have n4 : (k != 4) = true := by simpa using h4
 have n5 : (k != 5) = true := by simpa using h5
 have HH := Lib.hid (And.intro h2 (And.intro h3 (And.intro h7 (And.intro h8 (And.intro h9 (And.intro h4 h5))))))
 clear h1 h2 h3 h4 h5 h6 h7 h8 h9
 go_enter Tryz.func81, Tryz.ntmps81
 go_wp2
 all_goals
  go_ret
  obtain ⟨h2, h3, h7, h8, h9, h4, h5⟩ := HH.out
  exact ⟨ret_bool (by simp [emB, cast0, *]), (Below.refl _ _).alloc (Nat.le_refl _) _⟩
end Go.Proofs.YtjdbfokbgmbphaaGreatDoor
