/- rowOperation.apply: a multiple of a row taken from another row. Conditions: rows of the right shape. | The step of a reduction (a closure): the same row operation on two lists of rows. Conditions: rows of the right shape. | The steps of a reduction on two lists of rows, for its walk. Conditions: rows of the right shape. | reduction: the elimination, in place, on rows and on rows carried along. Conditions: rows of the right shape. -/
import Derived.Test.YtjdbfokbgmbphaaGreatDoorPk43
import Derived.Test.YtjdbfokbgmbphaaGreatDoorPk42
namespace Go.Proofs.YtjdbfokbgmbphaaGreatDoor
set_option linter.unusedVariables false
set_option linter.unusedSimpArgs false
open Go.RowKit
set_option maxRecDepth 100000 in
set_option maxHeartbeats 4000000 in
theorem applySub_any (p c : Int) (a b lo hi n cap N m : Nat) (A : Option Addr) (M : List (List Int)) (us : List Value) (w : World) (h : HasW w lo hi (.slice A n cap) M us) (hiw : hi ≤ w.heap.size) (hp : 2 ≤ p) (hp' : p ≤ 97) (hc : 0 ≤ c) (hc' : c < p) (ha : a < M.length) (hb : b < M.length) (hab : a ≠ b) (hs : Shp p N m M) (hm : m ≤ 1048576) :
  Calls Tryz.prog 144 #[.agg #[.int .i64 2, .int .i64 a, .int .i64 b, .int .i64 c], .int .i64 p, .slice A n cap] w (Chg lo hi (.slice A n cap) (M.set a (addRow p (-c) (M.getD a []) (M.getD b []))) w) := by
 obtain ⟨ra, hra⟩ := get_of_lt ha
 obtain ⟨rb, hrb⟩ := get_of_lt hb
 have HSC := Lib.hid (show M.set a (addRow p (-c) (M.getD a []) (M.getD b [])) = M.set a (addRow p (-c) ra rb) by rw [getD_some hra, getD_some hrb])
 have HLA := Lib.hid (hs.row ra (List.mem_of_getElem? hra))
 have HLB := Lib.hid (hs.row rb (List.mem_of_getElem? hrb))
 have HXA := Lib.hid (show ∀ x ∈ ra, 0 ≤ x ∧ x ≤ 1000 from fun x hx => by have := hs.el ra (List.mem_of_getElem? hra) x hx; omega)
 have HXB := Lib.hid (show ∀ x ∈ rb, 0 ≤ x ∧ x ≤ 1000 from fun x hx => by have := hs.el rb (List.mem_of_getElem? hrb) x hx; omega)
 have hn : n = M.length := by
  obtain ⟨g, cap', e, _⟩ := h.own.form (by omega)
  simp only [Value.slice.injEq] at e; exact e.2.1
 subst hn
 clear hs
 go_enter Tryz.func144, Tryz.ntmps144
 go_upto_region 12 with (fail)
 have hB : Below w.heap.size w (w.alloc (.cells #[.int .i64 2, .int .i64 a, .int .i64 b, .int .i64 c] 147)) := (Below.refl _ _).alloc (Nat.le_refl _) _
 have h2 := h.ext hB
 obtain ⟨g, Aa, ca, rfl, hua, hca, hfa, hg1, hg2, hoa⟩ := h2.own.at hra
 obtain ⟨g', Ab, cb, e', hub, hcb, hfb, _, _, hob⟩ := h2.own.at hrb
 cases e'
 have hgh := h.up g rfl
 have hq : (w.alloc (.cells #[.int .i64 2, .int .i64 a, .int .i64 b, .int .i64 c] 147)).heap[w.heap.size]? = some (.cells #[.int .i64 2, .int .i64 a, .int .i64 b, .int .i64 c] 147 (0, 0)) := heap_at _ _ rfl
 obtain ⟨W2, hW2⟩ : ∃ W2, W2 = w.alloc (.cells #[.int .i64 2, .int .i64 a, .int .i64 b, .int .i64 c] 147) := ⟨_, rfl⟩
 rw [← hW2] at hB h2 hca hfa hcb hfb hq hoa hob ⊢
 have x1 := blk_cell hq 1
 have x2 := blk_cell hq 2
 have x3 := blk_cell hq 3
 simp only [List.getElem?_cons_zero, List.getElem?_cons_succ] at x1 x2 x3
 have hwn : IntKind.i64.wrap (-c) = -c := by rw [IntKind.wrap_i64]; omega
 have H2 := Lib.hid h2; have HUA := Lib.hid hua; have HUB := Lib.hid hub; have HOA := Lib.hid hoa; have HB := Lib.hid hB; have HUP := Lib.hid (h2.ups _ (List.mem_of_getElem? hua))
 have hap := Lib.hid (apart_types' h2.own.outer hoa)
 have hne : g ≠ w.heap.size := by omega
 have hIb := hob.view
 obtain ⟨_, _, eb, hIb, _⟩ := hIb
 simp only [Value.slice.injEq] at eb
 obtain ⟨rfl, _, rfl⟩ := eb
 rcases Nat.eq_zero_or_pos m with h0 | h0
 ·obtain rfl : ra = [] := List.eq_nil_of_length_eq_zero (by rw [HLA.out]; exact h0)
  obtain rfl : rb = [] := List.eq_nil_of_length_eq_zero (by rw [HLB.out]; exact h0)
  have ADD := Lib.hid (addTimes_nil p (-c) Aa Ab ca cb W2.drew)
  clear hW2 hua hub hq hB h2 h hra hrb hoa hob hIb
  simp only [List.length_nil] at hca hcb
  go_region_held3 (fun w' => w'.cell? ⟨w.heap.size, 1, none⟩ = some (.int .i64 a) ∧ w'.cell? ⟨w.heap.size, 2, none⟩ = some (.int .i64 b) ∧ w'.cell? ⟨w.heap.size, 3, none⟩ = some (.int .i64 c) ∧ w'.cell? ⟨g, a, none⟩ = some (.slice Aa 0 ca) ∧ w'.cell? ⟨g, b, none⟩ = some (.slice Ab 0 cb))
   (first | exact ⟨x1, x2, x3, hca, hcb⟩)
   ((go_at_call 145; refine ADD.out.mono ?_; rintro e wr ⟨rfl, rfl⟩))
  go_wp2
  go_end0
  refine ⟨rfl, ⟨us, ?_⟩, (Within.of_below HB.out).trans (Within.of_below (Below.refl _ _).drew)⟩
  rw [HSC.out, show addRow p (-c) [] [] = ([] : List Int) from rfl, set_same (by
   obtain ⟨r, h1, ho⟩ := H2.out.own.getR HUA.out
   have := World.ownsRow.form ho
   obtain ⟨_, _, e, _, _⟩ := ho.view
   simp only [Value.slice.injEq] at e
   rw [h1, List.eq_nil_of_length_eq_zero e.2.1.symm])]
  exact H2.out.ext (Below.refl _ _).drew
 ·obtain ⟨ga, rfl, hga, _⟩ := own_at1 hoa (by have := HLA.out; omega)
  obtain ⟨gb, rfl, hgb, _⟩ := own_at1 hob (by have := HLB.out; omega)
  have hga' := HUP.out ga rfl
  have hneab : gb ≠ ga := fun e => by
   have := h2.own.apart _ _ _ _ ga hua hub rfl (by rw [← e]; rfl)
   omega
  have hne2 : g ≠ ga := by
   rcases hap.out with h1 | h1
   ·cases h1
   ·exact fun e => h1 (by rw [e]; rfl)
  have ADD := Lib.hid (addTimes_any p (-c) lo ga ca cb (some ⟨gb, 0, none⟩) ra rb W2.drew (by omega) (by omega) (by omega) (by omega) (World.ownsRow.drew hoa) (hIb.ext (Below.refl _ _).drew) (fun b o e => by simp only [Option.some.injEq, Addr.mk.injEq] at e; omega) (by rw [HLA.out, HLB.out]) (by rw [HLA.out]; exact hm) HXA.out HXB.out)
  clear hW2 hua hub hq hB h2 h hra hrb hoa hob hIb
  go_region_held3 (fun w' => w'.cell? ⟨w.heap.size, 1, none⟩ = some (.int .i64 a) ∧ w'.cell? ⟨w.heap.size, 2, none⟩ = some (.int .i64 b) ∧ w'.cell? ⟨w.heap.size, 3, none⟩ = some (.int .i64 c) ∧ w'.cell? ⟨g, a, none⟩ = some (.slice (some ⟨ga, 0, none⟩) ra.length ca) ∧ w'.cell? ⟨g, b, none⟩ = some (.slice (some ⟨gb, 0, none⟩) rb.length cb))
   (first | exact hS3 | exact ⟨x1, x2, x3, hca, hcb⟩)
   ((go_at_call 145; refine ADD.out.mono ?_; rintro e wr ⟨rfl, hown, hgr⟩; have s1 := gcell hgr (a := ⟨w.heap.size, 1, none⟩) x1 (show w.heap.size ≠ ga by omega); have s2 := gcell hgr (a := ⟨w.heap.size, 2, none⟩) x2 (show w.heap.size ≠ ga by omega); have s3 := gcell hgr (a := ⟨w.heap.size, 3, none⟩) x3 (show w.heap.size ≠ ga by omega); have s5 := gcell hgr (a := ⟨g, a, none⟩) hca hne2; have s6 := gcell hgr (a := ⟨g, b, none⟩) hcb hne2; have hS3 := And.intro s1 (And.intro s2 (And.intro s3 (And.intro s5 s6)))))
  have hgr := grownBy_trans (grownBy_drew W2 (some ga)) hgr
  have HN := Lib.hid (H2.out.inner (r' := addRow p (-c) ra rb) HUA.out hgr (by
   unfold OwnInts
   rw [show (addRow p (-c) ra rb).length = ra.length by simp [addRow, HLA.out, HLB.out]]
   exact hown))
  have HE := Lib.hid (show Within lo hi w wr from (Within.of_below HB.out).trans (Within.of_grown hgr hga hga'))
  clear hown hgr hS3 s1 s2 s3 s5 s6
  go_wp2
  go_end0
  exact ⟨rfl, ⟨_, by rw [HSC.out]; exact HN.out⟩, HE.out⟩
/-- What a change of both lists hands back. -/
def Both (lo1 hi1 lo2 hi2 : Nat) (v1 v2 : Value) (M X : List (List Int)) (w : World) (e : Ending) (w' : World) : Prop :=
 e = .returned (.tuple #[]) ∧ Has w' lo1 hi1 v1 M ∧ Has w' lo2 hi2 v2 X ∧ Within lo1 hi2 w w'
set_option maxRecDepth 100000 in
set_option maxHeartbeats 4000000 in
theorem stepOp_go (p k a b c : Int) (lo1 hi1 lo2 hi2 n1 n2 cap1 cap2 bp br ba : Nat) (A1 A2 : Option Addr) (M X M' X' : List (List Int)) (us2 : List Value) (w : World)
  (hp : w.cell? ⟨bp, 0, none⟩ = some (.int .i64 p)) (hr : w.cell? ⟨br, 0, none⟩ = some (.slice A1 n1 cap1)) (ha : w.cell? ⟨ba, 0, none⟩ = some (.slice A2 n2 cap2))
  (hbp : bp < lo1 ∨ hi1 ≤ bp) (hba : ba < lo1 ∨ hi1 ≤ ba) (h2 : HasW w lo2 hi2 (.slice A2 n2 cap2) X us2) (h12 : hi1 ≤ lo2) (hl2 : lo2 ≤ hi2) (hl1 : lo1 ≤ hi1) (h2w : hi2 ≤ w.heap.size)
  (hno : ¬ k = 0 ∨ (k = 0 ∧ ¬ b = a))
  (C1 : ∀ W, Below w.heap.size w W → Calls Tryz.prog 144 #[.agg #[.int .i64 k, .int .i64 a, .int .i64 b, .int .i64 c], .int .i64 p, .slice A1 n1 cap1] W (Chg lo1 hi1 (.slice A1 n1 cap1) M' W))
  (C2 : ∀ W, hi2 ≤ W.heap.size → HasW W lo2 hi2 (.slice A2 n2 cap2) X us2 → Calls Tryz.prog 144 #[.agg #[.int .i64 k, .int .i64 a, .int .i64 b, .int .i64 c], .int .i64 p, .slice A2 n2 cap2] W (Chg lo2 hi2 (.slice A2 n2 cap2) X' W)) :
  Calls Tryz.prog 143 #[.agg #[.int .i64 k, .int .i64 a, .int .i64 b, .int .i64 c], .pointer (some ⟨bp, 0, none⟩), .pointer (some ⟨br, 0, none⟩), .pointer (some ⟨ba, 0, none⟩)] w (Both lo1 hi1 lo2 hi2 (.slice A1 n1 cap1) (.slice A2 n2 cap2) M' X' w) := by
 have H1 := Lib.hid C1; have H2 := Lib.hid C2
 clear C1 C2
 have HH2 := Lib.hid h2; have hpb := block_of hp; have hrb := block_of hr; have hab := block_of ha
 clear h2
 have hB : Below w.heap.size w (w.alloc (.cells #[.int .i64 k, .int .i64 a, .int .i64 b, .int .i64 c] 147)) := (Below.refl _ _).alloc (Nat.le_refl _) _
 have HB := Lib.hid hB
 have HQ := Lib.hid (show (w.alloc (.cells #[.int .i64 k, .int .i64 a, .int .i64 b, .int .i64 c] 147)).heap[w.heap.size]? = some (.cells #[.int .i64 k, .int .i64 a, .int .i64 b, .int .i64 c] 147 (0, 0)) from heap_at _ _ rfl)
 clear hB
 rcases hno with hk | ⟨rfl, hk⟩
 ·
  go_enter Tryz.func143, Tryz.ntmps143
  go_wp2_with fail
  refine (H1.out _ HB.out).mono ?_
  rintro e w1 ⟨rfl, hh1, hw1⟩
  have hq1 := (hw1.block w.heap.size (by simp) (by omega)).trans HQ.out
  have y0 := blk_cell hq1 0
  have y1 := blk_cell hq1 1
  have y2 := blk_cell hq1 2
  have y3 := blk_cell hq1 3
  simp only [List.getElem?_cons_zero, List.getElem?_cons_succ] at y0 y1 y2 y3
  have hp1 := hw1.cell (ext_cell HB.out hp) (by simpa using hbp)
  have ha1 := hw1.cell (ext_cell HB.out ha) (by simpa using hba)
  have hsz := hw1.size
  simp only [World.size_alloc] at hsz
  have HH1 := Lib.hid hh1; have HW1 := Lib.hid hw1
  have HH3 := Lib.hid ((HH2.out.ext HB.out).within hw1 (Or.inr h12))
  clear hh1 hw1 hq1 hp hr ha
  go_wp2_with fail
  refine (H2.out _ (by omega) HH3.out).mono ?_
  rintro e w2 ⟨rfl, hh2, hw2⟩
  have HH4 := Lib.hid hh2; have HW2 := Lib.hid hw2
  clear hh2 hw2 y0 y1 y2 y3 hp1 ha1
  go_wp2
  go_end0
  exact ⟨rfl, HH1.out.within HW2.out (Or.inl h12), HH4.out, (((Within.of_below HB.out).trans (HW1.out.mono (Nat.le_refl _) (by omega))).trans (HW2.out.mono (by omega) (Nat.le_refl _)))⟩
 ·
  go_enter Tryz.func143, Tryz.ntmps143
  go_wp2_with fail
  refine (H1.out _ HB.out).mono ?_
  rintro e w1 ⟨rfl, hh1, hw1⟩
  have hq1 := (hw1.block w.heap.size (by simp) (by omega)).trans HQ.out
  have y0 := blk_cell hq1 0
  have y1 := blk_cell hq1 1
  have y2 := blk_cell hq1 2
  have y3 := blk_cell hq1 3
  simp only [List.getElem?_cons_zero, List.getElem?_cons_succ] at y0 y1 y2 y3
  have hp1 := hw1.cell (ext_cell HB.out hp) (by simpa using hbp)
  have ha1 := hw1.cell (ext_cell HB.out ha) (by simpa using hba)
  have hsz := hw1.size
  simp only [World.size_alloc] at hsz
  have HH1 := Lib.hid hh1; have HW1 := Lib.hid hw1
  have HH3 := Lib.hid ((HH2.out.ext HB.out).within hw1 (Or.inr h12))
  clear hh1 hw1 hq1 hp hr ha
  go_wp2_with fail
  refine (H2.out _ (by omega) HH3.out).mono ?_
  rintro e w2 ⟨rfl, hh2, hw2⟩
  have HH4 := Lib.hid hh2; have HW2 := Lib.hid hw2
  clear hh2 hw2 y0 y1 y2 y3 hp1 ha1
  go_wp2
  go_end0
  exact ⟨rfl, HH1.out.within HW2.out (Or.inl h12), HH4.out, (((Within.of_below HB.out).trans (HW1.out.mono (Nat.le_refl _) (by omega))).trans (HW2.out.mono (by omega) (Nat.le_refl _)))⟩
/-- What stays while a reduction runs: the boxes of the captured variables, and where both lists lie. -/
structure RBox (p : Int) (lo1 hi1 lo2 hi2 N cap1 cap2 bp br ba : Nat) (A1 A2 : Option Addr) (w : World) : Prop where
 hp : w.cell? ⟨bp, 0, none⟩ = some (.int .i64 p)
 hr : w.cell? ⟨br, 0, none⟩ = some (.slice A1 N cap1)
 ha : w.cell? ⟨ba, 0, none⟩ = some (.slice A2 N cap2)
 bp1 : hi2 ≤ bp
 br1 : hi2 ≤ br
 ba1 : hi2 ≤ ba
 h12 : hi1 ≤ lo2
 hl1 : lo1 ≤ hi1
 hl2 : lo2 ≤ hi2
 h2w : hi2 ≤ w.heap.size
 f : fieldB p = true
/-- Both lists at a point of the reduction. -/
structure RSt (p : Int) (lo1 hi1 lo2 hi2 N n n2 cap1 cap2 : Nat) (A1 A2 : Option Addr) (M X : List (List Int)) (w wr : World) : Prop where
 h1 : Has wr lo1 hi1 (.slice A1 N cap1) M
 h2 : Has wr lo2 hi2 (.slice A2 N cap2) X
 s1 : Shp p N n M
 s2 : Shp p N n2 X
 wi : Within lo1 hi2 w wr
section
variable {p : Int} {lo1 hi1 lo2 hi2 N n n2 cap1 cap2 bp br ba : Nat} {A1 A2 : Option Addr} {M X : List (List Int)} {w wr : World}
/-- What a step hands back. -/
def RTo (p : Int) (lo1 hi1 lo2 hi2 N n n2 cap1 cap2 : Nat) (A1 A2 : Option Addr) (M X : List (List Int)) (w : World) (e : Ending) (w' : World) : Prop :=
 e = .returned (.tuple #[]) ∧ RSt p lo1 hi1 lo2 hi2 N n n2 cap1 cap2 A1 A2 M X w w'
theorem RBox.size (B : RBox p lo1 hi1 lo2 hi2 N cap1 cap2 bp br ba A1 A2 w) (S : RSt p lo1 hi1 lo2 hi2 N n n2 cap1 cap2 A1 A2 M X w wr) : hi2 ≤ wr.heap.size := by have := S.wi.size; have := B.h2w; omega
theorem RBox.cells (B : RBox p lo1 hi1 lo2 hi2 N cap1 cap2 bp br ba A1 A2 w) (S : RSt p lo1 hi1 lo2 hi2 N n n2 cap1 cap2 A1 A2 M X w wr) :
  wr.cell? ⟨bp, 0, none⟩ = some (.int .i64 p) ∧ wr.cell? ⟨br, 0, none⟩ = some (.slice A1 N cap1) ∧ wr.cell? ⟨ba, 0, none⟩ = some (.slice A2 N cap2) :=
 ⟨S.wi.cell B.hp (Or.inr B.bp1), S.wi.cell B.hr (Or.inr B.br1), S.wi.cell B.ha (Or.inr B.ba1)⟩
/-- A step, given what it does to each list. -/
theorem RSt.go {k a b c : Int} {M' X' : List (List Int)} (B : RBox p lo1 hi1 lo2 hi2 N cap1 cap2 bp br ba A1 A2 w) (S : RSt p lo1 hi1 lo2 hi2 N n n2 cap1 cap2 A1 A2 M X w wr) (hno : ¬ k = 0 ∨ (k = 0 ∧ ¬ b = a))
  (t1 : Shp p N n M') (t2 : Shp p N n2 X')
  (C1 : ∀ us W, hi1 ≤ W.heap.size → HasW W lo1 hi1 (.slice A1 N cap1) M us → Calls Tryz.prog 144 #[.agg #[.int .i64 k, .int .i64 a, .int .i64 b, .int .i64 c], .int .i64 p, .slice A1 N cap1] W (Chg lo1 hi1 (.slice A1 N cap1) M' W))
  (C2 : ∀ us W, hi2 ≤ W.heap.size → HasW W lo2 hi2 (.slice A2 N cap2) X us → Calls Tryz.prog 144 #[.agg #[.int .i64 k, .int .i64 a, .int .i64 b, .int .i64 c], .int .i64 p, .slice A2 N cap2] W (Chg lo2 hi2 (.slice A2 N cap2) X' W)) :
  Calls Tryz.prog 143 #[.agg #[.int .i64 k, .int .i64 a, .int .i64 b, .int .i64 c], .pointer (some ⟨bp, 0, none⟩), .pointer (some ⟨br, 0, none⟩), .pointer (some ⟨ba, 0, none⟩)] wr (RTo p lo1 hi1 lo2 hi2 N n n2 cap1 cap2 A1 A2 M' X' w) := by
 obtain ⟨us1, h1⟩ := S.h1
 obtain ⟨us2, h2⟩ := S.h2
 obtain ⟨c1, c2, c3⟩ := B.cells S
 have hz := B.size S
 have := B.h12; have := B.hl1; have := B.hl2; have := B.bp1; have := B.ba1
 refine (stepOp_go p k a b c lo1 hi1 lo2 hi2 N N cap1 cap2 bp br ba A1 A2 M X M' X' us2 wr c1 c2 c3 (Or.inr (by omega)) (Or.inr (by omega)) h2 B.h12 B.hl2 B.hl1 hz hno (fun W hW => C1 us1 W (by have := hW.size; omega) (h1.ext hW)) (fun W hW h => C2 us2 W hW h)).mono ?_
 rintro e w' ⟨he, k1, k2, k3⟩
 exact ⟨he, k1, k2, t1, t2, S.wi.trans k3⟩
theorem RSt.sw {a b : Nat} (B : RBox p lo1 hi1 lo2 hi2 N cap1 cap2 bp br ba A1 A2 w) (S : RSt p lo1 hi1 lo2 hi2 N n n2 cap1 cap2 A1 A2 M X w wr) (ha : a < N) (hb : b < N) (hab : a ≠ b) :
  Calls Tryz.prog 143 #[.agg #[.int .i64 0, .int .i64 a, .int .i64 b, .int .i64 0], .pointer (some ⟨bp, 0, none⟩), .pointer (some ⟨br, 0, none⟩), .pointer (some ⟨ba, 0, none⟩)] wr (RTo p lo1 hi1 lo2 hi2 N n n2 cap1 cap2 A1 A2 (swL M a b) (swL X a b) w) :=
 RSt.go B S (Or.inr ⟨rfl, by omega⟩) (swL_shp S.s1 ha hb) (swL_shp S.s2 ha hb)
  (fun us W hW h => applySw_any p 0 a b lo1 hi1 N cap1 A1 M us W h hW (by rw [S.s1.1]; exact ha) (by rw [S.s1.1]; exact hb) hab)
  (fun us W hW h => applySw_any p 0 a b lo2 hi2 N cap2 A2 X us W h hW (by rw [S.s2.1]; exact ha) (by rw [S.s2.1]; exact hb) hab)
theorem RSt.dv {a : Nat} {c : Int} (B : RBox p lo1 hi1 lo2 hi2 N cap1 cap2 bp br ba A1 A2 w) (S : RSt p lo1 hi1 lo2 hi2 N n n2 cap1 cap2 A1 A2 M X w wr) (ha : a < N) (hc : 1 ≤ c) (hc' : c < p) (hn : n ≤ 1048576) (hn2 : n2 ≤ 1048576) :
  Calls Tryz.prog 143 #[.agg #[.int .i64 1, .int .i64 a, .int .i64 0, .int .i64 c], .pointer (some ⟨bp, 0, none⟩), .pointer (some ⟨br, 0, none⟩), .pointer (some ⟨ba, 0, none⟩)] wr (RTo p lo1 hi1 lo2 hi2 N n n2 cap1 cap2 A1 A2 (scL p (invP p c) M a) (scL p (invP p c) X a) w) := by
 have h2 := (fieldB_bd B.f).1
 exact RSt.go B S (Or.inl (by decide)) (scL_shp h2 S.s1 ha) (scL_shp h2 S.s2 ha)
  (fun us W hW h => applyDiv_any p c 0 a lo1 hi1 N cap1 N n A1 M us W h hW B.f hc hc' (by rw [S.s1.1]; exact ha) S.s1 hn)
  (fun us W hW h => applyDiv_any p c 0 a lo2 hi2 N cap2 N n2 A2 X us W h hW B.f hc hc' (by rw [S.s2.1]; exact ha) S.s2 hn2)
theorem RSt.sb {a b : Nat} {c : Int} (B : RBox p lo1 hi1 lo2 hi2 N cap1 cap2 bp br ba A1 A2 w) (S : RSt p lo1 hi1 lo2 hi2 N n n2 cap1 cap2 A1 A2 M X w wr) (ha : a < N) (hb : b < N) (hab : a ≠ b) (hc : 0 ≤ c) (hc' : c < p) (hn : n ≤ 1048576) (hn2 : n2 ≤ 1048576) :
  Calls Tryz.prog 143 #[.agg #[.int .i64 2, .int .i64 a, .int .i64 b, .int .i64 c], .pointer (some ⟨bp, 0, none⟩), .pointer (some ⟨br, 0, none⟩), .pointer (some ⟨ba, 0, none⟩)] wr
   (RTo p lo1 hi1 lo2 hi2 N n n2 cap1 cap2 A1 A2 (M.set a (addRow p (-c) (M.getD a []) (M.getD b []))) (X.set a (addRow p (-c) (X.getD a []) (X.getD b []))) w) := by
 have h2 := fieldB_bd B.f
 exact RSt.go B S (Or.inl (by decide)) (add_row h2.1 S.s1 ha hb).1 (add_row h2.1 S.s2 ha hb).1
  (fun us W hW h => applySub_any p c a b lo1 hi1 N cap1 N n A1 M us W h hW h2.1 h2.2 hc hc' (by rw [S.s1.1]; exact ha) (by rw [S.s1.1]; exact hb) hab S.s1 hn)
  (fun us W hW h => applySub_any p c a b lo2 hi2 N cap2 N n2 A2 X us W h hW h2.1 h2.2 hc hc' (by rw [S.s2.1]; exact ha) (by rw [S.s2.1]; exact hb) hab S.s2 hn2)
set_option maxHeartbeats 1000000 in
/-- An exchange of a row with itself does nothing. -/
theorem RSt.sw0 {a : Nat} (B : RBox p lo1 hi1 lo2 hi2 N cap1 cap2 bp br ba A1 A2 w) (S : RSt p lo1 hi1 lo2 hi2 N n n2 cap1 cap2 A1 A2 M X w wr) :
  Calls Tryz.prog 143 #[.agg #[.int .i64 0, .int .i64 a, .int .i64 a, .int .i64 0], .pointer (some ⟨bp, 0, none⟩), .pointer (some ⟨br, 0, none⟩), .pointer (some ⟨ba, 0, none⟩)] wr (RTo p lo1 hi1 lo2 hi2 N n n2 cap1 cap2 A1 A2 M X w) := by
 have hB : Below wr.heap.size wr (wr.alloc (.cells #[.int .i64 0, .int .i64 a, .int .i64 a, .int .i64 0] 147)) := (Below.refl _ _).alloc (Nat.le_refl _) _
 have H : Hid (RTo p lo1 hi1 lo2 hi2 N n n2 cap1 cap2 A1 A2 M X w (.returned (.tuple #[])) (wr.alloc (.cells #[.int .i64 0, .int .i64 a, .int .i64 a, .int .i64 0] 147))) :=
  Lib.hid ⟨rfl, S.h1.ext hB, S.h2.ext hB, S.s1, S.s2, S.wi.trans (Within.of_below hB)⟩
 clear S B hB
 go_enter Tryz.func143, Tryz.ntmps143
 go_wp2
 go_end0
 exact H.out
theorem RSt.ex {a b : Nat} (B : RBox p lo1 hi1 lo2 hi2 N cap1 cap2 bp br ba A1 A2 w) (S : RSt p lo1 hi1 lo2 hi2 N n n2 cap1 cap2 A1 A2 M X w wr) (ha : a < N) (hb : b < N) :
  Calls Tryz.prog 143 #[.agg #[.int .i64 0, .int .i64 a, .int .i64 b, .int .i64 0], .pointer (some ⟨bp, 0, none⟩), .pointer (some ⟨br, 0, none⟩), .pointer (some ⟨ba, 0, none⟩)] wr (RTo p lo1 hi1 lo2 hi2 N n n2 cap1 cap2 A1 A2 (swL M a b) (swL X a b) w) := by
 by_cases h : a = b
 ·subst h
  have hsw : ∀ {Y : List (List Int)}, Y.length = N → swL Y a a = Y := fun {Y} hY => by
   unfold swL
   obtain ⟨x, hx⟩ := get_of_lt (show a < Y.length by omega)
   rw [getD_some hx, set_same hx, set_same hx]
  rw [hsw S.s1.1, hsw S.s2.1]
  exact RSt.sw0 B S
 ·exact RSt.sw B S ha hb h
/-- An element of the first list: the cells on the way to it. -/
theorem RSt.at1 (S : RSt p lo1 hi1 lo2 hi2 N n n2 cap1 cap2 A1 A2 M X w wr) {i d : Nat} (hi : i < N) (hd : d < n) : ∃ g ga c, A1 = some ⟨g, 0, none⟩ ∧ wr.cell? ⟨g, i, none⟩ = some (.slice (some ⟨ga, 0, none⟩) n c) ∧ wr.cell? ⟨ga, d, none⟩ = some (.int .i64 (eM M i d)) := by
 obtain ⟨us, h⟩ := S.h1
 obtain ⟨r, hr⟩ := get_of_lt (show i < M.length by rw [S.s1.1]; exact hi)
 have hl := S.s1.row r (List.mem_of_getElem? hr)
 obtain ⟨x, hx⟩ := get_of_lt (show d < r.length by omega)
 have he : eM M i d = x := by unfold eM; rw [getD_some hr, getD_some hx]
 obtain ⟨g, A', c, rfl, hu, hc, _⟩ := h.own.at hr
 obtain ⟨ga, c', hu', hc', _⟩ := h.own.ent hr hx
 rw [hu] at hu'
 simp only [Option.some.injEq, Value.slice.injEq] at hu'
 obtain ⟨rfl, _, rfl⟩ := hu'
 rw [hl] at hc
 rw [he]
 exact ⟨g, ga, c, rfl, hc, hc'⟩
end
/-- What a reduction hands back. -/
def RedTo (p : Int) (lo1 hi1 lo2 hi2 N n cap1 cap2 : Nat) (A1 A2 : Option Addr) (M X : List (List Int)) (w : World) (e : Ending) (w' : World) : Prop :=
 e = .returned (.int .i64 ((elimQ p n M X).1 : Nat)) ∧ Has w' lo1 hi1 (.slice A1 N cap1) (elimQ p n M X).2.1 ∧ Has w' lo2 hi2 (.slice A2 N cap2) (elimQ p n M X).2.2 ∧ Within lo1 hi2 w w'
/-- What holds in front of a column. -/
structure RAt (p : Int) (lo1 hi1 lo2 hi2 N n n2 cap1 cap2 : Nat) (A1 A2 : Option Addr) (M X : List (List Int)) (w wr : World) (c : Nat) (z : Nat × (List (List Int) × List (List Int))) : Prop where
 c1 : c ≤ n
 c2 : z.1 ≤ N
 el : elimL p (n - c) c z = elimQ p n M X
 st : RSt p lo1 hi1 lo2 hi2 N n n2 cap1 cap2 A1 A2 z.2.1 z.2.2 w wr
theorem elim_succ {p : Int} {n c r N : Nat} {z1 z2 : List (List Int)} (hc : c < n) (hr : r < N) (hl : z1.length = N) : elimL p (n - c) c (r, z1, z2) = elimL p (n - (c + 1)) (c + 1) (if fstL z1 c r = N then (r, z1, z2) else (r + 1, colL p r (fstL z1 c r) c (z1, z2))) := by
 obtain ⟨m, hm⟩ : ∃ m, n - c = m + 1 := ⟨n - c - 1, by omega⟩
 rw [hm, elimL]
 dsimp only
 rw [if_pos (by omega), hl, show n - (c + 1) = m by omega]
set_option maxRecDepth 100000 in
set_option maxHeartbeats 8000000 in
theorem reduction_any (p : Int) (lo1 hi1 lo2 hi2 N n n2 cap1 cap2 : Nat) (A1 A2 : Option Addr) (M X : List (List Int)) (w : World) (hf : fieldB p = true)
  (h1 : Has w lo1 hi1 (.slice A1 N cap1) M) (h2 : Has w lo2 hi2 (.slice A2 N cap2) X) (s1 : Shp p N n M) (s2 : Shp p N n2 X) (h12 : hi1 ≤ lo2) (hl1 : lo1 ≤ hi1) (hl2 : lo2 ≤ hi2) (h2w : hi2 ≤ w.heap.size) (hN : N ≤ 1048576) (hn : n ≤ 1048576) (hn2 : n2 ≤ 1048576) :
  Calls Tryz.prog 139 #[.int .i64 p, .slice A1 N cap1, .int .i64 n, .slice A2 N cap2] w (RedTo p lo1 hi1 lo2 hi2 N n cap1 cap2 A1 A2 M X w) := by
 obtain ⟨p2, p97⟩ := fieldB_bd hf
 have hmf : ∀ (fn : Fn) (first cap : Array Value) (w : World), (Instr.makeFunc fn first cap).run Tryz.prog w = .ok (.func fn first cap) w := fun _ _ _ _ => rfl
 have HH1 := Lib.hid h1; have HH2 := Lib.hid h2; have HS1 := Lib.hid s1; have HS2 := Lib.hid s2; have HF := Lib.hid hf
 clear h1 h2 s1 s2 hf
 go_enter Tryz.func139, Tryz.ntmps139
 go_upto_region 3 with (fail)
 clear hmf
 obtain ⟨q0, q1, q2⟩ := heap_at3 w (.cells #[.int .i64 p] 3) (.cells #[.slice A1 N cap1] 22) (.cells #[.slice A2 N cap2] 22)
 have hB := below_alloc3 w (.cells #[.int .i64 p] 3) (.cells #[.slice A1 N cap1] 22) (.cells #[.slice A2 N cap2] 22)
 have hz3 : w.heap.size + 3 = (((w.alloc (.cells #[.int .i64 p] 3)).alloc (.cells #[.slice A1 N cap1] 22)).alloc (.cells #[.slice A2 N cap2] 22)).heap.size := by simp
 obtain ⟨W3, hW3⟩ : ∃ W3, W3 = ((w.alloc (.cells #[.int .i64 p] 3)).alloc (.cells #[.slice A1 N cap1] 22)).alloc (.cells #[.slice A2 N cap2] 22) := ⟨_, rfl⟩
 rw [← hW3] at q0 q1 q2 hB hz3 ⊢
 clear hW3
 have x0 := blk_cell q0 0
 have x1 := blk_cell q1 0
 have x2 := blk_cell q2 0
 simp only [List.getElem?_cons_zero] at x0 x1 x2
 have B := Lib.hid (show RBox p lo1 hi1 lo2 hi2 N cap1 cap2 w.heap.size (w.heap.size + 1) (w.heap.size + 1 + 1) A1 A2 W3 from ⟨x0, x1, x2, h2w, by omega, by omega, h12, hl1, hl2, by omega, HF.out⟩)
 have S0 := Lib.hid (show RSt p lo1 hi1 lo2 hi2 N n n2 cap1 cap2 A1 A2 M X W3 W3 from ⟨HH1.out.ext hB, HH2.out.ext hB, HS1.out, HS2.out, Within.refl _ _ _⟩)
 have HB := Lib.hid hB
 clear q0 q1 q2 x0 x1 x2 hz3 hB
 go_wp2
 go_loopw [9, 11] (fun u9 u11 wr => ∃ (c : Nat) (z : Nat × (List (List Int) × List (List Int))), u9 = .int .i64 (z.1 : Nat) ∧ u11 = .int .i64 c ∧ RAt p lo1 hi1 lo2 hi2 N n n2 cap1 cap2 A1 A2 M X W3 wr c z)
  (fun _ u _ => n - (intOf u).toNat)
 case atStart => exact ⟨0, (0, (M, X)), rfl, rfl, ⟨Nat.zero_le _, Nat.zero_le _, rfl, S0.out⟩⟩
 case round =>
  obtain ⟨c, ⟨r, z1, z2⟩, rfl, rfl, hR⟩ := hrel
  clear S0
  have hc1 := hR.c1; have hr1 : r ≤ N := hR.c2
  have HR := Lib.hid hR
  obtain ⟨-, k1, -⟩ := B.out.cells hR.st
  clear hR
  by_cases hc : c < n
  ·by_cases hr : r < N
   ·have hl1' : z1.length = N := HR.out.st.s1.1
    obtain ⟨f1, f2, f3, f4⟩ := fstL_spec z1 c r (by omega)
    have HE := Lib.hid (elim_succ (p := p) (z2 := z2) hc hr hl1')
    obtain ⟨K, hK⟩ : ∃ K, K = fstL z1 c r := ⟨_, rfl⟩
    rw [← hK] at f1 f2 f3 f4
    have HK := Lib.hid hK
    rw [hl1'] at f2 f4
    have F3 := Lib.hid f3; have F4 := Lib.hid f4; have HL := Lib.hid hl1'
    clear f3 f4 hK hl1'
    by_cases hKN : K = N
    ·subst hKN
     go_wp2
     go_loopw [12] (fun u wr' => ∃ k : Nat, r ≤ k ∧ k ≤ K ∧ u = .int .i64 k ∧ wr' = wr) (fun u _ => K - (intOf u).toNat)
     case atStart => exact ⟨r, Nat.le_refl _, by omega, rfl, rfl⟩
     case round =>
      obtain ⟨k, hk1, hk2, rfl, rfl⟩ := hrel
      by_cases hlt : k < K
      ·obtain ⟨g, ga, cc, rfl, e1, e2⟩ := HR.out.st.at1 hlt hc
       rw [F3.out k hk1 hlt] at e2
       go_wp2
       go_roundw
       case rel => exact ⟨k + 1, by omega, by omega, by go_num, by trivial⟩
       case measure => simp [intOf]; omega
      ·obtain rfl : k = K := by omega
       go_wp2
       go_roundw
       case rel => exact ⟨c + 1, (r, z1, z2), rfl, by go_num, ⟨by omega, hr1, by have := HR.out.el; rw [HE.out, ← HK.out, if_pos rfl] at this; exact this, HR.out.st⟩⟩
       case measure => simp [intOf]; omega
    ·have hKlt : K < N := by omega
     have hx0 := F4.out hKlt
     obtain ⟨x1, x2⟩ := HR.out.st.s1.2.2 K c hKlt hc
     obtain ⟨x, hx⟩ : ∃ x, x = eM z1 K c := ⟨_, rfl⟩
     rw [← hx] at hx0 x1 x2
     have HX := Lib.hid hx
     have hxb : (x == 0) = false := by simpa using hx0
     clear hx
     go_wp2
     go_loopw [12] (fun u wr' => ∃ k : Nat, r ≤ k ∧ k ≤ K ∧ u = .int .i64 k ∧ wr' = wr) (fun u _ => K - (intOf u).toNat)
     case atStart => exact ⟨r, Nat.le_refl _, by omega, rfl, rfl⟩
     case round =>
      obtain ⟨k, hk1, hk2, rfl, rfl⟩ := hrel
      by_cases hlt : k < K
      ·obtain ⟨g, ga, cc, rfl, e1, e2⟩ := HR.out.st.at1 (show k < N by omega) hc
       rw [F3.out k hk1 hlt] at e2
       go_wp2
       go_roundw
       case rel => exact ⟨k + 1, by omega, by omega, by go_num, by trivial⟩
       case measure => simp [intOf]; omega
      ·obtain rfl : k = K := by omega
       obtain ⟨g, ga, cc, rfl, e1, e2⟩ := HR.out.st.at1 hKlt hc
       rw [← HX.out] at e2
       have hse : eM (swL z1 r k) r c = x := by rw [swL_e HR.out.st.s1 hr hKlt, swN_self]; exact HX.out.symm
       have hf := HK.out
       have HKF := Lib.hid (show fstL z1 c r = k from hf.symm)
       clear hf
       go_wp2_with fail
       refine (RSt.ex B.out HR.out.st hr hKlt).mono ?_
       rintro e w1 ⟨rfl, S1⟩
       obtain ⟨-, k2, -⟩ := B.out.cells S1
       obtain ⟨g', ga1, cc1, eg, e3, e4⟩ := S1.at1 hr hc
       cases eg
       rw [hse] at e4
       have HS1' := Lib.hid S1; have HSE := Lib.hid hse
       clear S1 hse k1 e1 e2
       go_wp2_with fail
       refine (RSt.dv B.out HS1'.out hr (show 1 ≤ x by omega) x2 hn hn2).mono ?_
       rintro e w2 ⟨rfl, S2⟩
       obtain ⟨Y1, hY1⟩ : ∃ Y1, Y1 = scL p (invP p x) (swL z1 r k) r := ⟨_, rfl⟩
       obtain ⟨Y2, hY2⟩ : ∃ Y2, Y2 = scL p (invP p x) (swL z2 r k) r := ⟨_, rfl⟩
       rw [← hY1, ← hY2] at S2
       have HCOL := Lib.hid (show colL p r k c (z1, z2) = clrL p r c N (Y1, Y2) by unfold colL; dsimp only; rw [HL.out, HSE.out, hY1, hY2])
       obtain ⟨-, k3, -⟩ := B.out.cells S2
       have HS2' := Lib.hid S2
       clear S2 hY1 hY2 HS1' k2 e3 e4
       go_wp2
       go_loopw [65] (fun u wq => ∃ i : Nat, i ≤ N ∧ u = .int .i64 i ∧ RSt p lo1 hi1 lo2 hi2 N n n2 cap1 cap2 (some ⟨g, 0, none⟩) A2 (clrL p r c i (Y1, Y2)).1 (clrL p r c i (Y1, Y2)).2 W3 wq) (fun u _ => N - (intOf u).toNat)
       case atStart => exact ⟨0, Nat.zero_le _, rfl, HS2'.out⟩
       case round =>
        obtain ⟨i, hi, rfl, S3⟩ := hrel
        clear HS2' k3
        obtain ⟨-, k4, -⟩ := B.out.cells S3
        by_cases hlt2 : i < N
        ·have hsucc : clrL p r c (i + 1) (Y1, Y2) = if i ≠ r ∧ eM (clrL p r c i (Y1, Y2)).1 i c ≠ 0 then
           ((clrL p r c i (Y1, Y2)).1.set i (addRow p (-(eM (clrL p r c i (Y1, Y2)).1 i c)) ((clrL p r c i (Y1, Y2)).1.getD i []) ((clrL p r c i (Y1, Y2)).1.getD r [])),
            (clrL p r c i (Y1, Y2)).2.set i (addRow p (-(eM (clrL p r c i (Y1, Y2)).1 i c)) ((clrL p r c i (Y1, Y2)).2.getD i []) ((clrL p r c i (Y1, Y2)).2.getD r [])))
           else clrL p r c i (Y1, Y2) := rfl
         obtain ⟨q, hq⟩ : ∃ q, q = clrL p r c i (Y1, Y2) := ⟨_, rfl⟩
         rw [← hq] at hsucc S3
         clear hq
         have HS3 := Lib.hid S3
         by_cases hir : i = r
         ·have hs2 := Lib.hid (show clrL p r c (i + 1) (Y1, Y2) = q by rw [hsucc, if_neg (fun h => h.1 hir)])
          clear hsucc S3
          go_wp2
          go_roundw
          case rel => exact ⟨i + 1, by omega, by go_num, by rw [hs2.out]; exact HS3.out⟩
          case measure => simp [intOf]; omega
         ·obtain ⟨v, hv⟩ : ∃ v, v = eM q.1 i c := ⟨_, rfl⟩
          obtain ⟨g', gb, cb, eg, e5, e6⟩ := S3.at1 hlt2 hc
          cases eg
          obtain ⟨v1, v2⟩ := S3.s1.2.2 i c hlt2 hc
          rw [← hv] at e6 v1 v2 hsucc
          clear hv S3
          by_cases hv0 : v = 0
          ·have hs2 := Lib.hid (show clrL p r c (i + 1) (Y1, Y2) = q by rw [hsucc, if_neg (fun h => h.2 hv0)])
           subst hv0
           clear hsucc
           go_wp2
           go_roundw
           case rel => exact ⟨i + 1, by omega, by go_num, by rw [hs2.out]; exact HS3.out⟩
           case measure => simp [intOf]; omega
          ·have hs2 := Lib.hid (show clrL p r c (i + 1) (Y1, Y2) = (q.1.set i (addRow p (-v) (q.1.getD i []) (q.1.getD r [])), q.2.set i (addRow p (-v) (q.2.getD i []) (q.2.getD r []))) by rw [hsucc, if_pos ⟨hir, hv0⟩])
           have hvb : (v == 0) = false := by simpa using hv0
           have hvn : (v != 0) = true := by simpa using hv0
           have hirn : (i != r) = true := by simpa using hir
           have hirm : ((i : Int) != (r : Int)) = true := by simp; omega
           clear hsucc
           go_wp2_with fail
           refine (RSt.sb B.out HS3.out hlt2 hr hir v1 v2 hn hn2).mono ?_
           rintro e w3 ⟨rfl, S4⟩
           have HS4 := Lib.hid S4
           clear S4 HS3
           go_wp2
           go_roundw
           case rel => exact ⟨i + 1, by omega, by go_num, by rw [hs2.out]; exact HS4.out⟩
           case measure => simp [intOf]; omega
        ·obtain rfl : i = N := by omega
         have HS3 := Lib.hid S3
         clear S3
         go_wp2
         go_roundw
         case rel => exact ⟨c + 1, (r + 1, clrL p r c i (Y1, Y2)), by go_num, by go_num, ⟨by omega, by omega, by have := HR.out.el; rw [HE.out, HKF.out, if_neg hKN, HCOL.out] at this; exact this, HS3.out⟩⟩
         case measure => simp [intOf]; omega
   ·have he := Lib.hid (show elimQ p n M X = (r, z1, z2) by
     rw [← HR.out.el]
     obtain ⟨m, hm⟩ : ∃ m, n - c = m + 1 := ⟨n - c - 1, by omega⟩
     rw [hm, elimL]; dsimp only; rw [if_neg (by rw [HR.out.st.s1.1]; exact hr)])
    go_wp2
    go_ret
    exact ⟨by rw [he.out]; rfl, by rw [he.out]; exact HR.out.st.h1, by rw [he.out]; exact HR.out.st.h2, (Within.of_below HB.out).trans HR.out.st.wi⟩
  ·have he := Lib.hid (show elimQ p n M X = (r, z1, z2) by rw [← HR.out.el, show n - c = 0 by omega]; rfl)
   go_wp2
   go_ret
   exact ⟨by rw [he.out]; rfl, by rw [he.out]; exact HR.out.st.h1, by rw [he.out]; exact HR.out.st.h2, (Within.of_below HB.out).trans HR.out.st.wi⟩
end Go.Proofs.YtjdbfokbgmbphaaGreatDoor
