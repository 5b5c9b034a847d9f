/- The steps made (methods 'do'): add, drop. Conditions: a system of moderate size whose elements lie in 0..1000; the rows are there. -/
import Derived.Test.YtjdbfokbgmbphaaGreatDoorTail
import Derived.Test.YtjdbfokbgmbphaaGreatDoorDo2
namespace Go.Proofs.YtjdbfokbgmbphaaGreatDoor
set_option linter.unusedVariables false
set_option linter.unusedSimpArgs false
open Go.RowKit

theorem own_one {w : World} {B : Nat} {v : Value} {rows : List (List Int)} {us : List Value} (h : OwnRowsW w B v rows us) : ∀ u ∈ us, u.oneCell' = true := fun u hu => by
  obtain ⟨k, hk⟩ := List.mem_iff_getElem?.1 hu
  obtain ⟨r, _, ho⟩ := h.getR hk
  obtain ⟨A', c', rfl, _⟩ := ho.view
  rfl

theorem grown_set (w : World) (b j : Nat) (u : Value) : w.grownBy (w.setCell ⟨b, j, none⟩ u) (some b) :=
  ⟨rfl, rfl, rfl, by simp, fun k _ hk => heap_setCell_other w ⟨b, j, none⟩ k u (fun e => hk (by simp [e]))⟩
/-- A store into the variable of a system, which is no block of the row's. -/
theorem OwnRowsW.setSys {w : World} {B b j : Nat} {v u : Value} {cs : Array Value} {fr : Nat × Nat} {rows : List (List Int)} {us : List Value} (h : OwnRowsW w B v rows us) (hb : w.heap[b]? = some (.cells cs 30 fr)) :
    OwnRowsW (w.setCell ⟨b, j, none⟩ u) B v rows us := by
  refine ⟨World.ownsRow.kept h.outer (grown_set w b j u) ?_, fun k x r hx hr => OwnInts.kept (h.each k x r hx hr) (grown_set w b j u) ?_, h.apart⟩
  · rcases h.outer.2 with ⟨rfl, _⟩ | ⟨g, cap, cur, rfl, _, hg, _⟩
    · exact Or.inl rfl
    · refine Or.inr fun e => ?_
      simp only [Value.ownBlock, Option.some.injEq] at e
      subst e; rw [hb] at hg; simp at hg
  · rcases (h.each k x r hx hr).2 with ⟨rfl, _⟩ | ⟨g, cap, cur, rfl, _, hg, _⟩
    · exact Or.inl rfl
    · refine Or.inr fun e => ?_
      simp only [Value.ownBlock, Option.some.injEq] at e
      subst e; rw [hb] at hg; simp at hg

set_option maxHeartbeats 2000000 in
theorem dropDo_any (a p v h : Int) (A : Option Addr) (cap : Nat) (rows : List (List Int)) (w : World) (hR : RowsAt w A rows) (hm : rows.length ≤ 160) (hms : ∀ r ∈ rows, r.length ≤ 1000)
    (ha : 0 ≤ a) (ha' : a < rows.length) :
    Calls Tryz.prog 172 #[.agg #[.int .i64 a], .int .i64 p, .agg #[.int .i64 v, .int .i64 h, .slice A rows.length cap]] w fun e w' =>
      ∃ u, e = .returned (.agg #[.int .i64 v, .int .i64 h, u]) ∧ OwnRows w' w.heap.size u (rows.eraseIdx a.toNat) ∧ Below w.heap.size w w' := by
  have HM := Lib.hid (show rows.length ≤ 1048576 by omega)
  have HMS := Lib.hid (show ∀ r ∈ rows, r.length ≤ 1048576 from fun r hr => by have := hms r hr; omega)
  go_enter Tryz.func172, Tryz.ntmps172
  go_wp2_with fail
  refine (copy_any _ _ _ _ _ _ (hR.ext (((Below.refl _ _).alloc (by simp) _ |>.alloc (by simp) _).alloc (by simp <;> omega) _)) HM.out HMS.out).mono ?_
  rintro e w1 ⟨u, rfl, ⟨us, hu⟩, hb1⟩
  obtain ⟨gA, gcap, rfl, _, _, _⟩ := OwnRows.view ⟨us, hu⟩
  obtain ⟨q0, q1, q2⟩ := heap_at3 w (.cells #[.int .i64 a] 124) (.cells #[.int .i64 v, .int .i64 h, .slice A rows.length cap] 30) (.cells #[.int .i64 0, .int .i64 0, .slice none 0 0] 30)
  have hsz1 := hb1.size
  simp only [World.size_alloc] at hsz1
  go_upto_region 2 with (fail)
  obtain ⟨W2, hW2⟩ : ∃ W2, W2 = w1.alloc (.cells #[.int .i64 v, .int .i64 h, .slice gA rows.length gcap] 30) := ⟨_, rfl⟩
  rw [← hW2]
  have hb2 : Below w1.heap.size w1 W2 := by rw [hW2]; exact (Below.refl _ _).alloc (Nat.le_refl _) _
  have hsz2 : W2.heap.size = w1.heap.size + 1 := by rw [hW2]; simp
  have hb02 := hb1.trans (hb2.mono hb1.size)
  have m2 : W2.heap[w1.heap.size]? = some (.cells #[.int .i64 v, .int .i64 h, .slice gA rows.length gcap] 30 (0, 0)) := by rw [hW2]; exact heap_at _ _ rfl
  have k0 := boxb hb02 q0
  have k1 := boxb hb02 q1
  have k2 := boxb hb02 q2
  have hu2 : OwnRowsW W2 (w.heap.size + 3) (.slice gA rows.length gcap) rows us := (hu.ext hb2).mono (by simp)
  have hub : ∀ g', gA = some ⟨g', 0, none⟩ → g' < w1.heap.size := fun g' e => by subst e; exact (World.ownsRow.lt hu.outer g' rfl).2
  have hin : ∀ (k : Nat) (x : Value), us[k]? = some x → ∀ b, x.ownBlock = some b → b < w1.heap.size := fun k x hx b hb => by obtain ⟨r, _, ho⟩ := hu.getR hx; exact (ho.lt b hb).2
  have hb3 : Below w.heap.size w W2 := (below_alloc3 w _ _ _).trans (hb02.mono (by simp <;> omega))
  clear hu hb1 hb2 hb02 hR hms q0 q1 q2 hW2
  obtain ⟨g, hgv, hgB, hgl⟩ : ∃ g, gA = some ⟨g, 0, none⟩ ∧ w.heap.size + 3 ≤ g ∧ g < W2.heap.size := own_at hu2 (by omega)
  subst hgv
  have hgu := hub g rfl
  have x0 := blk_cell k0 0
  have x2 := blk_cell m2 2
  simp only [List.getElem?_cons_zero, List.getElem?_cons_succ] at x0 x2
  have HU := Lib.hid hu2; have HB := Lib.hid hb3
  have K2 := Lib.hid k2; have M2 := Lib.hid m2
  clear hu2 hb3 hub hin k0 k1 k2 m2
  go_upto_region 3 with (go_at_call 175; refine (deleteRows_any (w.heap.size + 3) g rows.length gcap a us _ HU.out.outer (own_one HU.out) ha ha' (by omega)).mono ?_; rintro e wr ⟨rfl, hown, hgr⟩; have hF := (hgr.block w1.heap.size (by omega) (by simp; omega)).trans M2.out; have HG := Lib.hid hgr; have HO := Lib.hid hown; have f2 := blk_free hF 2; have c2 := blk_cell hF 2; simp only [List.getElem?_cons_zero, List.getElem?_cons_succ] at c2; have HF := Lib.hid hF; clear hF hgr hown)
  have m2w := heap_setCell_same wr w1.heap.size 2 _ _ (.slice (some ⟨g, 0, none⟩) (rows.length - 1) gcap) HF.out
  simp only [List.setIfInBounds_toArray, List.set_cons_zero, List.set_cons_succ] at m2w
  have k2w := (heap_setCell_other wr ⟨w1.heap.size, 2, none⟩ (w.heap.size + 1 + 1) (.slice (some ⟨g, 0, none⟩) (rows.length - 1) gcap) (by simp <;> omega)).trans ((HG.out.block _ (by omega) (by simp; omega)).trans K2.out)
  have hW := HU.out.erase (by omega) HO.out HG.out
  have HO := Lib.hid (show OwnRows _ (w.heap.size + 3) _ _ from ⟨_, hW.setSys HF.out (j := 2) (u := .slice (some ⟨g, 0, none⟩) (rows.length - 1) gcap)⟩)
  have HE := Lib.hid ((HB.out.grown HG.out (by omega) fun b hb => by cases hb; omega).setCell (p := ⟨w1.heap.size, 2, none⟩) (by simp <;> omega) (.slice (some ⟨g, 0, none⟩) (rows.length - 1) gcap))
  clear hW c2 f2 x0 x2
  have e0 := blk_cell m2w 0
  have e1 := blk_cell m2w 1
  have e2 := blk_cell m2w 2
  have e3 := blk_cell k2w 0
  have e4 := blk_cell k2w 1
  have e5 := blk_cell k2w 2
  have e6 := blk_free k2w 0
  have e7 := blk_free k2w 1
  have e8 := blk_free k2w 2
  simp only [List.getElem?_cons_zero, List.getElem?_cons_succ] at e0 e1 e2 e3 e4 e5
  clear m2w k2w
  go_wp2
  refine bodyPost_ret (v := .agg #[.int .i64 v, .int .i64 h, .slice (some ⟨g, 0, none⟩) (rows.length - 1) gcap]) (by simp [results, Tryz.results172, go_sem, *]) rfl ⟨_, rfl, ?_, ?_⟩
  · exact (((HO.out.setCell (by simp <;> omega) _).setCell (by simp <;> omega) _).setCell (by simp <;> omega) _).mono (by omega)
  · exact ((HE.out.setCell (by simp <;> omega) _).setCell (by simp <;> omega) _).setCell (by simp <;> omega) _
end Go.Proofs.YtjdbfokbgmbphaaGreatDoor
