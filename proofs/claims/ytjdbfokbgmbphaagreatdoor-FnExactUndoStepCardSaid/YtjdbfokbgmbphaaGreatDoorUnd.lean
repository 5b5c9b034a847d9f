/- The program's methods 'undo': the step that leads back. Conditions: those under which the step is possible. -/
import Derived.Test.YtjdbfokbgmbphaaGreatDoorInv
import Derived.Test.YtjdbfokbgmbphaaGreatDoorDo5
import Derived.Test.YtjdbfokbgmbphaaGreatDoorUS
namespace Go.Proofs.YtjdbfokbgmbphaaGreatDoor
set_option linter.unusedVariables false
set_option linter.unusedSimpArgs false
open Go.RowKit

set_option maxHeartbeats 1000000 in
theorem und_swap (a b p v h : Int) (A : Option Addr) (cap : Nat) (rows : List (List Int)) (w : World) :
    Calls Tryz.prog 163 #[.agg #[.int .i64 a, .int .i64 b], .int .i64 p, .agg #[.int .i64 v, .int .i64 h, .slice A rows.length cap]] w fun e w' => ∃ u, e = .returned (.agg #[.int .i64 1, .int .i64 a, .int .i64 b, .int .i64 0, u]) ∧ OwnInts w' w.heap.size u [] ∧ Below w.heap.size w w' := by
  go_enter Tryz.func163, Tryz.ntmps163
  go_wp2
  refine bodyPost_ret (v := .agg #[.int .i64 1, .int .i64 a, .int .i64 b, .int .i64 0, .slice none 0 0]) (by simp [results, Tryz.results163, go_sem]) rfl ⟨_, rfl, OwnInts.nil _ _, ?_⟩
  exact below_alloc3 w _ _ _
set_option maxHeartbeats 1000000 in
theorem und_drop (a p v h : Int) (A : Option Addr) (cap : Nat) (rows : List (List Int)) (w : World) :
    Calls Tryz.prog 173 #[.agg #[.int .i64 a], .int .i64 p, .agg #[.int .i64 v, .int .i64 h, .slice A rows.length cap]] w fun e w' => ∃ u, e = .returned (.agg #[.int .i64 5, .int .i64 a, .int .i64 0, .int .i64 0, u]) ∧ OwnInts w' w.heap.size u [] ∧ Below w.heap.size w w' := by
  go_enter Tryz.func173, Tryz.ntmps173
  go_wp2
  refine bodyPost_ret (v := .agg #[.int .i64 5, .int .i64 a, .int .i64 0, .int .i64 0, .slice none 0 0]) (by simp [results, Tryz.results173, go_sem]) rfl ⟨_, rfl, OwnInts.nil _ _, ?_⟩
  exact below_alloc3 w _ _ _
set_option maxHeartbeats 1000000 in
theorem und_put (a p v h : Int) (A : Option Addr) (cap : Nat) (rows : List (List Int)) (w : World) :
    Calls Tryz.prog 179 #[.agg #[.int .i64 a], .int .i64 p, .agg #[.int .i64 v, .int .i64 h, .slice A rows.length cap]] w fun e w' => ∃ u, e = .returned (.agg #[.int .i64 4, .int .i64 a, .int .i64 0, .int .i64 0, u]) ∧ OwnInts w' w.heap.size u [] ∧ Below w.heap.size w w' := by
  go_enter Tryz.func179, Tryz.ntmps179
  go_wp2
  refine bodyPost_ret (v := .agg #[.int .i64 4, .int .i64 a, .int .i64 0, .int .i64 0, .slice none 0 0]) (by simp [results, Tryz.results179, go_sem]) rfl ⟨_, rfl, OwnInts.nil _ _, ?_⟩
  exact below_alloc3 w _ _ _
set_option maxHeartbeats 1000000 in
theorem und_bring (a b p v h : Int) (A : Option Addr) (cap : Nat) (rows : List (List Int)) (w : World) (XA : Option Addr) (n xcap : Nat) :
    Calls Tryz.prog 194 #[.agg #[.int .i64 a, .int .i64 b, .slice XA n xcap], .int .i64 p, .agg #[.int .i64 v, .int .i64 h, .slice A rows.length cap]] w fun e w' => ∃ u, e = .returned (.agg #[.int .i64 6, .int .i64 a, .int .i64 b, .int .i64 0, u]) ∧ OwnInts w' w.heap.size u [] ∧ Below w.heap.size w w' := by
  go_enter Tryz.func194, Tryz.ntmps194
  go_wp2
  refine bodyPost_ret (v := .agg #[.int .i64 6, .int .i64 a, .int .i64 b, .int .i64 0, .slice none 0 0]) (by simp [results, Tryz.results194, go_sem]) rfl ⟨_, rfl, OwnInts.nil _ _, ?_⟩
  exact below_alloc3 w _ _ _
set_option maxHeartbeats 1000000 in
theorem und_forget (b p v h : Int) (A : Option Addr) (cap : Nat) (rows : List (List Int)) (w : World) :
    Calls Tryz.prog 203 #[.agg #[.int .i64 b], .int .i64 p, .agg #[.int .i64 v, .int .i64 h, .slice A rows.length cap]] w fun e w' => ∃ u, e = .returned (.agg #[.int .i64 9, .int .i64 0, .int .i64 b, .int .i64 0, u]) ∧ OwnInts w' w.heap.size u [] ∧ Below w.heap.size w w' := by
  go_enter Tryz.func203, Tryz.ntmps203
  go_wp2
  refine bodyPost_ret (v := .agg #[.int .i64 9, .int .i64 0, .int .i64 b, .int .i64 0, .slice none 0 0]) (by simp [results, Tryz.results203, go_sem]) rfl ⟨_, rfl, OwnInts.nil _ _, ?_⟩
  exact below_alloc3 w _ _ _
set_option maxHeartbeats 1000000 in
theorem und_invent (b p v h : Int) (A : Option Addr) (cap : Nat) (rows : List (List Int)) (w : World) :
    Calls Tryz.prog 206 #[.agg #[.int .i64 b], .int .i64 p, .agg #[.int .i64 v, .int .i64 h, .slice A rows.length cap]] w fun e w' => ∃ u, e = .returned (.agg #[.int .i64 8, .int .i64 0, .int .i64 b, .int .i64 0, u]) ∧ OwnInts w' w.heap.size u [] ∧ Below w.heap.size w w' := by
  go_enter Tryz.func206, Tryz.ntmps206
  go_wp2
  refine bodyPost_ret (v := .agg #[.int .i64 8, .int .i64 0, .int .i64 b, .int .i64 0, .slice none 0 0]) (by simp [results, Tryz.results206, go_sem]) rfl ⟨_, rfl, OwnInts.nil _ _, ?_⟩
  exact below_alloc3 w _ _ _

set_option maxHeartbeats 2000000 in
theorem und_scale (a c p v h : Int) (A : Option Addr) (cap : Nat) (rows : List (List Int)) (w : World) (hf : fieldB p = true) (hc : 1 ≤ c) (hc' : c < p) :
    Calls Tryz.prog 167 #[.agg #[.int .i64 a, .int .i64 c], .int .i64 p, .agg #[.int .i64 v, .int .i64 h, .slice A rows.length cap]] w fun e w' => ∃ u, e = .returned (.agg #[.int .i64 2, .int .i64 a, .int .i64 0, .int .i64 (invP p c), u]) ∧ OwnInts w' w.heap.size u [] ∧ Below w.heap.size w w' := by
  have HF := Lib.hid hf
  clear hf
  go_enter Tryz.func167, Tryz.ntmps167
  go_wp2
  go_region_held3 (fun W => W.cell? ⟨w.heap.size, 0, none⟩ = some (.int .i64 a) ∧ W.cell? ⟨w.heap.size, 1, none⟩ = some (.int .i64 c)) (go_keep)
    ((go_at_call 116; refine (inverse_any p c _ HF.out hc hc').mono ?_; rintro e w' ⟨rfl, rfl⟩))
  go_wp2
  refine bodyPost_ret (v := .agg #[.int .i64 2, .int .i64 a, .int .i64 0, .int .i64 (invP p c), .slice none 0 0]) (by simp [results, Tryz.results167, go_sem]) rfl ⟨_, rfl, OwnInts.nil _ _, ?_⟩
  exact (below_alloc3 w _ _ _).drew

set_option maxHeartbeats 2000000 in
theorem und_add (a b c p v h : Int) (A : Option Addr) (cap : Nat) (rows : List (List Int)) (w : World) (hp : 2 ≤ p) (hp' : p ≤ 97) (hc : 0 ≤ c) (hc' : c < p) :
    Calls Tryz.prog 170 #[.agg #[.int .i64 a, .int .i64 b, .int .i64 c], .int .i64 p, .agg #[.int .i64 v, .int .i64 h, .slice A rows.length cap]] w fun e w' => ∃ u, e = .returned (.agg #[.int .i64 3, .int .i64 a, .int .i64 b, .int .i64 ((p - c) % p), u]) ∧ OwnInts w' w.heap.size u [] ∧ Below w.heap.size w w' := by
  go_enter Tryz.func170, Tryz.ntmps170
  go_wp2
  have hpc : IntKind.i64.wrap (p - c) = p - c := by rw [IntKind.wrap_i64]; omega
  go_region_held3 (fun W => W.cell? ⟨w.heap.size, 0, none⟩ = some (.int .i64 a) ∧ W.cell? ⟨w.heap.size, 1, none⟩ = some (.int .i64 b) ∧ W.cell? ⟨w.heap.size, 2, none⟩ = some (.int .i64 c)) (go_keep)
    ((go_at_call 126; refine (mod_any p (p - c) _ (by omega) (by omega) (by omega) (by omega)).mono ?_; rintro e w' ⟨rfl, rfl⟩))
  go_wp2
  refine bodyPost_ret (v := .agg #[.int .i64 3, .int .i64 a, .int .i64 b, .int .i64 ((p - c) % p), .slice none 0 0]) (by simp [results, Tryz.results170, go_sem]) rfl ⟨_, rfl, OwnInts.nil _ _, ?_⟩
  exact (below_alloc3 w _ _ _).drew

set_option maxHeartbeats 4000000 in
theorem und_solve (a b p v h : Int) (A : Option Addr) (cap : Nat) (rows : List (List Int)) (w : World) (hR : RowsAt w A rows) (ha : 0 ≤ a) (ha' : a < rows.length) (hms : ∀ r ∈ rows, r.length ≤ 1048576) :
    Calls Tryz.prog 187 #[.agg #[.int .i64 a, .int .i64 b], .int .i64 p, .agg #[.int .i64 v, .int .i64 h, .slice A rows.length cap]] w fun e w' => ∃ u, e = .returned (.agg #[.int .i64 7, .int .i64 a, .int .i64 b, .int .i64 0, u]) ∧ OwnInts w' w.heap.size u (rows.getD a.toNat []) ∧ Below w.heap.size w w' := by
  obtain ⟨r, hr⟩ := get_of_lt (show a.toNat < rows.length by omega)
  obtain ⟨bb, o, rfl, hc⟩ := hR.here (show a.toNat < rows.length by omega)
  obtain ⟨A', cap', hck, hin⟩ := hc _ r hr
  have HG := Lib.hid (show rows.getD a.toNat [] = r by simp [List.getD, hr])
  have HRL := Lib.hid (hms r (List.mem_of_getElem? hr))
  have hB3 := below_alloc3 w (.cells #[.int .i64 a, .int .i64 b] 126) (.cells #[.int .i64 v, .int .i64 h, .slice (some ⟨bb, o, none⟩) rows.length cap] 30) (.cells #[.int .i64 0, .int .i64 0, .int .i64 0, .int .i64 0, .slice none 0 0] 34)
  have hbb : bb < w.heap.size := World.block_lt_of_cell? _ _ hck
  obtain ⟨W3, hW3⟩ : ∃ W3, W3 = ((w.alloc (.cells #[.int .i64 a, .int .i64 b] 126)).alloc (.cells #[.int .i64 v, .int .i64 h, .slice (some ⟨bb, o, none⟩) rows.length cap] 30)).alloc (.cells #[.int .i64 0, .int .i64 0, .int .i64 0, .int .i64 0, .slice none 0 0] 34) := ⟨_, rfl⟩
  obtain ⟨q0, q1, q2⟩ := heap_at3 w (.cells #[.int .i64 a, .int .i64 b] 126) (.cells #[.int .i64 v, .int .i64 h, .slice (some ⟨bb, o, none⟩) rows.length cap] 30) (.cells #[.int .i64 0, .int .i64 0, .int .i64 0, .int .i64 0, .slice none 0 0] 34)
  rw [← hW3] at hB3 q0 q1 q2
  have HS := Lib.hid (show ∀ W, Below W3.heap.size W3 W → W.cell? ⟨w.heap.size, 0, none⟩ = some (.int .i64 a) ∧ W.cell? ⟨w.heap.size, 1, none⟩ = some (.int .i64 b) ∧ W.cell? ⟨w.heap.size + 1, 2, none⟩ = some (.slice (some ⟨bb, o, none⟩) rows.length cap) ∧ W.cell? ⟨bb, o + a.toNat, none⟩ = some (.slice A' r.length cap') from
    fun W hW => ⟨blk_cell (boxb hW q0) 0, blk_cell (boxb hW q0) 1, blk_cell (boxb hW q1) 2, ext_cell (below_ext hB3 hW) hck⟩)
  have HIN := Lib.hid (hin.ext hB3)
  have HB3 := Lib.hid hB3; have Q2 := Lib.hid q2; have HBB := Lib.hid hbb; have HW3 := Lib.hid hW3
  have hsz : W3.heap.size = w.heap.size + 3 := by rw [hW3]; simp
  have HSZ := Lib.hid hsz
  clear hR hc hck hin hr hms hB3 q0 q1 q2 hbb hsz hW3
  go_enter Tryz.func187, Tryz.ntmps187
  go_wp2
  rw [← HW3.out]
  go_region_held3 (fun W => W.cell? ⟨w.heap.size, 0, none⟩ = some (.int .i64 a) ∧ W.cell? ⟨w.heap.size, 1, none⟩ = some (.int .i64 b) ∧ W.cell? ⟨w.heap.size + 1, 2, none⟩ = some (.slice (some ⟨bb, o, none⟩) rows.length cap) ∧ W.cell? ⟨bb, o + a.toNat, none⟩ = some (.slice A' r.length cap')) (first | exact HS.out _ (Below.refl _ _).drew | exact HS.out _ HC.out | exact ⟨(set5_cell (by simp <;> omega)).trans (HS.out _ HC.out).1, (set5_cell (by simp <;> omega)).trans (HS.out _ HC.out).2.1, (set5_cell (by simp <;> omega)).trans (HS.out _ HC.out).2.2.1, (set5_cell (by have := HBB.out; simp <;> omega)).trans (HS.out _ HC.out).2.2.2⟩)
    ((go_at_call 120; refine (clone_any _ _ _ _ (HIN.out.ext ?_) (by have := HRL.out; omega)).mono ?_; exact (Below.refl _ _).drew; rintro e w2 ⟨u, rfl, hu, hb2⟩; obtain ⟨A2, c2, rfl, _⟩ := hu.view; have HC := Lib.hid ((Below.refl W3.heap.size W3).drew.trans hb2); have HU := Lib.hid hu; clear hu hb2; obtain ⟨⟨c0, c1, c2', c3, c4⟩, f0, f1, f2, f3, f4⟩ := box5 HC.out Q2.out))
  have hs3 := HSZ.out
  have HO := HU.out
  simp only [World.size_drew] at HO
  go_wp2
  refine bodyPost_ret (v := .agg #[.int .i64 7, .int .i64 a, .int .i64 b, .int .i64 0, .slice A2 r.length c2]) (by simp [results, Tryz.results187, go_sem, *]) rfl ⟨_, rfl, ?_, ?_⟩
  · rw [HG.out]
    exact (((((HO.setCell (by simp <;> omega) _).setCell (by simp <;> omega) _).setCell (by simp <;> omega) _).setCell (by simp <;> omega) _).setCell (by simp <;> omega) _).mono (by omega)
  · exact below_set5 (below_ext HB3.out HC.out) (by omega) _ _ _ _ _

end Go.Proofs.YtjdbfokbgmbphaaGreatDoor
