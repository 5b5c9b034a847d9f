/- The reference's stUndo and UndoStep. Conditions: lengths. -/
import Derived.Test.YtjdbfokbgmbphaaGreatDoorPk31
import Derived.Test.YtjdbfokbgmbphaaGreatDoorPk17
namespace Go.Proofs.YtjdbfokbgmbphaaGreatDoor
set_option linter.unusedVariables false
set_option linter.unusedSimpArgs false
open Go.RowKit
set_option maxRecDepth 20000 in
set_option maxHeartbeats 4000000 in
theorem stu_swap (p v h a b c : Int) (A : Option Addr) (cap : Nat) (rows : List (List Int)) (w : World) (XA : Option Addr) (n xcap : Nat) :
  Calls Tryz.prog 63 #[.int .i64 p, .agg #[.int .i64 v, .int .i64 h, .slice A rows.length cap], .agg #[.int .i64 1, .int .i64 a, .int .i64 b, .int .i64 c, .slice XA n xcap]] w fun e w' => ∃ u, e = .returned (.agg #[.int .i64 1, .int .i64 a, .int .i64 b, .int .i64 0, u]) ∧ OwnInts w' w.heap.size u [] ∧ Below w.heap.size w w' := by
 go_enter Tryz.func63, Tryz.ntmps63
 go_wp2
 refine bodyPost_ret (v := .agg #[.int .i64 1, .int .i64 a, .int .i64 b, .int .i64 0, .slice none 0 0]) (by simp [results, Tryz.results63, go_sem]) rfl ⟨_, rfl, OwnInts.nil _ _, ?_⟩
 exact below_alloc3 w _ _ _
set_option maxRecDepth 20000 in
set_option maxHeartbeats 4000000 in
theorem stu_drop (p v h a b c : Int) (A : Option Addr) (cap : Nat) (rows : List (List Int)) (w : World) (XA : Option Addr) (n xcap : Nat) :
  Calls Tryz.prog 63 #[.int .i64 p, .agg #[.int .i64 v, .int .i64 h, .slice A rows.length cap], .agg #[.int .i64 4, .int .i64 a, .int .i64 b, .int .i64 c, .slice XA n xcap]] w fun e w' => ∃ u, e = .returned (.agg #[.int .i64 5, .int .i64 a, .int .i64 0, .int .i64 0, u]) ∧ OwnInts w' w.heap.size u [] ∧ Below w.heap.size w w' := by
 go_enter Tryz.func63, Tryz.ntmps63
 go_wp2
 refine bodyPost_ret (v := .agg #[.int .i64 5, .int .i64 a, .int .i64 0, .int .i64 0, .slice none 0 0]) (by simp [results, Tryz.results63, go_sem]) rfl ⟨_, rfl, OwnInts.nil _ _, ?_⟩
 exact below_alloc3 w _ _ _
set_option maxRecDepth 20000 in
set_option maxHeartbeats 4000000 in
theorem stu_put (p v h a b c : Int) (A : Option Addr) (cap : Nat) (rows : List (List Int)) (w : World) (XA : Option Addr) (n xcap : Nat) :
  Calls Tryz.prog 63 #[.int .i64 p, .agg #[.int .i64 v, .int .i64 h, .slice A rows.length cap], .agg #[.int .i64 5, .int .i64 a, .int .i64 b, .int .i64 c, .slice XA n xcap]] w fun e w' => ∃ u, e = .returned (.agg #[.int .i64 4, .int .i64 a, .int .i64 0, .int .i64 0, u]) ∧ OwnInts w' w.heap.size u [] ∧ Below w.heap.size w w' := by
 go_enter Tryz.func63, Tryz.ntmps63
 go_wp2
 refine bodyPost_ret (v := .agg #[.int .i64 4, .int .i64 a, .int .i64 0, .int .i64 0, .slice none 0 0]) (by simp [results, Tryz.results63, go_sem]) rfl ⟨_, rfl, OwnInts.nil _ _, ?_⟩
 exact below_alloc3 w _ _ _
set_option maxRecDepth 20000 in
set_option maxHeartbeats 4000000 in
theorem stu_bring (p v h a b c : Int) (A : Option Addr) (cap : Nat) (rows : List (List Int)) (w : World) (XA : Option Addr) (n xcap : Nat) :
  Calls Tryz.prog 63 #[.int .i64 p, .agg #[.int .i64 v, .int .i64 h, .slice A rows.length cap], .agg #[.int .i64 7, .int .i64 a, .int .i64 b, .int .i64 c, .slice XA n xcap]] w fun e w' => ∃ u, e = .returned (.agg #[.int .i64 6, .int .i64 a, .int .i64 b, .int .i64 0, u]) ∧ OwnInts w' w.heap.size u [] ∧ Below w.heap.size w w' := by
 go_enter Tryz.func63, Tryz.ntmps63
 go_wp2
 refine bodyPost_ret (v := .agg #[.int .i64 6, .int .i64 a, .int .i64 b, .int .i64 0, .slice none 0 0]) (by simp [results, Tryz.results63, go_sem]) rfl ⟨_, rfl, OwnInts.nil _ _, ?_⟩
 exact below_alloc3 w _ _ _
set_option maxRecDepth 20000 in
set_option maxHeartbeats 4000000 in
theorem stu_forget (p v h a b c : Int) (A : Option Addr) (cap : Nat) (rows : List (List Int)) (w : World) (XA : Option Addr) (n xcap : Nat) :
  Calls Tryz.prog 63 #[.int .i64 p, .agg #[.int .i64 v, .int .i64 h, .slice A rows.length cap], .agg #[.int .i64 8, .int .i64 a, .int .i64 b, .int .i64 c, .slice XA n xcap]] w fun e w' => ∃ u, e = .returned (.agg #[.int .i64 9, .int .i64 0, .int .i64 b, .int .i64 0, u]) ∧ OwnInts w' w.heap.size u [] ∧ Below w.heap.size w w' := by
 go_enter Tryz.func63, Tryz.ntmps63
 go_wp2
 refine bodyPost_ret (v := .agg #[.int .i64 9, .int .i64 0, .int .i64 b, .int .i64 0, .slice none 0 0]) (by simp [results, Tryz.results63, go_sem]) rfl ⟨_, rfl, OwnInts.nil _ _, ?_⟩
 exact below_alloc3 w _ _ _
set_option maxRecDepth 20000 in
set_option maxHeartbeats 4000000 in
theorem stu_invent (p v h a b c : Int) (A : Option Addr) (cap : Nat) (rows : List (List Int)) (w : World) (XA : Option Addr) (n xcap : Nat) :
  Calls Tryz.prog 63 #[.int .i64 p, .agg #[.int .i64 v, .int .i64 h, .slice A rows.length cap], .agg #[.int .i64 9, .int .i64 a, .int .i64 b, .int .i64 c, .slice XA n xcap]] w fun e w' => ∃ u, e = .returned (.agg #[.int .i64 8, .int .i64 0, .int .i64 b, .int .i64 0, u]) ∧ OwnInts w' w.heap.size u [] ∧ Below w.heap.size w w' := by
 go_enter Tryz.func63, Tryz.ntmps63
 go_wp2
 refine bodyPost_ret (v := .agg #[.int .i64 8, .int .i64 0, .int .i64 b, .int .i64 0, .slice none 0 0]) (by simp [results, Tryz.results63, go_sem]) rfl ⟨_, rfl, OwnInts.nil _ _, ?_⟩
 exact below_alloc3 w _ _ _
set_option maxRecDepth 20000 in
set_option maxHeartbeats 4000000 in
theorem stu_scale (p v h a b c : Int) (A : Option Addr) (cap : Nat) (rows : List (List Int)) (w : World) (XA : Option Addr) (n xcap : Nat) (hp : 2 ≤ p) (hp' : p ≤ 97) (hc : 0 ≤ c) (hc' : c < p) :
  Calls Tryz.prog 63 #[.int .i64 p, .agg #[.int .i64 v, .int .i64 h, .slice A rows.length cap], .agg #[.int .i64 2, .int .i64 a, .int .i64 b, .int .i64 c, .slice XA n xcap]] w fun e w' => ∃ u, e = .returned (.agg #[.int .i64 2, .int .i64 a, .int .i64 0, .int .i64 (invP p c), u]) ∧ OwnInts w' w.heap.size u [] ∧ Below w.heap.size w w' := by
 go_enter Tryz.func63, Tryz.ntmps63
 go_wp2
 go_region_held3 (fun W => W.cell? ⟨w.heap.size + 1, 0, none⟩ = some (.int .i64 2) ∧ W.cell? ⟨w.heap.size + 1, 1, none⟩ = some (.int .i64 a) ∧ W.cell? ⟨w.heap.size + 1, 3, none⟩ = some (.int .i64 c)) (go_keep)
  ((go_at_call 96; refine (fdInv_any p c _ hp hp' hc hc').mono ?_; rintro e w' ⟨rfl, rfl⟩))
 go_wp2
 refine bodyPost_ret (v := .agg #[.int .i64 2, .int .i64 a, .int .i64 0, .int .i64 (invP p c), .slice none 0 0]) (by simp [results, Tryz.results63, go_sem]) rfl ⟨_, rfl, OwnInts.nil _ _, ?_⟩
 exact (below_alloc3 w _ _ _).drew
set_option maxRecDepth 20000 in
set_option maxHeartbeats 4000000 in
theorem stu_add (p v h a b c : Int) (A : Option Addr) (cap : Nat) (rows : List (List Int)) (w : World) (XA : Option Addr) (n xcap : Nat) (hp : 2 ≤ p) (hp' : p ≤ 97) (hc : 0 ≤ c) (hc' : c < p) :
  Calls Tryz.prog 63 #[.int .i64 p, .agg #[.int .i64 v, .int .i64 h, .slice A rows.length cap], .agg #[.int .i64 3, .int .i64 a, .int .i64 b, .int .i64 c, .slice XA n xcap]] w fun e w' => ∃ u, e = .returned (.agg #[.int .i64 3, .int .i64 a, .int .i64 b, .int .i64 ((p - c) % p), u]) ∧ OwnInts w' w.heap.size u [] ∧ Below w.heap.size w w' := by
 go_enter Tryz.func63, Tryz.ntmps63
 go_wp2
 go_region_held3 (fun W => W.cell? ⟨w.heap.size + 1, 0, none⟩ = some (.int .i64 3) ∧ W.cell? ⟨w.heap.size + 1, 1, none⟩ = some (.int .i64 a) ∧ W.cell? ⟨w.heap.size + 1, 2, none⟩ = some (.int .i64 b) ∧ W.cell? ⟨w.heap.size + 1, 3, none⟩ = some (.int .i64 c)) (go_keep)
  ((go_at_call 97; refine (fdNeg_any p c _ hp hp' hc hc').mono ?_; rintro e w' ⟨rfl, rfl⟩))
 go_wp2
 refine bodyPost_ret (v := .agg #[.int .i64 3, .int .i64 a, .int .i64 b, .int .i64 ((p - c) % p), .slice none 0 0]) (by simp [results, Tryz.results63, go_sem]) rfl ⟨_, rfl, OwnInts.nil _ _, ?_⟩
 exact (below_alloc3 w _ _ _).drew
set_option maxRecDepth 20000 in
set_option maxHeartbeats 4000000 in
theorem stu_solve (p v h a b c : Int) (A : Option Addr) (cap : Nat) (rows : List (List Int)) (w : World) (XA : Option Addr) (n xcap : Nat) (hR : RowsAt w A rows) (ha : 0 ≤ a) (ha' : a < rows.length) (hms : ∀ r ∈ rows, r.length ≤ 1048576) :
  Calls Tryz.prog 63 #[.int .i64 p, .agg #[.int .i64 v, .int .i64 h, .slice A rows.length cap], .agg #[.int .i64 6, .int .i64 a, .int .i64 b, .int .i64 c, .slice XA n xcap]] w fun e w' => ∃ u, e = .returned (.agg #[.int .i64 7, .int .i64 a, .int .i64 b, .int .i64 0, u]) ∧ OwnInts w' w.heap.size u (rows.getD a.toNat []) ∧ Below w.heap.size w w' := by
 obtain ⟨r, hr⟩ := get_of_lt (show a.toNat < rows.length by omega)
 obtain ⟨bb, o, rfl, hc⟩ := hR.here (show a.toNat < rows.length by omega)
 obtain ⟨A', cap', hck, hin⟩ := hc _ r hr
 have HG := Lib.hid (show rows.getD a.toNat [] = r by simp [List.getD, hr])
 have HRL := Lib.hid (hms r (List.mem_of_getElem? hr))
 have hB3 := below_alloc3 w (.cells #[.int .i64 v, .int .i64 h, .slice (some ⟨bb, o, none⟩) rows.length cap] 30) (.cells #[.int .i64 6, .int .i64 a, .int .i64 b, .int .i64 c, .slice XA n xcap] 34) (.cells #[.int .i64 0, .int .i64 0, .int .i64 0, .int .i64 0, .slice none 0 0] 34)
 have hbb : bb < w.heap.size := World.block_lt_of_cell? _ _ hck
 obtain ⟨q0, q1, q2⟩ := heap_at3 w (.cells #[.int .i64 v, .int .i64 h, .slice (some ⟨bb, o, none⟩) rows.length cap] 30) (.cells #[.int .i64 6, .int .i64 a, .int .i64 b, .int .i64 c, .slice XA n xcap] 34) (.cells #[.int .i64 0, .int .i64 0, .int .i64 0, .int .i64 0, .slice none 0 0] 34)
 obtain ⟨W3, hW3⟩ : ∃ W3, W3 = ((w.alloc (.cells #[.int .i64 v, .int .i64 h, .slice (some ⟨bb, o, none⟩) rows.length cap] 30)).alloc (.cells #[.int .i64 6, .int .i64 a, .int .i64 b, .int .i64 c, .slice XA n xcap] 34)).alloc (.cells #[.int .i64 0, .int .i64 0, .int .i64 0, .int .i64 0, .slice none 0 0] 34) := ⟨_, rfl⟩
 rw [← hW3] at hB3 q0 q1 q2
 have HS := Lib.hid (show ∀ W, Below W3.heap.size W3 W → W.cell? ⟨w.heap.size + 1, 1, none⟩ = some (.int .i64 a) ∧ W.cell? ⟨w.heap.size + 1, 2, none⟩ = some (.int .i64 b) ∧ W.cell? ⟨w.heap.size, 2, none⟩ = some (.slice (some ⟨bb, o, none⟩) rows.length cap) ∧ W.cell? ⟨bb, o + a.toNat, none⟩ = some (.slice A' r.length cap') from
  fun W hW => ⟨blk_cell (boxb hW q1) 1, blk_cell (boxb hW q1) 2, blk_cell (boxb hW q0) 2, ext_cell (below_ext hB3 hW) hck⟩)
 have HIN := Lib.hid (hin.ext hB3)
 have HB3 := Lib.hid hB3; have Q2 := Lib.hid q2; have HBB := Lib.hid hbb; have HW3 := Lib.hid hW3
 have hsz : W3.heap.size = w.heap.size + 3 := by rw [hW3]; simp
 have HSZ := Lib.hid hsz
 clear hR hc hck hin hr hms hB3 q0 q1 q2 hbb hsz hW3
 go_enter Tryz.func63, Tryz.ntmps63
 go_wp2
 rw [← HW3.out]
 go_region_held3 (fun W => W.cell? ⟨w.heap.size + 1, 1, none⟩ = some (.int .i64 a) ∧ W.cell? ⟨w.heap.size + 1, 2, none⟩ = some (.int .i64 b) ∧ W.cell? ⟨w.heap.size, 2, none⟩ = some (.slice (some ⟨bb, o, none⟩) rows.length cap) ∧ W.cell? ⟨bb, o + a.toNat, none⟩ = some (.slice A' r.length cap')) (first | exact HS.out _ (Below.refl _ _).drew | exact HS.out _ HC.out | exact ⟨(set5_cell (by simp <;> omega)).trans (HS.out _ HC.out).1, (set5_cell (by simp <;> omega)).trans (HS.out _ HC.out).2.1, (set5_cell (by simp <;> omega)).trans (HS.out _ HC.out).2.2.1, (set5_cell (by have := HBB.out; simp <;> omega)).trans (HS.out _ HC.out).2.2.2⟩)
  ((go_at_call 74; refine (l1Own_any _ _ _ _ (HIN.out.ext ?_) (by have := HRL.out; omega)).mono ?_; exact (Below.refl _ _).drew; rintro e w2 ⟨u, rfl, hu, hb2⟩; obtain ⟨A2, c2, rfl, _⟩ := hu.view; have HC := Lib.hid ((Below.refl W3.heap.size W3).drew.trans hb2); have HU := Lib.hid hu; clear hu hb2; obtain ⟨⟨c0, c1, c2', c3, c4⟩, f0, f1, f2, f3, f4⟩ := box5 HC.out Q2.out))
 have hs3 := HSZ.out
 have HO := HU.out
 simp only [World.size_drew] at HO
 go_wp2
 refine bodyPost_ret (v := .agg #[.int .i64 7, .int .i64 a, .int .i64 b, .int .i64 0, .slice A2 r.length c2]) (by simp [results, Tryz.results63, go_sem, *]) rfl ⟨_, rfl, ?_, ?_⟩
 ·rw [HG.out]
  exact (((((HO.setCell (by simp <;> omega) _).setCell (by simp <;> omega) _).setCell (by simp <;> omega) _).setCell (by simp <;> omega) _).setCell (by simp <;> omega) _).mono (by omega)
 ·exact below_set5 (below_ext HB3.out HC.out) (by omega) _ _ _ _ _
theorem stUndo_any (p v h k a b c : Int) (A : Option Addr) (cap : Nat) (rows : List (List Int)) (w : World) (XA : Option Addr) (row : List Int) (xcap : Nat) (hR : RowsAt w A rows) (s : Sys p v h rows) (hok : stB p v h rows k a b c row = true) :
  Calls Tryz.prog 63 #[.int .i64 p, .agg #[.int .i64 v, .int .i64 h, .slice A rows.length cap], .agg #[.int .i64 k, .int .i64 a, .int .i64 b, .int .i64 c, .slice XA row.length xcap]] w fun e w' => ∃ u, e = .returned (.agg #[.int .i64 (uK true k), .int .i64 (uA true k a), .int .i64 (uB true k b), .int .i64 (uC true p k c), u]) ∧ OwnInts w' w.heap.size u (uR true rows k a) ∧ Below w.heap.size w w' := by
 have hst := hok
 unfold stB at hst
 rw [Bool.and_eq_true] at hst
 replace hst := hst.2
 by_cases h1 : k = 1
 ·subst h1
  simp [inB_iff] at hst
  rw [show uK true 1 = 1 by simp [uK], show uA true 1 a = a by simp [uA], show uB true 1 b = b by simp [uB], show uC true p 1 c = 0 by simp [uC], show uR true rows 1 a = [] by simp [uR]]
  exact stu_swap p v h a b c A cap rows w XA row.length xcap
 by_cases h2 : k = 2
 ·subst h2
  simp [inB_iff] at hst
  rw [show uK true 2 = 2 by simp [uK], show uA true 2 a = a by simp [uA], show uB true 2 b = 0 by simp [uB], show uC true p 2 c = (invP p c) by simp [uC], show uR true rows 2 a = [] by simp [uR]]
  exact stu_scale p v h a b c A cap rows w XA row.length xcap s.p2 s.p97 (by omega) (by omega)
 by_cases h3 : k = 3
 ·subst h3
  simp [inB_iff] at hst
  rw [show uK true 3 = 3 by simp [uK], show uA true 3 a = a by simp [uA], show uB true 3 b = b by simp [uB], show uC true p 3 c = ((p - c) % p) by simp [uC], show uR true rows 3 a = [] by simp [uR]]
  exact stu_add p v h a b c A cap rows w XA row.length xcap s.p2 s.p97 (by omega) (by omega)
 by_cases h4 : k = 4
 ·subst h4
  simp [inB_iff] at hst
  rw [show uK true 4 = 5 by simp [uK], show uA true 4 a = a by simp [uA], show uB true 4 b = 0 by simp [uB], show uC true p 4 c = 0 by simp [uC], show uR true rows 4 a = [] by simp [uR]]
  exact stu_drop p v h a b c A cap rows w XA row.length xcap
 by_cases h5 : k = 5
 ·subst h5
  simp [inB_iff] at hst
  rw [show uK true 5 = 4 by simp [uK], show uA true 5 a = a by simp [uA], show uB true 5 b = 0 by simp [uB], show uC true p 5 c = 0 by simp [uC], show uR true rows 5 a = [] by simp [uR]]
  exact stu_put p v h a b c A cap rows w XA row.length xcap
 by_cases h6 : k = 6
 ·subst h6
  simp [inB_iff] at hst
  rw [show uK true 6 = 7 by simp [uK], show uA true 6 a = a by simp [uA], show uB true 6 b = b by simp [uB], show uC true p 6 c = 0 by simp [uC], show uR true rows 6 a = (rows.getD a.toNat []) by simp [uR]]
  exact stu_solve p v h a b c A cap rows w XA row.length xcap hR (by omega) (by omega) (fun r hr => by have := s.len r hr; have := s.v24; have := s.h100; omega)
 by_cases h7 : k = 7
 ·subst h7
  simp [inB_iff] at hst
  rw [show uK true 7 = 6 by simp [uK], show uA true 7 a = a by simp [uA], show uB true 7 b = b by simp [uB], show uC true p 7 c = 0 by simp [uC], show uR true rows 7 a = [] by simp [uR]]
  exact stu_bring p v h a b c A cap rows w XA row.length xcap
 by_cases h8 : k = 8
 ·subst h8
  simp [inB_iff] at hst
  rw [show uK true 8 = 9 by simp [uK], show uA true 8 a = 0 by simp [uA], show uB true 8 b = b by simp [uB], show uC true p 8 c = 0 by simp [uC], show uR true rows 8 a = [] by simp [uR]]
  exact stu_forget p v h a b c A cap rows w XA row.length xcap
 by_cases h9 : k = 9
 ·subst h9
  simp [inB_iff] at hst
  rw [show uK true 9 = 8 by simp [uK], show uA true 9 a = 0 by simp [uA], show uB true 9 b = b by simp [uB], show uC true p 9 c = 0 by simp [uC], show uR true rows 9 a = [] by simp [uR]]
  exact stu_invent p v h a b c A cap rows w XA row.length xcap
 simp [*] at hst
end Go.Proofs.YtjdbfokbgmbphaaGreatDoor
