/- FnExactProofBetween returns true for all arguments, and each argument reads afterwards as before: the row, and its card. Condition: the table of small primes is laid as the program's text lays it (tied by the card). -/
import Derived.Test.YtjdbfokbgmbphaaGreatDoorFnPB
import Derived.Test.YtjdbfokbgmbphaaGreatDoorPk27
import Derived.Test.YtjdbfokbgmbphaaGreatDoorCards
import Derived.Test.YtjdbfokbgmbphaaGreatDoorTie
import Derived.WalkKit
import Derived.WalkSmall
import Derived.OpenShut
import Derived.ChangeVars
import Derived.Deep.DeepHandedRow
import Derived.LaidLaws
namespace Go.Proofs.YtjdbfokbgmbphaaGreatDoor.proofBetween
set_option linter.unusedVariables false
set_option linter.unusedSimpArgs false
open Go.ChangeShapes Go.WideShapes Go.ChangeAt Go.RowKit
theorem gTab : Tryz.prog.globalNamed "loop.example/g01073/impl.smallPrimes" = some 0 := by kernel_rfl
theorem gTabType : (Tryz.prog.globals[0]?).map (·.type) = some 112 := by kernel_rfl
theorem cellsTab : Tryz.prog.cellsOf 112 = 4 := by kernel_rfl
theorem table {W : World} (h : laidMetH Tryz.prog Rows.fnExactProofBetweenRow.laid W) : Lib.TabIs Tryz.prog W "loop.example/g01073/impl.smallPrimes" .i64 [2, 3, 5, 7] :=
 Lib.tabIs_of_head (rest := []) gTab gTabType Tryz.underlying112 Tryz.underlying3 cellsInt cellsTab h
theorem primes {W : World} (h : laidMetH Tryz.prog Rows.fnExactProofBetweenRow.laid W) : Primes W :=
 ⟨(table h).cell gTab 0 (by decide), (table h).cell gTab 1 (by decide), (table h).cell gTab 2 (by decide), (table h).cell gTab 3 (by decide)⟩
def tabCells : Array Value := ([2, 3, 5, 7] : List Int).map (fun z => Value.int .i64 z) |>.toArray
theorem reads_table {H : Type} (enc : TypeId × Value → H) (W : World) (sp : Nat → Bool) : DataW.trod enc Tryz.prog W 0 sp true 3 112 tabCells.toList = some (Rows.laid_loop_example_g01073_impl_smallPrimes, []) := by kernel_rfl
set_option maxRecDepth 100000 in
theorem contract (H : Type) (enc : TypeId × Value → H) (W : World) (base : Nat) (args : Array Value) (ds gs : List (DataW H)) (before : List MemPlace)
  (hval : ∀ (j : Nat) t v, Tryz.f11.params[j]? = some t → args[j]? = some v → Value.okWide Tryz.prog W .any base t v)
  (hW : DataW.Whole enc Tryz.prog Tryz.f11.params.toList Rows.fnExactProofBetweenSpec.vars false W args.toList ds gs before) (hL : laidMetH Tryz.prog Rows.fnExactProofBetweenRow.laid W) :
  Calls Tryz.prog 11 args W fun e W' => ∃ v, e = .returned v ∧ Rows.fnExactProofBetweenSpec.post enc Tryz.prog Tryz.f11 false true false false W args v W' := by
 have hW' := hW
 obtain ⟨p, q, hA0, hV, rfl, hfz, hnd⟩ := hW
 have hA : DataW.TrodAll enc Tryz.prog W 0 (fun _ => true) true Tryz.f11.params.toList args.toList ds p := hA0
 rw [Tryz.params11] at hA hval
 obtain ⟨v0, vs0, d0, ds0, p0, q0, hargs, rfl, rfl, h0, r0⟩ := trodAll_cons hA
 obtain ⟨v1, vs1, d1, ds1, p1, q1, rfl, rfl, rfl, h1, r1⟩ := trodAll_cons r0
 obtain ⟨v2, vs2, d2, ds2, p2, q2, rfl, rfl, rfl, h2, r2⟩ := trodAll_cons r1
 obtain ⟨rfl, rfl, rfl⟩ := trodAll_nil r2
 obtain rfl : args = #[v0, v1, v2] := by cases args; simp_all
 obtain ⟨g, t, cs, fuel, d, p', rfl, hg, ht, hvar, hd, rfl⟩ := trodVars_one hV
 obtain rfl := Option.some.inj (gTab.symm.trans hg)
 obtain rfl := Option.some.inj (gTabType.symm.trans ht)
 obtain rfl : cs = tabCells := Option.some.inj (hvar.symm.trans (table hL))
 obtain ⟨rfl, rfl⟩ := DataW.Trod.unique (v := .agg tabCells) ⟨fuel, hd⟩ ⟨3, reads_table enc W _⟩
 have k1 := h1
 have k2 := h2
 obtain ⟨n0, rfl, rfl, rfl, wn0⟩ := open_int Tryz.underlying3 (hval 0 3 v0 rfl rfl) h0
 obtain ⟨a1, b1, A1, rows1, cap1, rfl, hR1, hm1, hms1⟩ := sys_of (hval 1 24 v1 rfl rfl) h1
 obtain ⟨a2, b2, A2, rows2, cap2, rfl, hR2, hm2, hms2⟩ := sys_of (hval 2 24 v2 rfl rfl) h2
 have lt1 : ∀ x ∈ p1, x.block < W.heap.size := by obtain ⟨m, hm⟩ := k1; exact DataW.trod_lt m _ _ _ hm
 have lt2 : ∀ x ∈ p2, x.block < W.heap.size := by obtain ⟨m, hm⟩ := k2; exact DataW.trod_lt m _ _ _ hm
 clear hA0
 refine (fnPB_walk n0 ⟨a1, b1, rows1⟩ A1 cap1 ⟨a2, b2, rows2⟩ A2 cap2 W (primes hL) hR1 hm1 hms1 hR2 hm2 hms2).mono fun e W' ⟨he, bel⟩ => ?_
 subst he
 have hvars : DataW.TrodVars enc Tryz.prog W' (fun b => decide (b < W.heap.size)) ["loop.example/g01073/impl.smallPrimes"] [Rows.laid_loop_example_g01073_impl_smallPrimes] (MemPlace.row ⟨0, 0, none⟩ tabCells.size ++ [] ++ []) :=
  ⟨0, 112, tabCells, 3, [], [], gTab, gTabType, var?_below bel gTab (World.block_lt_of_cell? _ _ (World.var?_cell gTab hvar 0)) hvar, reads_table enc W' _, rfl, rfl⟩
 refine ⟨_, rfl, _, _, _, [], [] ++ (p1 ++ (p2 ++ [])), MemPlace.row ⟨0, 0, none⟩ tabCells.size ++ [] ++ [], hW', trodAll_mk1 (shut_bool Tryz.underlying4 _), (trodAll_cons_mk (shut_int Tryz.underlying3 wn0) (trodAll_cons_mk (Below.trod laidOut (by kernel_rfl) (of_decide_eq_true (by kernel_rfl)) k1 bel lt1) (trodAll_cons_mk (Below.trod laidOut (by kernel_rfl) (of_decide_eq_true (by kernel_rfl)) k2 bel lt2) trodAll_mk0))), hvars, bel.frame _, fun h => by cases h⟩
/-- A world for the witness: the settled one, the table (block 0) holding what its initialiser lays. -/
noncomputable def laidWorld (os : Os) : World :=
 { World.holding Tryz.prog os ⟨#[], #[], []⟩ with heap := (World.holding Tryz.prog os ⟨#[], #[], []⟩).heap.modify 0 fun
   | .cells _ t frozen => .cells #[.int .i64 2, .int .i64 3, .int .i64 5, .int .i64 7] t frozen
   | o => o }
def start : Array Value := #[.int .i64 0, .agg #[.int .i64 0, .int .i64 0, .slice none 0 0], .agg #[.int .i64 0, .int .i64 0, .slice none 0 0]]
theorem laid_met (os : Os) : laidMet Tryz.prog Rows.fnExactProofBetweenRow.laid ((laidWorld os).forCall (fun _ _ => 0) ⟨#[], start, []⟩).memory :=
 laidMet_of_run' 8 (by kernel_rfl) (by kernel_rfl)
theorem reads (os : Os) {H : Type} (enc : TypeId × Value → H) : ∃ places, DataW.whole enc Tryz.prog ((laidWorld os).forCall (fun _ _ => 0) ⟨#[], start, []⟩).memory Tryz.f11.params.toList Rows.fnExactProofBetweenSpec.vars false start.toList 8 =
  some ([.lit (.int .i64 0), .agg [.lit (.int .i64 0), .lit (.int .i64 0), .nil], .agg [.lit (.int .i64 0), .lit (.int .i64 0), .nil]], [Rows.laid_loop_example_g01073_impl_smallPrimes], places) :=
 ⟨[.cell 0 0, .cell 0 1, .cell 0 2, .cell 0 3], by kernel_rfl⟩
set_option maxRecDepth 100000 in
theorem lifted (os : Os) (started : os.Started) (H : Type) (enc : TypeId × Value → H) (F : Stop.Interp) :
  ReturnsInHanded {} Tryz.checked os 11 .any ((OpenSpec.ofChange Rows.fnExactProofBetweenSpec).preRow enc Tryz.prog Tryz.f11 Rows.fnExactProofBetweenRow.domain false Rows.fnExactProofBetweenRow.laid) (((OpenSpec.ofChange Rows.fnExactProofBetweenSpec).at F).post enc Tryz.prog Tryz.f11 false true false false) := by
 obtain ⟨places, hx⟩ := reads os enc
 refine returnsInHanded_of_row (C := Tryz.checked) (s := OpenSpec.ofChange Rows.fnExactProofBetweenSpec) own started (by kernel_rfl) Tryz.func11
  (witness_row_at (enc := enc) (C := Tryz.checked) false (laidWorld os) start rfl (by kernel_rfl) (by kernel_rfl) (by kernel_rfl)
   (OpenSpec.preRow_of_cond 8 hx (by kernel_rfl) (fun k hk => by cases hk) (by kernel_rfl) (laid_met os))) ?_
 intro W base args ds gs before hval hW _ _ _ hL _ _
 exact contract H enc W base args ds gs before hval hW hL
theorem said : Rows.FnExactProofBetweenSaid :=
 OpenClaim.holds_of_cond 11 Tryz.f11 rfl rfl rfl rfl rfl rfl rfl ⟨rfl, rfl, rfl, rfl, rfl⟩ rfl rfl rfl rfl rfl (by kernel_rfl) Tryz.func11 (by kernel_rfl)
  (of_decide_eq_true (by kernel_rfl)) (by unfold Func.isWrapper; first | (rw [if_pos (by decide +kernel)]; kernel_rfl) | (rw [if_neg (by decide +kernel)]; exact ⟨rfl, rfl⟩))
  (fun os started H enc _ F => by rw [OpenClaim.pre_eq_preRow]; exact lifted os started H enc F)
theorem plain (f : FuncId) (fn : Func) (hf : Tryz.pinned.checked.prog.funcNamed "loop.example/g01073/laws.FnExactProofBetween" = some f) (hfn : Tryz.pinned.checked.prog.funcs[f]? = some fn) :
  false = Tryz.pinned.checked.prog.looks [] ∧ ∀ (j : Nat) t, fn.params[j]? = some t → Tryz.pinned.checked.prog.wantsStandIn t = false := by
 obtain rfl : f = 11 := Option.some.inj ((show Tryz.prog.funcNamed "loop.example/g01073/laws.FnExactProofBetween" = some 11 by kernel_rfl).symm.trans hf) |>.symm
 obtain rfl : fn = Tryz.f11 := (Option.some.inj (Tryz.func11.symm.trans hfn)).symm
 refine ⟨by kernel_rfl, fun j t ht => ?_⟩
 rw [Tryz.params11] at ht
 have hm : t ∈ [3, 24, 24] := by simpa using Array.mem_of_getElem? ht
 have hall : ([3, 24, 24].all fun u => !Tryz.prog.wantsStandIn u) = true := by kernel_rfl
 exact (show Tryz.prog.wantsStandIn t = false by simpa using List.all_eq_true.1 hall t hm)
theorem card : Rows.FnExactProofBetweenCardSaid :=
 Claim7.holds_tied_plain_at .later [] _ _ _ _ said (fun _ h => by cases h) (by kernel_rfl) (fun _ h => by cases h) fnExactProofBetween_row_tie rfl ⟨rfl, rfl⟩ (by kernel_rfl) rfl plain (by kernel_rfl)
#print axioms card
end Go.Proofs.YtjdbfokbgmbphaaGreatDoor.proofBetween
