/-
  NARROWER THAN 'FOR EVERY INPUT', by the rows' own cells (each row's printed sentence says how): FnExactApplyStep: laid · FnExactFirstBadStep: laid · FnExactUndoStep: laid · FnExactReduceSteps: laid · FnExactCheckSteps: laid · FnExactApplySteps: laid · FnExactUndoSteps: laid · FnExactCompressSteps: laid · FnExactProofBetween: laid.
  DERIVED. THE GIVEN ROWS OF THIS SEAT. 9 by the template 'for every input the law returns true; each argument reads behind the call as it read before'; 0 by the template 'total and deterministic' (their statements: YtjdbfokbgmbphaaGreatDoorTotals.lean).
  GIVEN WITH THE SEED: the statements are not yours to turn. If you find one false, say at which input.
  Laid BY PROGRAM, IN A SANDBOX (cutbox-rows.mjs): the forced cells as the released guide's own fill.sh prints them over the translation 6b701578b126e998… (all of the seat's roots in one cut). By AI agents, Wed Nov 11 2026. No macro, syntax, notation, axiom, sorry.
-/
import Derived.Test.YtjdbfokbgmbphaaGreatDoorChecked
import GoSem.Claim
import GoSem.ClaimJoined
import GoSem.ClaimMapViews
import Derived.JoinedTies
import Derived.KernelRfl
namespace Go.Proofs.YtjdbfokbgmbphaaGreatDoor
/- THE CELL 'sum', in the pinned program and in every row, IS THE sha256 OF THE DUMP (.gsa) THAT YtjdbfokbgmbphaaGreatDoorProg.lean LOADS. Nothing in Lean hashes anything: it is a label: what it is worth is what the hold of that sum in a sandbox is worth. -/
noncomputable def Tryz.pinned : Pinned := { name := "ytjdbfokbgmbphaagreatdoor", sum := "6b701578b126e998ac74274aed54081ed9eb0ab47de41740723bad2cfa01918c", checked := Tryz.checked }
namespace Rows
def none {H : Type} : Left H := { results := [], args := [] }

/- WHAT THE LISTED PACKAGE-LEVEL VARIABLES READ AS WHEN THE CALL BEGINS. Each datum BY PROGRAM (the guide's laid-datum.mjs) off the statement by which the dump's own 'gosem.cut.vars' lays the variable. In a bare row this is a premise. The card (YtjdbfokbgmbphaaGreatDoorCards.lean) ties it to the program's text. -/
def laid_loop_example_g01073_impl_smallPrimes {H : Type} : DataW H := .agg [.lit (.int .i64 2), .lit (.int .i64 3), .lit (.int .i64 5), .lit (.int .i64 7)]

/-- 'laws.FnExactApplyStep': WHATEVER THE INPUT: true; the input reads as it did. -/
def fnExactApplyStepSpec : ChangeSpec := { name := "fnExactApplyStep", vars := ["loop.example/g01073/impl.smallPrimes"], fn := fun _ => fun
  | [d1, d2, d3, g1] => { results := [.lit (.bool true)], args := [d1, d2, d3], vars := [g1] }
  | _ => none }
def fnExactApplyStepRow : OpenClaim := { program := "ytjdbfokbgmbphaagreatdoor", sum := "6b701578b126e998ac74274aed54081ed9eb0ab47de41740723bad2cfa01918c", func := "loop.example/g01073/laws.FnExactApplyStep", spec := "fnExactApplyStep", unfollowed := true, recurses := true, named := ["loop.example/g01073/impl.smallPrimes"], apart := false, laid := [("loop.example/g01073/impl.smallPrimes", laid_loop_example_g01073_impl_smallPrimes)] }
def FnExactApplyStepSaid : Prop := fnExactApplyStepRow.holds Tryz.pinned (OpenSpec.ofChange fnExactApplyStepSpec)

/-- ITS FALSE NEIGHBOUR: 'it returns false'. Refute it at one input. -/
def fnExactApplyStepWrong : ChangeSpec := { name := "fnExactApplyStep", vars := ["loop.example/g01073/impl.smallPrimes"], fn := fun _ => fun
  | [d1, d2, d3, g1] => { results := [.lit (.bool false)], args := [d1, d2, d3], vars := [g1] }
  | _ => none }
def FnExactApplyStepWrongFalsely : Prop := fnExactApplyStepRow.holds Tryz.pinned (OpenSpec.ofChange fnExactApplyStepWrong)

/-- 'laws.FnExactFirstBadStep': WHATEVER THE INPUT: true; the input reads as it did. -/
def fnExactFirstBadStepSpec : ChangeSpec := { name := "fnExactFirstBadStep", vars := ["loop.example/g01073/impl.smallPrimes"], fn := fun _ => fun
  | [d1, d2, d3, g1] => { results := [.lit (.bool true)], args := [d1, d2, d3], vars := [g1] }
  | _ => none }
def fnExactFirstBadStepRow : OpenClaim := { program := "ytjdbfokbgmbphaagreatdoor", sum := "6b701578b126e998ac74274aed54081ed9eb0ab47de41740723bad2cfa01918c", func := "loop.example/g01073/laws.FnExactFirstBadStep", spec := "fnExactFirstBadStep", unfollowed := true, recurses := true, named := ["loop.example/g01073/impl.smallPrimes"], apart := false, laid := [("loop.example/g01073/impl.smallPrimes", laid_loop_example_g01073_impl_smallPrimes)] }
def FnExactFirstBadStepSaid : Prop := fnExactFirstBadStepRow.holds Tryz.pinned (OpenSpec.ofChange fnExactFirstBadStepSpec)

/-- ITS FALSE NEIGHBOUR: 'it returns false'. Refute it at one input. -/
def fnExactFirstBadStepWrong : ChangeSpec := { name := "fnExactFirstBadStep", vars := ["loop.example/g01073/impl.smallPrimes"], fn := fun _ => fun
  | [d1, d2, d3, g1] => { results := [.lit (.bool false)], args := [d1, d2, d3], vars := [g1] }
  | _ => none }
def FnExactFirstBadStepWrongFalsely : Prop := fnExactFirstBadStepRow.holds Tryz.pinned (OpenSpec.ofChange fnExactFirstBadStepWrong)

/-- 'laws.FnExactUndoStep': WHATEVER THE INPUT: true; the input reads as it did. -/
def fnExactUndoStepSpec : ChangeSpec := { name := "fnExactUndoStep", vars := ["loop.example/g01073/impl.smallPrimes"], fn := fun _ => fun
  | [d1, d2, d3, g1] => { results := [.lit (.bool true)], args := [d1, d2, d3], vars := [g1] }
  | _ => none }
def fnExactUndoStepRow : OpenClaim := { program := "ytjdbfokbgmbphaagreatdoor", sum := "6b701578b126e998ac74274aed54081ed9eb0ab47de41740723bad2cfa01918c", func := "loop.example/g01073/laws.FnExactUndoStep", spec := "fnExactUndoStep", unfollowed := true, recurses := true, named := ["loop.example/g01073/impl.smallPrimes"], apart := false, laid := [("loop.example/g01073/impl.smallPrimes", laid_loop_example_g01073_impl_smallPrimes)] }
def FnExactUndoStepSaid : Prop := fnExactUndoStepRow.holds Tryz.pinned (OpenSpec.ofChange fnExactUndoStepSpec)

/-- ITS FALSE NEIGHBOUR: 'it returns false'. Refute it at one input. -/
def fnExactUndoStepWrong : ChangeSpec := { name := "fnExactUndoStep", vars := ["loop.example/g01073/impl.smallPrimes"], fn := fun _ => fun
  | [d1, d2, d3, g1] => { results := [.lit (.bool false)], args := [d1, d2, d3], vars := [g1] }
  | _ => none }
def FnExactUndoStepWrongFalsely : Prop := fnExactUndoStepRow.holds Tryz.pinned (OpenSpec.ofChange fnExactUndoStepWrong)

/-- 'laws.FnExactReduceSteps': WHATEVER THE INPUT: true; the input reads as it did. -/
def fnExactReduceStepsSpec : ChangeSpec := { name := "fnExactReduceSteps", vars := ["loop.example/g01073/impl.smallPrimes"], fn := fun _ => fun
  | [d1, d2, g1] => { results := [.lit (.bool true)], args := [d1, d2], vars := [g1] }
  | _ => none }
def fnExactReduceStepsRow : OpenClaim := { program := "ytjdbfokbgmbphaagreatdoor", sum := "6b701578b126e998ac74274aed54081ed9eb0ab47de41740723bad2cfa01918c", func := "loop.example/g01073/laws.FnExactReduceSteps", spec := "fnExactReduceSteps", unfollowed := true, recurses := true, named := ["loop.example/g01073/impl.smallPrimes"], apart := false, laid := [("loop.example/g01073/impl.smallPrimes", laid_loop_example_g01073_impl_smallPrimes)] }
def FnExactReduceStepsSaid : Prop := fnExactReduceStepsRow.holds Tryz.pinned (OpenSpec.ofChange fnExactReduceStepsSpec)

/-- ITS FALSE NEIGHBOUR: 'it returns false'. Refute it at one input. -/
def fnExactReduceStepsWrong : ChangeSpec := { name := "fnExactReduceSteps", vars := ["loop.example/g01073/impl.smallPrimes"], fn := fun _ => fun
  | [d1, d2, g1] => { results := [.lit (.bool false)], args := [d1, d2], vars := [g1] }
  | _ => none }
def FnExactReduceStepsWrongFalsely : Prop := fnExactReduceStepsRow.holds Tryz.pinned (OpenSpec.ofChange fnExactReduceStepsWrong)

/-- 'laws.FnExactCheckSteps': WHATEVER THE INPUT: true; the input reads as it did. -/
def fnExactCheckStepsSpec : ChangeSpec := { name := "fnExactCheckSteps", vars := ["loop.example/g01073/impl.smallPrimes"], fn := fun _ => fun
  | [d1, d2, d3, d4, g1] => { results := [.lit (.bool true)], args := [d1, d2, d3, d4], vars := [g1] }
  | _ => none }
def fnExactCheckStepsRow : OpenClaim := { program := "ytjdbfokbgmbphaagreatdoor", sum := "6b701578b126e998ac74274aed54081ed9eb0ab47de41740723bad2cfa01918c", func := "loop.example/g01073/laws.FnExactCheckSteps", spec := "fnExactCheckSteps", unfollowed := true, recurses := true, named := ["loop.example/g01073/impl.smallPrimes"], apart := false, laid := [("loop.example/g01073/impl.smallPrimes", laid_loop_example_g01073_impl_smallPrimes)] }
def FnExactCheckStepsSaid : Prop := fnExactCheckStepsRow.holds Tryz.pinned (OpenSpec.ofChange fnExactCheckStepsSpec)

/-- ITS FALSE NEIGHBOUR: 'it returns false'. Refute it at one input. -/
def fnExactCheckStepsWrong : ChangeSpec := { name := "fnExactCheckSteps", vars := ["loop.example/g01073/impl.smallPrimes"], fn := fun _ => fun
  | [d1, d2, d3, d4, g1] => { results := [.lit (.bool false)], args := [d1, d2, d3, d4], vars := [g1] }
  | _ => none }
def FnExactCheckStepsWrongFalsely : Prop := fnExactCheckStepsRow.holds Tryz.pinned (OpenSpec.ofChange fnExactCheckStepsWrong)

/-- 'laws.FnExactApplySteps': WHATEVER THE INPUT: true; the input reads as it did. -/
def fnExactApplyStepsSpec : ChangeSpec := { name := "fnExactApplySteps", vars := ["loop.example/g01073/impl.smallPrimes"], fn := fun _ => fun
  | [d1, d2, d3, g1] => { results := [.lit (.bool true)], args := [d1, d2, d3], vars := [g1] }
  | _ => none }
def fnExactApplyStepsRow : OpenClaim := { program := "ytjdbfokbgmbphaagreatdoor", sum := "6b701578b126e998ac74274aed54081ed9eb0ab47de41740723bad2cfa01918c", func := "loop.example/g01073/laws.FnExactApplySteps", spec := "fnExactApplySteps", unfollowed := true, recurses := true, named := ["loop.example/g01073/impl.smallPrimes"], apart := false, laid := [("loop.example/g01073/impl.smallPrimes", laid_loop_example_g01073_impl_smallPrimes)] }
def FnExactApplyStepsSaid : Prop := fnExactApplyStepsRow.holds Tryz.pinned (OpenSpec.ofChange fnExactApplyStepsSpec)

/-- ITS FALSE NEIGHBOUR: 'it returns false'. Refute it at one input. -/
def fnExactApplyStepsWrong : ChangeSpec := { name := "fnExactApplySteps", vars := ["loop.example/g01073/impl.smallPrimes"], fn := fun _ => fun
  | [d1, d2, d3, g1] => { results := [.lit (.bool false)], args := [d1, d2, d3], vars := [g1] }
  | _ => none }
def FnExactApplyStepsWrongFalsely : Prop := fnExactApplyStepsRow.holds Tryz.pinned (OpenSpec.ofChange fnExactApplyStepsWrong)

/-- 'laws.FnExactUndoSteps': WHATEVER THE INPUT: true; the input reads as it did. -/
def fnExactUndoStepsSpec : ChangeSpec := { name := "fnExactUndoSteps", vars := ["loop.example/g01073/impl.smallPrimes"], fn := fun _ => fun
  | [d1, d2, d3, g1] => { results := [.lit (.bool true)], args := [d1, d2, d3], vars := [g1] }
  | _ => none }
def fnExactUndoStepsRow : OpenClaim := { program := "ytjdbfokbgmbphaagreatdoor", sum := "6b701578b126e998ac74274aed54081ed9eb0ab47de41740723bad2cfa01918c", func := "loop.example/g01073/laws.FnExactUndoSteps", spec := "fnExactUndoSteps", unfollowed := true, recurses := true, named := ["loop.example/g01073/impl.smallPrimes"], apart := false, laid := [("loop.example/g01073/impl.smallPrimes", laid_loop_example_g01073_impl_smallPrimes)] }
def FnExactUndoStepsSaid : Prop := fnExactUndoStepsRow.holds Tryz.pinned (OpenSpec.ofChange fnExactUndoStepsSpec)

/-- ITS FALSE NEIGHBOUR: 'it returns false'. Refute it at one input. -/
def fnExactUndoStepsWrong : ChangeSpec := { name := "fnExactUndoSteps", vars := ["loop.example/g01073/impl.smallPrimes"], fn := fun _ => fun
  | [d1, d2, d3, g1] => { results := [.lit (.bool false)], args := [d1, d2, d3], vars := [g1] }
  | _ => none }
def FnExactUndoStepsWrongFalsely : Prop := fnExactUndoStepsRow.holds Tryz.pinned (OpenSpec.ofChange fnExactUndoStepsWrong)

/-- 'laws.FnExactCompressSteps': WHATEVER THE INPUT: true; the input reads as it did. -/
def fnExactCompressStepsSpec : ChangeSpec := { name := "fnExactCompressSteps", vars := ["loop.example/g01073/impl.smallPrimes"], fn := fun _ => fun
  | [d1, d2, d3, g1] => { results := [.lit (.bool true)], args := [d1, d2, d3], vars := [g1] }
  | _ => none }
def fnExactCompressStepsRow : OpenClaim := { program := "ytjdbfokbgmbphaagreatdoor", sum := "6b701578b126e998ac74274aed54081ed9eb0ab47de41740723bad2cfa01918c", func := "loop.example/g01073/laws.FnExactCompressSteps", spec := "fnExactCompressSteps", unfollowed := true, recurses := true, named := ["loop.example/g01073/impl.smallPrimes"], apart := false, laid := [("loop.example/g01073/impl.smallPrimes", laid_loop_example_g01073_impl_smallPrimes)] }
def FnExactCompressStepsSaid : Prop := fnExactCompressStepsRow.holds Tryz.pinned (OpenSpec.ofChange fnExactCompressStepsSpec)

/-- ITS FALSE NEIGHBOUR: 'it returns false'. Refute it at one input. -/
def fnExactCompressStepsWrong : ChangeSpec := { name := "fnExactCompressSteps", vars := ["loop.example/g01073/impl.smallPrimes"], fn := fun _ => fun
  | [d1, d2, d3, g1] => { results := [.lit (.bool false)], args := [d1, d2, d3], vars := [g1] }
  | _ => none }
def FnExactCompressStepsWrongFalsely : Prop := fnExactCompressStepsRow.holds Tryz.pinned (OpenSpec.ofChange fnExactCompressStepsWrong)

/-- 'laws.FnExactProofBetween': WHATEVER THE INPUT: true; the input reads as it did. -/
def fnExactProofBetweenSpec : ChangeSpec := { name := "fnExactProofBetween", vars := ["loop.example/g01073/impl.smallPrimes"], fn := fun _ => fun
  | [d1, d2, d3, g1] => { results := [.lit (.bool true)], args := [d1, d2, d3], vars := [g1] }
  | _ => none }
def fnExactProofBetweenRow : OpenClaim := { program := "ytjdbfokbgmbphaagreatdoor", sum := "6b701578b126e998ac74274aed54081ed9eb0ab47de41740723bad2cfa01918c", func := "loop.example/g01073/laws.FnExactProofBetween", spec := "fnExactProofBetween", unfollowed := true, recurses := true, named := ["loop.example/g01073/impl.smallPrimes"], apart := false, laid := [("loop.example/g01073/impl.smallPrimes", laid_loop_example_g01073_impl_smallPrimes)] }
def FnExactProofBetweenSaid : Prop := fnExactProofBetweenRow.holds Tryz.pinned (OpenSpec.ofChange fnExactProofBetweenSpec)

/-- ITS FALSE NEIGHBOUR: 'it returns false'. Refute it at one input. -/
def fnExactProofBetweenWrong : ChangeSpec := { name := "fnExactProofBetween", vars := ["loop.example/g01073/impl.smallPrimes"], fn := fun _ => fun
  | [d1, d2, d3, g1] => { results := [.lit (.bool false)], args := [d1, d2, d3], vars := [g1] }
  | _ => none }
def FnExactProofBetweenWrongFalsely : Prop := fnExactProofBetweenRow.holds Tryz.pinned (OpenSpec.ofChange fnExactProofBetweenWrong)

/- THE SECOND FORM. 'bulk': how many values and letters a reading holds, each counted each time it is reached (what is shared counts as often as it is met; a slice's spare places count too). A statement '..UptoSaid' is the law's where the arguments, and the package variables that the reading takes, are together of bulk at most 1048576: NARROWER than '..Said'. Prove '..Said' where nothing that the law and all that it calls make is longer than what came in: it says more and counts as full. Else prove '..UptoSaid'. A law counts once. -/
mutual
def uptoBulk {H : Type} : DataW H → Nat
  | .lit (.string bytes) => bytes.length + 1
  | .lit _ => 1
  | .nil => 1
  | .ptr d => uptoBulk d + 1
  | .slice elems spare => uptoBulkAll elems + uptoBulkAll spare + 1
  | .agg parts => uptoBulkAll parts + 1
  | .iface _ d => uptoBulk d + 1
  | .map entries => uptoBulkEntries entries + 1
  | .held _ => 1
def uptoBulkAll {H : Type} : List (DataW H) → Nat
  | [] => 0
  | d :: r => uptoBulk d + uptoBulkAll r
def uptoBulkEntries {H : Type} : List (Lit × DataW H) → Nat
  | [] => 0
  | x :: r => uptoBulkEntry x + uptoBulkEntries r
def uptoBulkEntry {H : Type} : Lit × DataW H → Nat
  | (.string bytes, d) => bytes.length + uptoBulk d + 1
  | (_, d) => uptoBulk d + 1
 end
def uptoSmall : (H : Type) → List (DataW H) → Bool := fun _ ds => decide (uptoBulkAll ds ≤ 1048576)
def OpenSpec.upto (s : _root_.Go.ChangeSpec) : _root_.Go.OpenSpec := { _root_.Go.OpenSpec.ofChange s with cond := some uptoSmall }

/-- 'laws.FnExactApplyStep', WHERE WHAT IT READS IS OF BULK AT MOST 1048576: true; the input reads as it did. -/
def fnExactApplyStepUptoRow : OpenClaim := { program := "ytjdbfokbgmbphaagreatdoor", sum := "6b701578b126e998ac74274aed54081ed9eb0ab47de41740723bad2cfa01918c", func := "loop.example/g01073/laws.FnExactApplyStep", spec := "fnExactApplyStep", unfollowed := true, recurses := true, named := ["loop.example/g01073/impl.smallPrimes"], apart := false, laid := [("loop.example/g01073/impl.smallPrimes", laid_loop_example_g01073_impl_smallPrimes)], narrowed := true }
def FnExactApplyStepUptoSaid : Prop := fnExactApplyStepUptoRow.holds Tryz.pinned (OpenSpec.upto fnExactApplyStepSpec)

/-- 'laws.FnExactFirstBadStep', WHERE WHAT IT READS IS OF BULK AT MOST 1048576: true; the input reads as it did. -/
def fnExactFirstBadStepUptoRow : OpenClaim := { program := "ytjdbfokbgmbphaagreatdoor", sum := "6b701578b126e998ac74274aed54081ed9eb0ab47de41740723bad2cfa01918c", func := "loop.example/g01073/laws.FnExactFirstBadStep", spec := "fnExactFirstBadStep", unfollowed := true, recurses := true, named := ["loop.example/g01073/impl.smallPrimes"], apart := false, laid := [("loop.example/g01073/impl.smallPrimes", laid_loop_example_g01073_impl_smallPrimes)], narrowed := true }
def FnExactFirstBadStepUptoSaid : Prop := fnExactFirstBadStepUptoRow.holds Tryz.pinned (OpenSpec.upto fnExactFirstBadStepSpec)

/-- 'laws.FnExactUndoStep', WHERE WHAT IT READS IS OF BULK AT MOST 1048576: true; the input reads as it did. -/
def fnExactUndoStepUptoRow : OpenClaim := { program := "ytjdbfokbgmbphaagreatdoor", sum := "6b701578b126e998ac74274aed54081ed9eb0ab47de41740723bad2cfa01918c", func := "loop.example/g01073/laws.FnExactUndoStep", spec := "fnExactUndoStep", unfollowed := true, recurses := true, named := ["loop.example/g01073/impl.smallPrimes"], apart := false, laid := [("loop.example/g01073/impl.smallPrimes", laid_loop_example_g01073_impl_smallPrimes)], narrowed := true }
def FnExactUndoStepUptoSaid : Prop := fnExactUndoStepUptoRow.holds Tryz.pinned (OpenSpec.upto fnExactUndoStepSpec)

/-- 'laws.FnExactReduceSteps', WHERE WHAT IT READS IS OF BULK AT MOST 1048576: true; the input reads as it did. -/
def fnExactReduceStepsUptoRow : OpenClaim := { program := "ytjdbfokbgmbphaagreatdoor", sum := "6b701578b126e998ac74274aed54081ed9eb0ab47de41740723bad2cfa01918c", func := "loop.example/g01073/laws.FnExactReduceSteps", spec := "fnExactReduceSteps", unfollowed := true, recurses := true, named := ["loop.example/g01073/impl.smallPrimes"], apart := false, laid := [("loop.example/g01073/impl.smallPrimes", laid_loop_example_g01073_impl_smallPrimes)], narrowed := true }
def FnExactReduceStepsUptoSaid : Prop := fnExactReduceStepsUptoRow.holds Tryz.pinned (OpenSpec.upto fnExactReduceStepsSpec)

/-- 'laws.FnExactCheckSteps', WHERE WHAT IT READS IS OF BULK AT MOST 1048576: true; the input reads as it did. -/
def fnExactCheckStepsUptoRow : OpenClaim := { program := "ytjdbfokbgmbphaagreatdoor", sum := "6b701578b126e998ac74274aed54081ed9eb0ab47de41740723bad2cfa01918c", func := "loop.example/g01073/laws.FnExactCheckSteps", spec := "fnExactCheckSteps", unfollowed := true, recurses := true, named := ["loop.example/g01073/impl.smallPrimes"], apart := false, laid := [("loop.example/g01073/impl.smallPrimes", laid_loop_example_g01073_impl_smallPrimes)], narrowed := true }
def FnExactCheckStepsUptoSaid : Prop := fnExactCheckStepsUptoRow.holds Tryz.pinned (OpenSpec.upto fnExactCheckStepsSpec)

/-- 'laws.FnExactApplySteps', WHERE WHAT IT READS IS OF BULK AT MOST 1048576: true; the input reads as it did. -/
def fnExactApplyStepsUptoRow : OpenClaim := { program := "ytjdbfokbgmbphaagreatdoor", sum := "6b701578b126e998ac74274aed54081ed9eb0ab47de41740723bad2cfa01918c", func := "loop.example/g01073/laws.FnExactApplySteps", spec := "fnExactApplySteps", unfollowed := true, recurses := true, named := ["loop.example/g01073/impl.smallPrimes"], apart := false, laid := [("loop.example/g01073/impl.smallPrimes", laid_loop_example_g01073_impl_smallPrimes)], narrowed := true }
def FnExactApplyStepsUptoSaid : Prop := fnExactApplyStepsUptoRow.holds Tryz.pinned (OpenSpec.upto fnExactApplyStepsSpec)

/-- 'laws.FnExactUndoSteps', WHERE WHAT IT READS IS OF BULK AT MOST 1048576: true; the input reads as it did. -/
def fnExactUndoStepsUptoRow : OpenClaim := { program := "ytjdbfokbgmbphaagreatdoor", sum := "6b701578b126e998ac74274aed54081ed9eb0ab47de41740723bad2cfa01918c", func := "loop.example/g01073/laws.FnExactUndoSteps", spec := "fnExactUndoSteps", unfollowed := true, recurses := true, named := ["loop.example/g01073/impl.smallPrimes"], apart := false, laid := [("loop.example/g01073/impl.smallPrimes", laid_loop_example_g01073_impl_smallPrimes)], narrowed := true }
def FnExactUndoStepsUptoSaid : Prop := fnExactUndoStepsUptoRow.holds Tryz.pinned (OpenSpec.upto fnExactUndoStepsSpec)

/-- 'laws.FnExactCompressSteps', WHERE WHAT IT READS IS OF BULK AT MOST 1048576: true; the input reads as it did. -/
def fnExactCompressStepsUptoRow : OpenClaim := { program := "ytjdbfokbgmbphaagreatdoor", sum := "6b701578b126e998ac74274aed54081ed9eb0ab47de41740723bad2cfa01918c", func := "loop.example/g01073/laws.FnExactCompressSteps", spec := "fnExactCompressSteps", unfollowed := true, recurses := true, named := ["loop.example/g01073/impl.smallPrimes"], apart := false, laid := [("loop.example/g01073/impl.smallPrimes", laid_loop_example_g01073_impl_smallPrimes)], narrowed := true }
def FnExactCompressStepsUptoSaid : Prop := fnExactCompressStepsUptoRow.holds Tryz.pinned (OpenSpec.upto fnExactCompressStepsSpec)

/-- 'laws.FnExactProofBetween', WHERE WHAT IT READS IS OF BULK AT MOST 1048576: true; the input reads as it did. -/
def fnExactProofBetweenUptoRow : OpenClaim := { program := "ytjdbfokbgmbphaagreatdoor", sum := "6b701578b126e998ac74274aed54081ed9eb0ab47de41740723bad2cfa01918c", func := "loop.example/g01073/laws.FnExactProofBetween", spec := "fnExactProofBetween", unfollowed := true, recurses := true, named := ["loop.example/g01073/impl.smallPrimes"], apart := false, laid := [("loop.example/g01073/impl.smallPrimes", laid_loop_example_g01073_impl_smallPrimes)], narrowed := true }
def FnExactProofBetweenUptoSaid : Prop := fnExactProofBetweenUptoRow.holds Tryz.pinned (OpenSpec.upto fnExactProofBetweenSpec)

end Rows
end Go.Proofs.YtjdbfokbgmbphaaGreatDoor
