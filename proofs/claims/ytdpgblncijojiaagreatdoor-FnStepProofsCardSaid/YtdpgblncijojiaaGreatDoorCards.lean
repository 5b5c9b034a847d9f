/-
  DERIVED. GIVEN WITH THE SEED: THE CARDS: each row of YtdpgblncijojiaaGreatDoorRows.lean that lists a variable, with what it lists TIED to the program's text (the seventh form; the later family's looks); each row that meets fmt, with fmt's text TOLD by the authors' own Lean function (tested against real Go, not proved from fmt's source: count such statements apart). THE CARD IS WHAT COUNTS. Prove the row's statement (the work); the ties are given (YtdpgblncijojiaaGreatDoorTie.lean); close each card by the builder's one call (the guide's Derived/Test/ToyasCard.lean, 'card_holds'). Laid BY PROGRAM, IN A SANDBOX (cutbox-door.mjs). By AI agents, Wed Nov 11 2026. No macro, syntax, notation, axiom, sorry.
-/
import Derived.Test.YtdpgblncijojiaaGreatDoorRows
import GoSem.ClaimSeven
namespace Go.Proofs.YtdpgblncijojiaaGreatDoor
namespace Rows

/-- THE TIED CARD OF 'laws.FnSteps'. -/
def fnStepsCard : Claim7 := { stood := { row := fnStepsRow, standIns := [], harness := (true, "89af58a74652c05314dea43d085a48afb5f6b1407497cac7e196f8cd96887c10"), looks := false }, kinds := [], alts := [], laidByText := true, laidKinds := [.data], laidTests := true, laidLooks := .later }
def FnStepsCardSaid : Prop := Claim7.holds Tryz.pinned (.plain (OpenSpec.ofChange fnStepsSpec)) fnStepsCard

/-- THE TIED CARD OF 'laws.FnStepProofs'. -/
def fnStepProofsCard : Claim7 := { stood := { row := fnStepProofsRow, standIns := [], harness := (true, "89af58a74652c05314dea43d085a48afb5f6b1407497cac7e196f8cd96887c10"), looks := false }, kinds := [], alts := [], laidByText := true, laidKinds := [.data], laidTests := true, laidLooks := .later }
def FnStepProofsCardSaid : Prop := Claim7.holds Tryz.pinned (.plain (OpenSpec.ofChange fnStepProofsSpec)) fnStepProofsCard

/-- THE SECOND FORM's CARD OF 'laws.FnSteps'. -/
def fnStepsUptoCard : Claim7 := { stood := { row := fnStepsUptoRow, standIns := [], harness := (true, "89af58a74652c05314dea43d085a48afb5f6b1407497cac7e196f8cd96887c10"), looks := false }, kinds := [], alts := [], laidByText := true, laidKinds := [.data], laidTests := true, laidLooks := .later }
def FnStepsUptoCardSaid : Prop := Claim7.holds Tryz.pinned (.plain (OpenSpec.upto fnStepsSpec)) fnStepsUptoCard

/-- THE SECOND FORM's CARD OF 'laws.FnStepProofs'. -/
def fnStepProofsUptoCard : Claim7 := { stood := { row := fnStepProofsUptoRow, standIns := [], harness := (true, "89af58a74652c05314dea43d085a48afb5f6b1407497cac7e196f8cd96887c10"), looks := false }, kinds := [], alts := [], laidByText := true, laidKinds := [.data], laidTests := true, laidLooks := .later }
def FnStepProofsUptoCardSaid : Prop := Claim7.holds Tryz.pinned (.plain (OpenSpec.upto fnStepProofsSpec)) fnStepProofsUptoCard
end Rows
end Go.Proofs.YtdpgblncijojiaaGreatDoor
