/-
  DERIVED. GIVEN WITH THE SEED: THE CARDS: each row of YtjdbfokbgmbphaaGreatDoorRows.lean that lists a variable, with what it lists TIED to the program's text (the seventh form; the later family's looks); each row that meets fmt, with fmt's text TOLD by the authors' own Lean function (tested against real Go, not proved from fmt's source: count such statements apart). THE CARD IS WHAT COUNTS. Prove the row's statement (the work); the ties are given (YtjdbfokbgmbphaaGreatDoorTie.lean); close each card by the builder's one call (the guide's Derived/Test/ToyasCard.lean, 'card_holds'). Laid BY PROGRAM, IN A SANDBOX (cutbox-door.mjs). By AI agents, Wed Nov 11 2026. No macro, syntax, notation, axiom, sorry.
-/
import Derived.Test.YtjdbfokbgmbphaaGreatDoorRows
import GoSem.ClaimSeven
namespace Go.Proofs.YtjdbfokbgmbphaaGreatDoor
namespace Rows

/-- THE TIED CARD OF 'laws.FnExactApplyStep'. -/
def fnExactApplyStepCard : Claim7 := { stood := { row := fnExactApplyStepRow, standIns := [], harness := (true, "0ee5968d0b5ca84910f4f23893830c602d2114b1dbde736b4ceb82f25f306180"), looks := false }, kinds := [], alts := [], laidByText := true, laidKinds := [.data], laidTests := true, laidLooks := .later }
def FnExactApplyStepCardSaid : Prop := Claim7.holds Tryz.pinned (.plain (OpenSpec.ofChange fnExactApplyStepSpec)) fnExactApplyStepCard

/-- THE TIED CARD OF 'laws.FnExactFirstBadStep'. -/
def fnExactFirstBadStepCard : Claim7 := { stood := { row := fnExactFirstBadStepRow, standIns := [], harness := (true, "0ee5968d0b5ca84910f4f23893830c602d2114b1dbde736b4ceb82f25f306180"), looks := false }, kinds := [], alts := [], laidByText := true, laidKinds := [.data], laidTests := true, laidLooks := .later }
def FnExactFirstBadStepCardSaid : Prop := Claim7.holds Tryz.pinned (.plain (OpenSpec.ofChange fnExactFirstBadStepSpec)) fnExactFirstBadStepCard

/-- THE TIED CARD OF 'laws.FnExactUndoStep'. -/
def fnExactUndoStepCard : Claim7 := { stood := { row := fnExactUndoStepRow, standIns := [], harness := (true, "0ee5968d0b5ca84910f4f23893830c602d2114b1dbde736b4ceb82f25f306180"), looks := false }, kinds := [], alts := [], laidByText := true, laidKinds := [.data], laidTests := true, laidLooks := .later }
def FnExactUndoStepCardSaid : Prop := Claim7.holds Tryz.pinned (.plain (OpenSpec.ofChange fnExactUndoStepSpec)) fnExactUndoStepCard

/-- THE TIED CARD OF 'laws.FnExactReduceSteps'. -/
def fnExactReduceStepsCard : Claim7 := { stood := { row := fnExactReduceStepsRow, standIns := [], harness := (true, "0ee5968d0b5ca84910f4f23893830c602d2114b1dbde736b4ceb82f25f306180"), looks := false }, kinds := [], alts := [], laidByText := true, laidKinds := [.data], laidTests := true, laidLooks := .later }
def FnExactReduceStepsCardSaid : Prop := Claim7.holds Tryz.pinned (.plain (OpenSpec.ofChange fnExactReduceStepsSpec)) fnExactReduceStepsCard

/-- THE TIED CARD OF 'laws.FnExactCheckSteps'. -/
def fnExactCheckStepsCard : Claim7 := { stood := { row := fnExactCheckStepsRow, standIns := [], harness := (true, "0ee5968d0b5ca84910f4f23893830c602d2114b1dbde736b4ceb82f25f306180"), looks := false }, kinds := [], alts := [], laidByText := true, laidKinds := [.data], laidTests := true, laidLooks := .later }
def FnExactCheckStepsCardSaid : Prop := Claim7.holds Tryz.pinned (.plain (OpenSpec.ofChange fnExactCheckStepsSpec)) fnExactCheckStepsCard

/-- THE TIED CARD OF 'laws.FnExactApplySteps'. -/
def fnExactApplyStepsCard : Claim7 := { stood := { row := fnExactApplyStepsRow, standIns := [], harness := (true, "0ee5968d0b5ca84910f4f23893830c602d2114b1dbde736b4ceb82f25f306180"), looks := false }, kinds := [], alts := [], laidByText := true, laidKinds := [.data], laidTests := true, laidLooks := .later }
def FnExactApplyStepsCardSaid : Prop := Claim7.holds Tryz.pinned (.plain (OpenSpec.ofChange fnExactApplyStepsSpec)) fnExactApplyStepsCard

/-- THE TIED CARD OF 'laws.FnExactUndoSteps'. -/
def fnExactUndoStepsCard : Claim7 := { stood := { row := fnExactUndoStepsRow, standIns := [], harness := (true, "0ee5968d0b5ca84910f4f23893830c602d2114b1dbde736b4ceb82f25f306180"), looks := false }, kinds := [], alts := [], laidByText := true, laidKinds := [.data], laidTests := true, laidLooks := .later }
def FnExactUndoStepsCardSaid : Prop := Claim7.holds Tryz.pinned (.plain (OpenSpec.ofChange fnExactUndoStepsSpec)) fnExactUndoStepsCard

/-- THE TIED CARD OF 'laws.FnExactCompressSteps'. -/
def fnExactCompressStepsCard : Claim7 := { stood := { row := fnExactCompressStepsRow, standIns := [], harness := (true, "0ee5968d0b5ca84910f4f23893830c602d2114b1dbde736b4ceb82f25f306180"), looks := false }, kinds := [], alts := [], laidByText := true, laidKinds := [.data], laidTests := true, laidLooks := .later }
def FnExactCompressStepsCardSaid : Prop := Claim7.holds Tryz.pinned (.plain (OpenSpec.ofChange fnExactCompressStepsSpec)) fnExactCompressStepsCard

/-- THE TIED CARD OF 'laws.FnExactProofBetween'. -/
def fnExactProofBetweenCard : Claim7 := { stood := { row := fnExactProofBetweenRow, standIns := [], harness := (true, "0ee5968d0b5ca84910f4f23893830c602d2114b1dbde736b4ceb82f25f306180"), looks := false }, kinds := [], alts := [], laidByText := true, laidKinds := [.data], laidTests := true, laidLooks := .later }
def FnExactProofBetweenCardSaid : Prop := Claim7.holds Tryz.pinned (.plain (OpenSpec.ofChange fnExactProofBetweenSpec)) fnExactProofBetweenCard

/-- THE SECOND FORM's CARD OF 'laws.FnExactApplyStep'. -/
def fnExactApplyStepUptoCard : Claim7 := { stood := { row := fnExactApplyStepUptoRow, standIns := [], harness := (true, "0ee5968d0b5ca84910f4f23893830c602d2114b1dbde736b4ceb82f25f306180"), looks := false }, kinds := [], alts := [], laidByText := true, laidKinds := [.data], laidTests := true, laidLooks := .later }
def FnExactApplyStepUptoCardSaid : Prop := Claim7.holds Tryz.pinned (.plain (OpenSpec.upto fnExactApplyStepSpec)) fnExactApplyStepUptoCard

/-- THE SECOND FORM's CARD OF 'laws.FnExactFirstBadStep'. -/
def fnExactFirstBadStepUptoCard : Claim7 := { stood := { row := fnExactFirstBadStepUptoRow, standIns := [], harness := (true, "0ee5968d0b5ca84910f4f23893830c602d2114b1dbde736b4ceb82f25f306180"), looks := false }, kinds := [], alts := [], laidByText := true, laidKinds := [.data], laidTests := true, laidLooks := .later }
def FnExactFirstBadStepUptoCardSaid : Prop := Claim7.holds Tryz.pinned (.plain (OpenSpec.upto fnExactFirstBadStepSpec)) fnExactFirstBadStepUptoCard

/-- THE SECOND FORM's CARD OF 'laws.FnExactUndoStep'. -/
def fnExactUndoStepUptoCard : Claim7 := { stood := { row := fnExactUndoStepUptoRow, standIns := [], harness := (true, "0ee5968d0b5ca84910f4f23893830c602d2114b1dbde736b4ceb82f25f306180"), looks := false }, kinds := [], alts := [], laidByText := true, laidKinds := [.data], laidTests := true, laidLooks := .later }
def FnExactUndoStepUptoCardSaid : Prop := Claim7.holds Tryz.pinned (.plain (OpenSpec.upto fnExactUndoStepSpec)) fnExactUndoStepUptoCard

/-- THE SECOND FORM's CARD OF 'laws.FnExactReduceSteps'. -/
def fnExactReduceStepsUptoCard : Claim7 := { stood := { row := fnExactReduceStepsUptoRow, standIns := [], harness := (true, "0ee5968d0b5ca84910f4f23893830c602d2114b1dbde736b4ceb82f25f306180"), looks := false }, kinds := [], alts := [], laidByText := true, laidKinds := [.data], laidTests := true, laidLooks := .later }
def FnExactReduceStepsUptoCardSaid : Prop := Claim7.holds Tryz.pinned (.plain (OpenSpec.upto fnExactReduceStepsSpec)) fnExactReduceStepsUptoCard

/-- THE SECOND FORM's CARD OF 'laws.FnExactCheckSteps'. -/
def fnExactCheckStepsUptoCard : Claim7 := { stood := { row := fnExactCheckStepsUptoRow, standIns := [], harness := (true, "0ee5968d0b5ca84910f4f23893830c602d2114b1dbde736b4ceb82f25f306180"), looks := false }, kinds := [], alts := [], laidByText := true, laidKinds := [.data], laidTests := true, laidLooks := .later }
def FnExactCheckStepsUptoCardSaid : Prop := Claim7.holds Tryz.pinned (.plain (OpenSpec.upto fnExactCheckStepsSpec)) fnExactCheckStepsUptoCard

/-- THE SECOND FORM's CARD OF 'laws.FnExactApplySteps'. -/
def fnExactApplyStepsUptoCard : Claim7 := { stood := { row := fnExactApplyStepsUptoRow, standIns := [], harness := (true, "0ee5968d0b5ca84910f4f23893830c602d2114b1dbde736b4ceb82f25f306180"), looks := false }, kinds := [], alts := [], laidByText := true, laidKinds := [.data], laidTests := true, laidLooks := .later }
def FnExactApplyStepsUptoCardSaid : Prop := Claim7.holds Tryz.pinned (.plain (OpenSpec.upto fnExactApplyStepsSpec)) fnExactApplyStepsUptoCard

/-- THE SECOND FORM's CARD OF 'laws.FnExactUndoSteps'. -/
def fnExactUndoStepsUptoCard : Claim7 := { stood := { row := fnExactUndoStepsUptoRow, standIns := [], harness := (true, "0ee5968d0b5ca84910f4f23893830c602d2114b1dbde736b4ceb82f25f306180"), looks := false }, kinds := [], alts := [], laidByText := true, laidKinds := [.data], laidTests := true, laidLooks := .later }
def FnExactUndoStepsUptoCardSaid : Prop := Claim7.holds Tryz.pinned (.plain (OpenSpec.upto fnExactUndoStepsSpec)) fnExactUndoStepsUptoCard

/-- THE SECOND FORM's CARD OF 'laws.FnExactCompressSteps'. -/
def fnExactCompressStepsUptoCard : Claim7 := { stood := { row := fnExactCompressStepsUptoRow, standIns := [], harness := (true, "0ee5968d0b5ca84910f4f23893830c602d2114b1dbde736b4ceb82f25f306180"), looks := false }, kinds := [], alts := [], laidByText := true, laidKinds := [.data], laidTests := true, laidLooks := .later }
def FnExactCompressStepsUptoCardSaid : Prop := Claim7.holds Tryz.pinned (.plain (OpenSpec.upto fnExactCompressStepsSpec)) fnExactCompressStepsUptoCard

/-- THE SECOND FORM's CARD OF 'laws.FnExactProofBetween'. -/
def fnExactProofBetweenUptoCard : Claim7 := { stood := { row := fnExactProofBetweenUptoRow, standIns := [], harness := (true, "0ee5968d0b5ca84910f4f23893830c602d2114b1dbde736b4ceb82f25f306180"), looks := false }, kinds := [], alts := [], laidByText := true, laidKinds := [.data], laidTests := true, laidLooks := .later }
def FnExactProofBetweenUptoCardSaid : Prop := Claim7.holds Tryz.pinned (.plain (OpenSpec.upto fnExactProofBetweenSpec)) fnExactProofBetweenUptoCard
end Rows
end Go.Proofs.YtjdbfokbgmbphaaGreatDoor
