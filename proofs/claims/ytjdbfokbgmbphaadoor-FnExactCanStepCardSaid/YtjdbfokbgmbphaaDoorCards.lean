/-
  DERIVED. GIVEN WITH THE SEED: THE CARDS: each row of YtjdbfokbgmbphaaDoorRows.lean that lists a variable, with what it lists TIED to the program's text (the seventh form; the later family's looks); each row that meets fmt, with fmt's text TOLD by the authors' own Lean function (tested against real Go, not proved from fmt's source: count such statements apart). THE CARD IS WHAT COUNTS. Prove the row's statement (the work); the ties are given (YtjdbfokbgmbphaaDoorTie.lean); close each card by the builder's one call (the guide's Derived/Test/ToyasCard.lean, 'card_holds'). Laid BY PROGRAM, IN A SANDBOX (cutbox-door.mjs). By AI agents, Wed Nov 11 2026. No macro, syntax, notation, axiom, sorry.
-/
import Derived.Test.YtjdbfokbgmbphaaDoorRows
import GoSem.ClaimSeven
namespace Go.Proofs.YtjdbfokbgmbphaaDoor
namespace Rows

/-- THE TIED CARD OF 'laws.FnExactCanStep'. -/
def fnExactCanStepCard : Claim7 := { stood := { row := fnExactCanStepRow, standIns := [], harness := (true, "08cdbb18df57dbc168677ddbfc9e1ceb6fd6454bbb35190e90972976daa0eae3"), looks := false }, kinds := [], alts := [], laidByText := true, laidKinds := [.data], laidTests := true, laidLooks := .later }
def FnExactCanStepCardSaid : Prop := Claim7.holds Tryd.pinned (.plain (OpenSpec.ofChange fnExactCanStepSpec)) fnExactCanStepCard

/-- THE SECOND FORM's CARD OF 'laws.FnExactCanStep'. -/
def fnExactCanStepUptoCard : Claim7 := { stood := { row := fnExactCanStepUptoRow, standIns := [], harness := (true, "08cdbb18df57dbc168677ddbfc9e1ceb6fd6454bbb35190e90972976daa0eae3"), looks := false }, kinds := [], alts := [], laidByText := true, laidKinds := [.data], laidTests := true, laidLooks := .later }
def FnExactCanStepUptoCardSaid : Prop := Claim7.holds Tryd.pinned (.plain (OpenSpec.upto fnExactCanStepSpec)) fnExactCanStepUptoCard
end Rows
end Go.Proofs.YtjdbfokbgmbphaaDoor
