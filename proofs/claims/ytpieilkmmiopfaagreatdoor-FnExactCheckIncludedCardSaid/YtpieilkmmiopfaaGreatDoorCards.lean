/-
  DERIVED. GIVEN WITH THE SEED: THE CARDS: each row of YtpieilkmmiopfaaGreatDoorRows.lean that lists a variable, with what it lists TIED to the program's text (the seventh form; the later family's looks); each row that meets fmt, with fmt's text TOLD by the authors' own Lean function (tested against real Go, not proved from fmt's source: count such statements apart). THE CARD IS WHAT COUNTS. Prove the row's statement (the work); the ties are given (YtpieilkmmiopfaaGreatDoorTie.lean); close each card by the builder's one call (the guide's Derived/Test/ToyasCard.lean, 'card_holds'). Laid BY PROGRAM, IN A SANDBOX (cutbox-door.mjs). By AI agents, Wed Nov 11 2026. No macro, syntax, notation, axiom, sorry.
-/
import Derived.Test.YtpieilkmmiopfaaGreatDoorRows
import GoSem.ClaimSeven
namespace Go.Proofs.YtpieilkmmiopfaaGreatDoor
namespace Rows

/-- THE TIED CARD OF 'laws.FnExactCheckVerdict'. -/
def fnExactCheckVerdictCard : Claim7 := { stood := { row := fnExactCheckVerdictRow, standIns := [], harness := (true, "4b28ce9c190d738239c8d141fd44673514fe46297bc740cde0e4205af95d4c5d"), looks := false }, kinds := [], alts := [], laidByText := true, laidKinds := [.data], laidTests := true, laidLooks := .later }
def FnExactCheckVerdictCardSaid : Prop := Claim7.holds Tryz.pinned (.plain (OpenSpec.ofChange fnExactCheckVerdictSpec)) fnExactCheckVerdictCard

/-- THE TIED CARD OF 'laws.FnExactCheckIncluded'. -/
def fnExactCheckIncludedCard : Claim7 := { stood := { row := fnExactCheckIncludedRow, standIns := [], harness := (true, "4b28ce9c190d738239c8d141fd44673514fe46297bc740cde0e4205af95d4c5d"), looks := false }, kinds := [], alts := [], laidByText := true, laidKinds := [.data], laidTests := true, laidLooks := .later }
def FnExactCheckIncludedCardSaid : Prop := Claim7.holds Tryz.pinned (.plain (OpenSpec.ofChange fnExactCheckIncludedSpec)) fnExactCheckIncludedCard

/-- THE TIED CARD OF 'laws.FnExactChainVerdicts'. -/
def fnExactChainVerdictsCard : Claim7 := { stood := { row := fnExactChainVerdictsRow, standIns := [], harness := (true, "4b28ce9c190d738239c8d141fd44673514fe46297bc740cde0e4205af95d4c5d"), looks := false }, kinds := [], alts := [], laidByText := true, laidKinds := [.data], laidTests := true, laidLooks := .later }
def FnExactChainVerdictsCardSaid : Prop := Claim7.holds Tryz.pinned (.plain (OpenSpec.ofChange fnExactChainVerdictsSpec)) fnExactChainVerdictsCard

/-- THE SECOND FORM's CARD OF 'laws.FnExactCheckVerdict'. -/
def fnExactCheckVerdictUptoCard : Claim7 := { stood := { row := fnExactCheckVerdictUptoRow, standIns := [], harness := (true, "4b28ce9c190d738239c8d141fd44673514fe46297bc740cde0e4205af95d4c5d"), looks := false }, kinds := [], alts := [], laidByText := true, laidKinds := [.data], laidTests := true, laidLooks := .later }
def FnExactCheckVerdictUptoCardSaid : Prop := Claim7.holds Tryz.pinned (.plain (OpenSpec.upto fnExactCheckVerdictSpec)) fnExactCheckVerdictUptoCard

/-- THE SECOND FORM's CARD OF 'laws.FnExactCheckIncluded'. -/
def fnExactCheckIncludedUptoCard : Claim7 := { stood := { row := fnExactCheckIncludedUptoRow, standIns := [], harness := (true, "4b28ce9c190d738239c8d141fd44673514fe46297bc740cde0e4205af95d4c5d"), looks := false }, kinds := [], alts := [], laidByText := true, laidKinds := [.data], laidTests := true, laidLooks := .later }
def FnExactCheckIncludedUptoCardSaid : Prop := Claim7.holds Tryz.pinned (.plain (OpenSpec.upto fnExactCheckIncludedSpec)) fnExactCheckIncludedUptoCard

/-- THE SECOND FORM's CARD OF 'laws.FnExactChainVerdicts'. -/
def fnExactChainVerdictsUptoCard : Claim7 := { stood := { row := fnExactChainVerdictsUptoRow, standIns := [], harness := (true, "4b28ce9c190d738239c8d141fd44673514fe46297bc740cde0e4205af95d4c5d"), looks := false }, kinds := [], alts := [], laidByText := true, laidKinds := [.data], laidTests := true, laidLooks := .later }
def FnExactChainVerdictsUptoCardSaid : Prop := Claim7.holds Tryz.pinned (.plain (OpenSpec.upto fnExactChainVerdictsSpec)) fnExactChainVerdictsUptoCard
end Rows
end Go.Proofs.YtpieilkmmiopfaaGreatDoor
