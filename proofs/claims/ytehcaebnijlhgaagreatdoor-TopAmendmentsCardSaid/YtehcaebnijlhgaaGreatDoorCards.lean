/-
  DERIVED. GIVEN WITH THE SEED: THE CARDS: each row of YtehcaebnijlhgaaGreatDoorRows.lean that lists a variable, with what it lists TIED to the program's text (the seventh form; the later family's looks); each row that meets fmt, with fmt's text TOLD by the authors' own Lean function (tested against real Go, not proved from fmt's source: count such statements apart). THE CARD IS WHAT COUNTS. Prove the row's statement (the work); the ties are given (YtehcaebnijlhgaaGreatDoorTie.lean); close each card by the builder's one call (the guide's Derived/Test/ToyasCard.lean, 'card_holds'). Laid BY PROGRAM, IN A SANDBOX (cutbox-door.mjs). By AI agents, Wed Nov 11 2026. No macro, syntax, notation, axiom, sorry.
-/
import Derived.Test.YtehcaebnijlhgaaGreatDoorRows
import GoSem.ClaimSeven
namespace Go.Proofs.YtehcaebnijlhgaaGreatDoor
namespace Rows

/-- THE TIED CARD OF 'guerdontop.TopCoverage'. -/
def topCoverageCard : Claim7 := { stood := { row := topCoverageRow, standIns := [], harness := (true, "4885ae05ba00d3fea30f82be44bac80edc09ce34c695643023f316694ef41c10"), looks := true }, kinds := [], alts := [], laidByText := true, laidKinds := [.data], laidTests := true, laidLooks := .later }
def TopCoverageCardSaid : Prop := Claim7.holds Tryz.pinned (.plain (OpenSpec.ofChange topCoverageSpec)) topCoverageCard

/-- THE TIED CARD OF 'guerdontop.TopAmendments'. -/
def topAmendmentsCard : Claim7 := { stood := { row := topAmendmentsRow, standIns := [], harness := (true, "4885ae05ba00d3fea30f82be44bac80edc09ce34c695643023f316694ef41c10"), looks := true }, kinds := [], alts := [], laidByText := true, laidKinds := [.data], laidTests := true, laidLooks := .later }
def TopAmendmentsCardSaid : Prop := Claim7.holds Tryz.pinned (.plain (OpenSpec.ofChange topAmendmentsSpec)) topAmendmentsCard

/-- THE SECOND FORM's CARD OF 'guerdontop.TopCoverage'. -/
def topCoverageUptoCard : Claim7 := { stood := { row := topCoverageUptoRow, standIns := [], harness := (true, "4885ae05ba00d3fea30f82be44bac80edc09ce34c695643023f316694ef41c10"), looks := true }, kinds := [], alts := [], laidByText := true, laidKinds := [.data], laidTests := true, laidLooks := .later }
def TopCoverageUptoCardSaid : Prop := Claim7.holds Tryz.pinned (.plain (OpenSpec.upto topCoverageSpec)) topCoverageUptoCard

/-- THE SECOND FORM's CARD OF 'guerdontop.TopAmendments'. -/
def topAmendmentsUptoCard : Claim7 := { stood := { row := topAmendmentsUptoRow, standIns := [], harness := (true, "4885ae05ba00d3fea30f82be44bac80edc09ce34c695643023f316694ef41c10"), looks := true }, kinds := [], alts := [], laidByText := true, laidKinds := [.data], laidTests := true, laidLooks := .later }
def TopAmendmentsUptoCardSaid : Prop := Claim7.holds Tryz.pinned (.plain (OpenSpec.upto topAmendmentsSpec)) topAmendmentsUptoCard
end Rows
end Go.Proofs.YtehcaebnijlhgaaGreatDoor
