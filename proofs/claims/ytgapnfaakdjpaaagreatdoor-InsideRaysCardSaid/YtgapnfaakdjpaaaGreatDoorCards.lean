/-
  DERIVED. GIVEN WITH THE SEED: THE CARDS: each row of YtgapnfaakdjpaaaGreatDoorRows.lean that lists a variable, with what it lists TIED to the program's text (the seventh form; the later family's looks); each row that meets fmt, with fmt's text TOLD by the authors' own Lean function (tested against real Go, not proved from fmt's source: count such statements apart). THE CARD IS WHAT COUNTS. Prove the row's statement (the work); the ties are given (YtgapnfaakdjpaaaGreatDoorTie.lean); close each card by the builder's one call (the guide's Derived/Test/ToyasCard.lean, 'card_holds'). Laid BY PROGRAM, IN A SANDBOX (cutbox-door.mjs). By AI agents, Wed Nov 11 2026. No macro, syntax, notation, axiom, sorry.
-/
import Derived.Test.YtgapnfaakdjpaaaGreatDoorRows
import GoSem.ClaimSeven
namespace Go.Proofs.YtgapnfaakdjpaaaGreatDoor
namespace Rows

/-- THE TIED CARD OF 'verdigrislaw36.InsideSides'. -/
def insideSidesCard : Claim7 := { stood := { row := insideSidesRow, standIns := [], harness := (true, "9972970e67a8e020aa2d7a28cef4402365f28e4eb7422be72179fc0bcf27c06f"), looks := true }, kinds := [], alts := [], laidByText := true, laidKinds := [.data, .data, .data], laidTests := true, laidLooks := .later }
def InsideSidesCardSaid : Prop := Claim7.holds Tryz.pinned (.plain (OpenSpec.ofChange insideSidesSpec)) insideSidesCard

/-- THE TIED CARD OF 'verdigrislaw36.InsideRays'. -/
def insideRaysCard : Claim7 := { stood := { row := insideRaysRow, standIns := [], harness := (true, "9972970e67a8e020aa2d7a28cef4402365f28e4eb7422be72179fc0bcf27c06f"), looks := true }, kinds := [], alts := [], laidByText := true, laidKinds := [.data, .data, .data], laidTests := true, laidLooks := .later }
def InsideRaysCardSaid : Prop := Claim7.holds Tryz.pinned (.plain (OpenSpec.ofChange insideRaysSpec)) insideRaysCard

/-- THE TIED CARD OF 'verdigrislaw36.InsideTetra'. -/
def insideTetraCard : Claim7 := { stood := { row := insideTetraRow, standIns := [], harness := (true, "9972970e67a8e020aa2d7a28cef4402365f28e4eb7422be72179fc0bcf27c06f"), looks := true }, kinds := [], alts := [], laidByText := true, laidKinds := [.data, .data, .data], laidTests := true, laidLooks := .later }
def InsideTetraCardSaid : Prop := Claim7.holds Tryz.pinned (.plain (OpenSpec.ofChange insideTetraSpec)) insideTetraCard

/-- THE TIED CARD OF 'verdigrislaw36.InsideMoves'. -/
def insideMovesCard : Claim7 := { stood := { row := insideMovesRow, standIns := [], harness := (true, "9972970e67a8e020aa2d7a28cef4402365f28e4eb7422be72179fc0bcf27c06f"), looks := true }, kinds := [], alts := [], laidByText := true, laidKinds := [.data, .data, .data], laidTests := true, laidLooks := .later }
def InsideMovesCardSaid : Prop := Claim7.holds Tryz.pinned (.plain (OpenSpec.ofChange insideMovesSpec)) insideMovesCard

/-- THE TIED CARD OF 'verdigrislaw36.InsideFirst'. -/
def insideFirstCard : Claim7 := { stood := { row := insideFirstRow, standIns := [], harness := (true, "9972970e67a8e020aa2d7a28cef4402365f28e4eb7422be72179fc0bcf27c06f"), looks := true }, kinds := [], alts := [], laidByText := true, laidKinds := [.data, .data, .data], laidTests := true, laidLooks := .later }
def InsideFirstCardSaid : Prop := Claim7.holds Tryz.pinned (.plain (OpenSpec.ofChange insideFirstSpec)) insideFirstCard

/-- THE TIED CARD OF 'verdigrislaw36.InsideKnown'. -/
def insideKnownCard : Claim7 := { stood := { row := insideKnownRow, standIns := [], harness := (true, "9972970e67a8e020aa2d7a28cef4402365f28e4eb7422be72179fc0bcf27c06f"), looks := true }, kinds := [], alts := [], laidByText := true, laidKinds := [.data, .data, .data], laidTests := true, laidLooks := .later }
def InsideKnownCardSaid : Prop := Claim7.holds Tryz.pinned (.plain (OpenSpec.ofChange insideKnownSpec)) insideKnownCard

/-- THE TIED CARD OF 'verdigrislaw37.ShellHolds'. -/
def shellHoldsCard : Claim7 := { stood := { row := shellHoldsRow, standIns := [], harness := (true, "9972970e67a8e020aa2d7a28cef4402365f28e4eb7422be72179fc0bcf27c06f"), looks := true }, kinds := [], alts := [], laidByText := true, laidKinds := [.data, .data, .data], laidTests := true, laidLooks := .later }
def ShellHoldsCardSaid : Prop := Claim7.holds Tryz.pinned (.plain (OpenSpec.ofChange shellHoldsSpec)) shellHoldsCard

/-- THE SECOND FORM's CARD OF 'verdigrislaw36.InsideSides'. -/
def insideSidesUptoCard : Claim7 := { stood := { row := insideSidesUptoRow, standIns := [], harness := (true, "9972970e67a8e020aa2d7a28cef4402365f28e4eb7422be72179fc0bcf27c06f"), looks := true }, kinds := [], alts := [], laidByText := true, laidKinds := [.data, .data, .data], laidTests := true, laidLooks := .later }
def InsideSidesUptoCardSaid : Prop := Claim7.holds Tryz.pinned (.plain (OpenSpec.upto insideSidesSpec)) insideSidesUptoCard

/-- THE SECOND FORM's CARD OF 'verdigrislaw36.InsideRays'. -/
def insideRaysUptoCard : Claim7 := { stood := { row := insideRaysUptoRow, standIns := [], harness := (true, "9972970e67a8e020aa2d7a28cef4402365f28e4eb7422be72179fc0bcf27c06f"), looks := true }, kinds := [], alts := [], laidByText := true, laidKinds := [.data, .data, .data], laidTests := true, laidLooks := .later }
def InsideRaysUptoCardSaid : Prop := Claim7.holds Tryz.pinned (.plain (OpenSpec.upto insideRaysSpec)) insideRaysUptoCard

/-- THE SECOND FORM's CARD OF 'verdigrislaw36.InsideTetra'. -/
def insideTetraUptoCard : Claim7 := { stood := { row := insideTetraUptoRow, standIns := [], harness := (true, "9972970e67a8e020aa2d7a28cef4402365f28e4eb7422be72179fc0bcf27c06f"), looks := true }, kinds := [], alts := [], laidByText := true, laidKinds := [.data, .data, .data], laidTests := true, laidLooks := .later }
def InsideTetraUptoCardSaid : Prop := Claim7.holds Tryz.pinned (.plain (OpenSpec.upto insideTetraSpec)) insideTetraUptoCard

/-- THE SECOND FORM's CARD OF 'verdigrislaw36.InsideMoves'. -/
def insideMovesUptoCard : Claim7 := { stood := { row := insideMovesUptoRow, standIns := [], harness := (true, "9972970e67a8e020aa2d7a28cef4402365f28e4eb7422be72179fc0bcf27c06f"), looks := true }, kinds := [], alts := [], laidByText := true, laidKinds := [.data, .data, .data], laidTests := true, laidLooks := .later }
def InsideMovesUptoCardSaid : Prop := Claim7.holds Tryz.pinned (.plain (OpenSpec.upto insideMovesSpec)) insideMovesUptoCard

/-- THE SECOND FORM's CARD OF 'verdigrislaw36.InsideFirst'. -/
def insideFirstUptoCard : Claim7 := { stood := { row := insideFirstUptoRow, standIns := [], harness := (true, "9972970e67a8e020aa2d7a28cef4402365f28e4eb7422be72179fc0bcf27c06f"), looks := true }, kinds := [], alts := [], laidByText := true, laidKinds := [.data, .data, .data], laidTests := true, laidLooks := .later }
def InsideFirstUptoCardSaid : Prop := Claim7.holds Tryz.pinned (.plain (OpenSpec.upto insideFirstSpec)) insideFirstUptoCard

/-- THE SECOND FORM's CARD OF 'verdigrislaw36.InsideKnown'. -/
def insideKnownUptoCard : Claim7 := { stood := { row := insideKnownUptoRow, standIns := [], harness := (true, "9972970e67a8e020aa2d7a28cef4402365f28e4eb7422be72179fc0bcf27c06f"), looks := true }, kinds := [], alts := [], laidByText := true, laidKinds := [.data, .data, .data], laidTests := true, laidLooks := .later }
def InsideKnownUptoCardSaid : Prop := Claim7.holds Tryz.pinned (.plain (OpenSpec.upto insideKnownSpec)) insideKnownUptoCard

/-- THE SECOND FORM's CARD OF 'verdigrislaw37.ShellHolds'. -/
def shellHoldsUptoCard : Claim7 := { stood := { row := shellHoldsUptoRow, standIns := [], harness := (true, "9972970e67a8e020aa2d7a28cef4402365f28e4eb7422be72179fc0bcf27c06f"), looks := true }, kinds := [], alts := [], laidByText := true, laidKinds := [.data, .data, .data], laidTests := true, laidLooks := .later }
def ShellHoldsUptoCardSaid : Prop := Claim7.holds Tryz.pinned (.plain (OpenSpec.upto shellHoldsSpec)) shellHoldsUptoCard
end Rows
end Go.Proofs.YtgapnfaakdjpaaaGreatDoor
