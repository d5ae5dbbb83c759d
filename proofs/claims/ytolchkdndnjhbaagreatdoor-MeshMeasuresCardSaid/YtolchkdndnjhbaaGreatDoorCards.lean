/-
  DERIVED. GIVEN WITH THE SEED: THE CARDS: each row of YtolchkdndnjhbaaGreatDoorRows.lean that lists a variable, with what it lists TIED to the program's text (the seventh form; the later family's looks); each row that meets fmt, with fmt's text TOLD by the authors' own Lean function (tested against real Go, not proved from fmt's source: count such statements apart). THE CARD IS WHAT COUNTS. Prove the row's statement (the work); the ties are given (YtolchkdndnjhbaaGreatDoorTie.lean); close each card by the builder's one call (the guide's Derived/Test/ToyasCard.lean, 'card_holds'). Laid BY PROGRAM, IN A SANDBOX (cutbox-door.mjs). By AI agents, Wed Nov 11 2026. No macro, syntax, notation, axiom, sorry.
-/
import Derived.Test.YtolchkdndnjhbaaGreatDoorRows
import GoSem.ClaimSeven
namespace Go.Proofs.YtolchkdndnjhbaaGreatDoor
namespace Rows

/-- THE TIED CARD OF 'verdigrislaw35.MeshMeasures'. -/
def meshMeasuresCard : Claim7 := { stood := { row := meshMeasuresRow, standIns := [], harness := (true, "a6bbc901f9536696862af240362e40066e7d421fc3d741d6fa2ea573e4fbc7dd"), looks := true }, kinds := [], alts := [], laidByText := true, laidKinds := [.data, .data, .data], laidTests := true, laidLooks := .later }
def MeshMeasuresCardSaid : Prop := Claim7.holds Tryz.pinned (.plain (OpenSpec.ofChange meshMeasuresSpec)) meshMeasuresCard

/-- THE TIED CARD OF 'verdigrislaw35.MeshMoves'. -/
def meshMovesCard : Claim7 := { stood := { row := meshMovesRow, standIns := [], harness := (true, "a6bbc901f9536696862af240362e40066e7d421fc3d741d6fa2ea573e4fbc7dd"), looks := true }, kinds := [], alts := [], laidByText := true, laidKinds := [.data, .data, .data, .sentinel, .sentinel], laidTests := true, laidLooks := .later }
def MeshMovesCardSaid : Prop := Claim7.holds Tryz.pinned (.plain (OpenSpec.ofChange meshMovesSpec)) meshMovesCard

/-- THE SECOND FORM's CARD OF 'verdigrislaw35.MeshMeasures'. -/
def meshMeasuresUptoCard : Claim7 := { stood := { row := meshMeasuresUptoRow, standIns := [], harness := (true, "a6bbc901f9536696862af240362e40066e7d421fc3d741d6fa2ea573e4fbc7dd"), looks := true }, kinds := [], alts := [], laidByText := true, laidKinds := [.data, .data, .data], laidTests := true, laidLooks := .later }
def MeshMeasuresUptoCardSaid : Prop := Claim7.holds Tryz.pinned (.plain (OpenSpec.upto meshMeasuresSpec)) meshMeasuresUptoCard

/-- THE SECOND FORM's CARD OF 'verdigrislaw35.MeshMoves'. -/
def meshMovesUptoCard : Claim7 := { stood := { row := meshMovesUptoRow, standIns := [], harness := (true, "a6bbc901f9536696862af240362e40066e7d421fc3d741d6fa2ea573e4fbc7dd"), looks := true }, kinds := [], alts := [], laidByText := true, laidKinds := [.data, .data, .data, .sentinel, .sentinel], laidTests := true, laidLooks := .later }
def MeshMovesUptoCardSaid : Prop := Claim7.holds Tryz.pinned (.plain (OpenSpec.upto meshMovesSpec)) meshMovesUptoCard
end Rows
end Go.Proofs.YtolchkdndnjhbaaGreatDoor
