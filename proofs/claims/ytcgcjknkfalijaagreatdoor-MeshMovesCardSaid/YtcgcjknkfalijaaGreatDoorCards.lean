/-
  DERIVED. GIVEN WITH THE SEED: THE CARDS: each row of YtcgcjknkfalijaaGreatDoorRows.lean that lists a variable, with what it lists TIED to the program's text (the seventh form; the later family's looks); each row that meets fmt, with fmt's text TOLD by the authors' own Lean function (tested against real Go, not proved from fmt's source: count such statements apart). THE CARD IS WHAT COUNTS. Prove the row's statement (the work); the ties are given (YtcgcjknkfalijaaGreatDoorTie.lean); close each card by the builder's one call (the guide's Derived/Test/ToyasCard.lean, 'card_holds'). Laid BY PROGRAM, IN A SANDBOX (cutbox-door.mjs). By AI agents, Wed Nov 11 2026. No macro, syntax, notation, axiom, sorry.
-/
import Derived.Test.YtcgcjknkfalijaaGreatDoorRows
import GoSem.ClaimSeven
namespace Go.Proofs.YtcgcjknkfalijaaGreatDoor
namespace Rows

/-- THE TIED CARD OF 'verdigrislaw35.MeshMoves'. -/
def meshMovesCard : Claim7 := { stood := { row := meshMovesRow, standIns := [], harness := (true, "a8fd672a7d67d2b3a3d8fd5db396cd1fc3369681c53ad88362b114f3afeddac6"), looks := true }, kinds := [], alts := [], laidByText := true, laidKinds := [.data, .data, .data, .sentinel, .sentinel], laidTests := true, laidLooks := .later }
def MeshMovesCardSaid : Prop := Claim7.holds Tryz.pinned (.plain (OpenSpec.ofChange meshMovesSpec)) meshMovesCard

/-- THE SECOND FORM's CARD OF 'verdigrislaw35.MeshMoves'. -/
def meshMovesUptoCard : Claim7 := { stood := { row := meshMovesUptoRow, standIns := [], harness := (true, "a8fd672a7d67d2b3a3d8fd5db396cd1fc3369681c53ad88362b114f3afeddac6"), looks := true }, kinds := [], alts := [], laidByText := true, laidKinds := [.data, .data, .data, .sentinel, .sentinel], laidTests := true, laidLooks := .later }
def MeshMovesUptoCardSaid : Prop := Claim7.holds Tryz.pinned (.plain (OpenSpec.upto meshMovesSpec)) meshMovesUptoCard
end Rows
end Go.Proofs.YtcgcjknkfalijaaGreatDoor
