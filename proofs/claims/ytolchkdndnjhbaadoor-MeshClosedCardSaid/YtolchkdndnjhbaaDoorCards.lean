/-
  DERIVED. GIVEN WITH THE SEED: THE CARDS: each row of YtolchkdndnjhbaaDoorRows.lean that lists a variable, with what it lists TIED to the program's text (the seventh form; the later family's looks); each row that meets fmt, with fmt's text TOLD by the authors' own Lean function (tested against real Go, not proved from fmt's source: count such statements apart). THE CARD IS WHAT COUNTS. Prove the row's statement (the work); the ties are given (YtolchkdndnjhbaaDoorTie.lean); close each card by the builder's one call (the guide's Derived/Test/ToyasCard.lean, 'card_holds'). Laid BY PROGRAM, IN A SANDBOX (cutbox-door.mjs). By AI agents, Wed Nov 11 2026. No macro, syntax, notation, axiom, sorry.
-/
import Derived.Test.YtolchkdndnjhbaaDoorRows
import GoSem.ClaimSeven
namespace Go.Proofs.YtolchkdndnjhbaaDoor
namespace Rows

/-- THE TIED CARD OF 'verdigrislaw35.MeshChanges'. -/
def meshChangesCard : Claim7 := { stood := { row := meshChangesRow, standIns := [], harness := (true, "e2950a573dc62ab8f30b79f0698a82765b0e4979d1d76df949231829e9d428d3"), looks := false }, kinds := [], alts := [], laidByText := true, laidKinds := [.data, .data, .data], laidTests := true, laidLooks := .later }
def MeshChangesCardSaid : Prop := Claim7.holds Tryd.pinned (.plain (OpenSpec.ofChange meshChangesSpec)) meshChangesCard

/-- THE TIED CARD OF 'verdigrislaw35.MeshClosed'. -/
def meshClosedCard : Claim7 := { stood := { row := meshClosedRow, standIns := [], harness := (true, "e2950a573dc62ab8f30b79f0698a82765b0e4979d1d76df949231829e9d428d3"), looks := false }, kinds := [], alts := [], laidByText := true, laidKinds := [.data, .data, .data], laidTests := true, laidLooks := .later }
def MeshClosedCardSaid : Prop := Claim7.holds Tryd.pinned (.plain (OpenSpec.ofChange meshClosedSpec)) meshClosedCard

/-- THE TIED CARD OF 'verdigrislaw35.MeshTetra'. -/
def meshTetraCard : Claim7 := { stood := { row := meshTetraRow, standIns := [], harness := (true, "e2950a573dc62ab8f30b79f0698a82765b0e4979d1d76df949231829e9d428d3"), looks := false }, kinds := [], alts := [], laidByText := true, laidKinds := [.data, .data, .data], laidTests := true, laidLooks := .later }
def MeshTetraCardSaid : Prop := Claim7.holds Tryd.pinned (.plain (OpenSpec.ofChange meshTetraSpec)) meshTetraCard

/-- THE TIED CARD OF 'verdigrislaw35.MeshFlaws'. -/
def meshFlawsCard : Claim7 := { stood := { row := meshFlawsRow, standIns := [], harness := (true, "e2950a573dc62ab8f30b79f0698a82765b0e4979d1d76df949231829e9d428d3"), looks := false }, kinds := [], alts := [], laidByText := true, laidKinds := [.data, .data, .data], laidTests := true, laidLooks := .later }
def MeshFlawsCardSaid : Prop := Claim7.holds Tryd.pinned (.plain (OpenSpec.ofChange meshFlawsSpec)) meshFlawsCard

/-- THE TIED CARD OF 'verdigrislaw35.MeshKnown'. -/
def meshKnownCard : Claim7 := { stood := { row := meshKnownRow, standIns := [], harness := (true, "e2950a573dc62ab8f30b79f0698a82765b0e4979d1d76df949231829e9d428d3"), looks := false }, kinds := [], alts := [], laidByText := true, laidKinds := [.data, .data, .data], laidTests := true, laidLooks := .later }
def MeshKnownCardSaid : Prop := Claim7.holds Tryd.pinned (.plain (OpenSpec.ofChange meshKnownSpec)) meshKnownCard

/-- THE SECOND FORM's CARD OF 'verdigrislaw35.MeshChanges'. -/
def meshChangesUptoCard : Claim7 := { stood := { row := meshChangesUptoRow, standIns := [], harness := (true, "e2950a573dc62ab8f30b79f0698a82765b0e4979d1d76df949231829e9d428d3"), looks := false }, kinds := [], alts := [], laidByText := true, laidKinds := [.data, .data, .data], laidTests := true, laidLooks := .later }
def MeshChangesUptoCardSaid : Prop := Claim7.holds Tryd.pinned (.plain (OpenSpec.upto meshChangesSpec)) meshChangesUptoCard

/-- THE SECOND FORM's CARD OF 'verdigrislaw35.MeshClosed'. -/
def meshClosedUptoCard : Claim7 := { stood := { row := meshClosedUptoRow, standIns := [], harness := (true, "e2950a573dc62ab8f30b79f0698a82765b0e4979d1d76df949231829e9d428d3"), looks := false }, kinds := [], alts := [], laidByText := true, laidKinds := [.data, .data, .data], laidTests := true, laidLooks := .later }
def MeshClosedUptoCardSaid : Prop := Claim7.holds Tryd.pinned (.plain (OpenSpec.upto meshClosedSpec)) meshClosedUptoCard

/-- THE SECOND FORM's CARD OF 'verdigrislaw35.MeshTetra'. -/
def meshTetraUptoCard : Claim7 := { stood := { row := meshTetraUptoRow, standIns := [], harness := (true, "e2950a573dc62ab8f30b79f0698a82765b0e4979d1d76df949231829e9d428d3"), looks := false }, kinds := [], alts := [], laidByText := true, laidKinds := [.data, .data, .data], laidTests := true, laidLooks := .later }
def MeshTetraUptoCardSaid : Prop := Claim7.holds Tryd.pinned (.plain (OpenSpec.upto meshTetraSpec)) meshTetraUptoCard

/-- THE SECOND FORM's CARD OF 'verdigrislaw35.MeshFlaws'. -/
def meshFlawsUptoCard : Claim7 := { stood := { row := meshFlawsUptoRow, standIns := [], harness := (true, "e2950a573dc62ab8f30b79f0698a82765b0e4979d1d76df949231829e9d428d3"), looks := false }, kinds := [], alts := [], laidByText := true, laidKinds := [.data, .data, .data], laidTests := true, laidLooks := .later }
def MeshFlawsUptoCardSaid : Prop := Claim7.holds Tryd.pinned (.plain (OpenSpec.upto meshFlawsSpec)) meshFlawsUptoCard

/-- THE SECOND FORM's CARD OF 'verdigrislaw35.MeshKnown'. -/
def meshKnownUptoCard : Claim7 := { stood := { row := meshKnownUptoRow, standIns := [], harness := (true, "e2950a573dc62ab8f30b79f0698a82765b0e4979d1d76df949231829e9d428d3"), looks := false }, kinds := [], alts := [], laidByText := true, laidKinds := [.data, .data, .data], laidTests := true, laidLooks := .later }
def MeshKnownUptoCardSaid : Prop := Claim7.holds Tryd.pinned (.plain (OpenSpec.upto meshKnownSpec)) meshKnownUptoCard
end Rows
end Go.Proofs.YtolchkdndnjhbaaDoor
