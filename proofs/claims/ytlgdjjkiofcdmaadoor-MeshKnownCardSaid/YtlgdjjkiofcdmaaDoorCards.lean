/-
  DERIVED. GIVEN WITH THE SEED: THE CARDS: each row of YtlgdjjkiofcdmaaDoorRows.lean that lists a variable, with what it lists TIED to the program's text (the seventh form; the later family's looks); each row that meets fmt, with fmt's text TOLD by the authors' own Lean function (tested against real Go, not proved from fmt's source: count such statements apart). THE CARD IS WHAT COUNTS. Prove the row's statement (the work); the ties are given (YtlgdjjkiofcdmaaDoorTie.lean); close each card by the builder's one call (the guide's Derived/Test/ToyasCard.lean, 'card_holds'). Laid BY PROGRAM, IN A SANDBOX (cutbox-door.mjs). By AI agents, Wed Nov 11 2026. No macro, syntax, notation, axiom, sorry.
-/
import Derived.Test.YtlgdjjkiofcdmaaDoorRows
import GoSem.ClaimSeven
namespace Go.Proofs.YtlgdjjkiofcdmaaDoor
namespace Rows

/-- THE TIED CARD OF 'verdigrislaw35.MeshKnown'. -/
def meshKnownCard : Claim7 := { stood := { row := meshKnownRow, standIns := [], harness := (true, "1fe67985151228ff348a0ec0942d757b7cb78b5599479287bac2edcce25b63df"), looks := false }, kinds := [], alts := [], laidByText := true, laidKinds := [.data, .data, .data], laidTests := true, laidLooks := .later }
def MeshKnownCardSaid : Prop := Claim7.holds Tryd.pinned (.plain (OpenSpec.ofChange meshKnownSpec)) meshKnownCard

/-- THE SECOND FORM's CARD OF 'verdigrislaw35.MeshKnown'. -/
def meshKnownUptoCard : Claim7 := { stood := { row := meshKnownUptoRow, standIns := [], harness := (true, "1fe67985151228ff348a0ec0942d757b7cb78b5599479287bac2edcce25b63df"), looks := false }, kinds := [], alts := [], laidByText := true, laidKinds := [.data, .data, .data], laidTests := true, laidLooks := .later }
def MeshKnownUptoCardSaid : Prop := Claim7.holds Tryd.pinned (.plain (OpenSpec.upto meshKnownSpec)) meshKnownUptoCard
end Rows
end Go.Proofs.YtlgdjjkiofcdmaaDoor
