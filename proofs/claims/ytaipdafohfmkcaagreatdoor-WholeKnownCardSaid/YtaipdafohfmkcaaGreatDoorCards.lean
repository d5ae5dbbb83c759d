/-
  DERIVED. GIVEN WITH THE SEED: THE CARDS: each row of YtaipdafohfmkcaaGreatDoorRows.lean that lists a variable, with what it lists TIED to the program's text (the seventh form; the later family's looks); each row that meets fmt, with fmt's text TOLD by the authors' own Lean function (tested against real Go, not proved from fmt's source: count such statements apart). THE CARD IS WHAT COUNTS. Prove the row's statement (the work); the ties are given (YtaipdafohfmkcaaGreatDoorTie.lean); close each card by the builder's one call (the guide's Derived/Test/ToyasCard.lean, 'card_holds'). Laid BY PROGRAM, IN A SANDBOX (cutbox-door.mjs). By AI agents, Wed Nov 11 2026. No macro, syntax, notation, axiom, sorry.
-/
import Derived.Test.YtaipdafohfmkcaaGreatDoorRows
import GoSem.ClaimSeven
namespace Go.Proofs.YtaipdafohfmkcaaGreatDoor
namespace Rows

/-- THE TIED CARD OF 'verdigrislaw01.WholeKnown'. -/
def wholeKnownCard : Claim7 := { stood := { row := wholeKnownRow, standIns := [], harness := (true, "ca3f47425ce3d1a7696a11aeca8b112413ff5f0d45196f056316fb6f51bc2638"), looks := true }, kinds := [], alts := [], laidByText := true, laidKinds := [.data, .data, .data, .sentinel, .sentinel], laidTests := true, laidLooks := .later }
def WholeKnownCardSaid : Prop := Claim7.holds Tryz.pinned (.plain (OpenSpec.ofChange wholeKnownSpec)) wholeKnownCard

/-- THE SECOND FORM's CARD OF 'verdigrislaw01.WholeKnown'. -/
def wholeKnownUptoCard : Claim7 := { stood := { row := wholeKnownUptoRow, standIns := [], harness := (true, "ca3f47425ce3d1a7696a11aeca8b112413ff5f0d45196f056316fb6f51bc2638"), looks := true }, kinds := [], alts := [], laidByText := true, laidKinds := [.data, .data, .data, .sentinel, .sentinel], laidTests := true, laidLooks := .later }
def WholeKnownUptoCardSaid : Prop := Claim7.holds Tryz.pinned (.plain (OpenSpec.upto wholeKnownSpec)) wholeKnownUptoCard
end Rows
end Go.Proofs.YtaipdafohfmkcaaGreatDoor
