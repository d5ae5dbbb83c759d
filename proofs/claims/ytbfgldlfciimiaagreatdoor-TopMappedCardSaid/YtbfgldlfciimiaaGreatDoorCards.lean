/-
  DERIVED. GIVEN WITH THE SEED: THE CARDS: each row of YtbfgldlfciimiaaGreatDoorRows.lean that lists a variable, with what it lists TIED to the program's text (the seventh form; the later family's looks); each row that meets fmt, with fmt's text TOLD by the authors' own Lean function (tested against real Go, not proved from fmt's source: count such statements apart). THE CARD IS WHAT COUNTS. Prove the row's statement (the work); the ties are given (YtbfgldlfciimiaaGreatDoorTie.lean); close each card by the builder's one call (the guide's Derived/Test/ToyasCard.lean, 'card_holds'). Laid BY PROGRAM, IN A SANDBOX (cutbox-door.mjs). By AI agents, Wed Nov 11 2026. No macro, syntax, notation, axiom, sorry.
-/
import Derived.Test.YtbfgldlfciimiaaGreatDoorRows
import GoSem.ClaimSeven
namespace Go.Proofs.YtbfgldlfciimiaaGreatDoor
namespace Rows

/-- THE TIED CARD OF 'verdigristop.TopShell'. -/
def topShellCard : Claim7 := { stood := { row := topShellRow, standIns := [], harness := (true, "0cae1832a82f1f213738dc069982f8be67fade268ecc0a56b53a5608b11c1021"), looks := true }, kinds := [], alts := [], laidByText := true, laidKinds := [.data, .data, .data, .data], laidTests := true, laidLooks := .later }
def TopShellCardSaid : Prop := Claim7.holds Tryz.pinned (.plain (OpenSpec.ofChange topShellSpec)) topShellCard

/-- THE TIED CARD OF 'verdigristop.TopMapped'. -/
def topMappedCard : Claim7 := { stood := { row := topMappedRow, standIns := [], harness := (true, "0cae1832a82f1f213738dc069982f8be67fade268ecc0a56b53a5608b11c1021"), looks := true }, kinds := [], alts := [], laidByText := true, laidKinds := [.data, .data, .data, .sentinel, .sentinel], laidTests := true, laidLooks := .later }
def TopMappedCardSaid : Prop := Claim7.holds Tryz.pinned (.plain (OpenSpec.ofChange topMappedSpec)) topMappedCard

/-- THE SECOND FORM's CARD OF 'verdigristop.TopShell'. -/
def topShellUptoCard : Claim7 := { stood := { row := topShellUptoRow, standIns := [], harness := (true, "0cae1832a82f1f213738dc069982f8be67fade268ecc0a56b53a5608b11c1021"), looks := true }, kinds := [], alts := [], laidByText := true, laidKinds := [.data, .data, .data, .data], laidTests := true, laidLooks := .later }
def TopShellUptoCardSaid : Prop := Claim7.holds Tryz.pinned (.plain (OpenSpec.upto topShellSpec)) topShellUptoCard

/-- THE SECOND FORM's CARD OF 'verdigristop.TopMapped'. -/
def topMappedUptoCard : Claim7 := { stood := { row := topMappedUptoRow, standIns := [], harness := (true, "0cae1832a82f1f213738dc069982f8be67fade268ecc0a56b53a5608b11c1021"), looks := true }, kinds := [], alts := [], laidByText := true, laidKinds := [.data, .data, .data, .sentinel, .sentinel], laidTests := true, laidLooks := .later }
def TopMappedUptoCardSaid : Prop := Claim7.holds Tryz.pinned (.plain (OpenSpec.upto topMappedSpec)) topMappedUptoCard
end Rows
end Go.Proofs.YtbfgldlfciimiaaGreatDoor
