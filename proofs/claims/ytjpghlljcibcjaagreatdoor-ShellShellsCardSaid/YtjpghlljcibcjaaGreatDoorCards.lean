/-
  DERIVED. GIVEN WITH THE SEED: THE CARDS: each row of YtjpghlljcibcjaaGreatDoorRows.lean that lists a variable, with what it lists TIED to the program's text (the seventh form; the later family's looks); each row that meets fmt, with fmt's text TOLD by the authors' own Lean function (tested against real Go, not proved from fmt's source: count such statements apart). THE CARD IS WHAT COUNTS. Prove the row's statement (the work); the ties are given (YtjpghlljcibcjaaGreatDoorTie.lean); close each card by the builder's one call (the guide's Derived/Test/ToyasCard.lean, 'card_holds'). Laid BY PROGRAM, IN A SANDBOX (cutbox-door.mjs). By AI agents, Wed Nov 11 2026. No macro, syntax, notation, axiom, sorry.
-/
import Derived.Test.YtjpghlljcibcjaaGreatDoorRows
import GoSem.ClaimSeven
namespace Go.Proofs.YtjpghlljcibcjaaGreatDoor
namespace Rows

/-- THE TIED CARD OF 'verdigrislaw37.ShellColors'. -/
def shellColorsCard : Claim7 := { stood := { row := shellColorsRow, standIns := [], harness := (true, "b0c7b5186f3ae85b323b1a33b7ce93c08079d9b750dc66a336a8ffe7b04f4d0b"), looks := true }, kinds := [], alts := [], laidByText := true, laidKinds := [.data, .data, .data], laidTests := true, laidLooks := .later }
def ShellColorsCardSaid : Prop := Claim7.holds Tryz.pinned (.plain (OpenSpec.ofChange shellColorsSpec)) shellColorsCard

/-- THE TIED CARD OF 'verdigrislaw37.ShellShells'. -/
def shellShellsCard : Claim7 := { stood := { row := shellShellsRow, standIns := [], harness := (true, "b0c7b5186f3ae85b323b1a33b7ce93c08079d9b750dc66a336a8ffe7b04f4d0b"), looks := true }, kinds := [], alts := [], laidByText := true, laidKinds := [.data, .data, .data], laidTests := true, laidLooks := .later }
def ShellShellsCardSaid : Prop := Claim7.holds Tryz.pinned (.plain (OpenSpec.ofChange shellShellsSpec)) shellShellsCard

/-- THE TIED CARD OF 'verdigrislaw37.ShellClosed'. -/
def shellClosedCard : Claim7 := { stood := { row := shellClosedRow, standIns := [], harness := (true, "b0c7b5186f3ae85b323b1a33b7ce93c08079d9b750dc66a336a8ffe7b04f4d0b"), looks := true }, kinds := [], alts := [], laidByText := true, laidKinds := [.data, .data, .data], laidTests := true, laidLooks := .later }
def ShellClosedCardSaid : Prop := Claim7.holds Tryz.pinned (.plain (OpenSpec.ofChange shellClosedSpec)) shellClosedCard

/-- THE TIED CARD OF 'verdigrislaw37.ShellTurns'. -/
def shellTurnsCard : Claim7 := { stood := { row := shellTurnsRow, standIns := [], harness := (true, "b0c7b5186f3ae85b323b1a33b7ce93c08079d9b750dc66a336a8ffe7b04f4d0b"), looks := true }, kinds := [], alts := [], laidByText := true, laidKinds := [.data, .data, .data], laidTests := true, laidLooks := .later }
def ShellTurnsCardSaid : Prop := Claim7.holds Tryz.pinned (.plain (OpenSpec.ofChange shellTurnsSpec)) shellTurnsCard

/-- THE TIED CARD OF 'verdigrislaw37.ShellKnown'. -/
def shellKnownCard : Claim7 := { stood := { row := shellKnownRow, standIns := [], harness := (true, "b0c7b5186f3ae85b323b1a33b7ce93c08079d9b750dc66a336a8ffe7b04f4d0b"), looks := true }, kinds := [], alts := [], laidByText := true, laidKinds := [.data, .data, .data], laidTests := true, laidLooks := .later }
def ShellKnownCardSaid : Prop := Claim7.holds Tryz.pinned (.plain (OpenSpec.ofChange shellKnownSpec)) shellKnownCard

/-- THE SECOND FORM's CARD OF 'verdigrislaw37.ShellColors'. -/
def shellColorsUptoCard : Claim7 := { stood := { row := shellColorsUptoRow, standIns := [], harness := (true, "b0c7b5186f3ae85b323b1a33b7ce93c08079d9b750dc66a336a8ffe7b04f4d0b"), looks := true }, kinds := [], alts := [], laidByText := true, laidKinds := [.data, .data, .data], laidTests := true, laidLooks := .later }
def ShellColorsUptoCardSaid : Prop := Claim7.holds Tryz.pinned (.plain (OpenSpec.upto shellColorsSpec)) shellColorsUptoCard

/-- THE SECOND FORM's CARD OF 'verdigrislaw37.ShellShells'. -/
def shellShellsUptoCard : Claim7 := { stood := { row := shellShellsUptoRow, standIns := [], harness := (true, "b0c7b5186f3ae85b323b1a33b7ce93c08079d9b750dc66a336a8ffe7b04f4d0b"), looks := true }, kinds := [], alts := [], laidByText := true, laidKinds := [.data, .data, .data], laidTests := true, laidLooks := .later }
def ShellShellsUptoCardSaid : Prop := Claim7.holds Tryz.pinned (.plain (OpenSpec.upto shellShellsSpec)) shellShellsUptoCard

/-- THE SECOND FORM's CARD OF 'verdigrislaw37.ShellClosed'. -/
def shellClosedUptoCard : Claim7 := { stood := { row := shellClosedUptoRow, standIns := [], harness := (true, "b0c7b5186f3ae85b323b1a33b7ce93c08079d9b750dc66a336a8ffe7b04f4d0b"), looks := true }, kinds := [], alts := [], laidByText := true, laidKinds := [.data, .data, .data], laidTests := true, laidLooks := .later }
def ShellClosedUptoCardSaid : Prop := Claim7.holds Tryz.pinned (.plain (OpenSpec.upto shellClosedSpec)) shellClosedUptoCard

/-- THE SECOND FORM's CARD OF 'verdigrislaw37.ShellTurns'. -/
def shellTurnsUptoCard : Claim7 := { stood := { row := shellTurnsUptoRow, standIns := [], harness := (true, "b0c7b5186f3ae85b323b1a33b7ce93c08079d9b750dc66a336a8ffe7b04f4d0b"), looks := true }, kinds := [], alts := [], laidByText := true, laidKinds := [.data, .data, .data], laidTests := true, laidLooks := .later }
def ShellTurnsUptoCardSaid : Prop := Claim7.holds Tryz.pinned (.plain (OpenSpec.upto shellTurnsSpec)) shellTurnsUptoCard

/-- THE SECOND FORM's CARD OF 'verdigrislaw37.ShellKnown'. -/
def shellKnownUptoCard : Claim7 := { stood := { row := shellKnownUptoRow, standIns := [], harness := (true, "b0c7b5186f3ae85b323b1a33b7ce93c08079d9b750dc66a336a8ffe7b04f4d0b"), looks := true }, kinds := [], alts := [], laidByText := true, laidKinds := [.data, .data, .data], laidTests := true, laidLooks := .later }
def ShellKnownUptoCardSaid : Prop := Claim7.holds Tryz.pinned (.plain (OpenSpec.upto shellKnownSpec)) shellKnownUptoCard
end Rows
end Go.Proofs.YtjpghlljcibcjaaGreatDoor
