/-
  DERIVED. GIVEN WITH THE SEED: THE CARDS: each row of YtoednejlfbfciaaGreatDoorRows.lean that lists a variable, with what it lists TIED to the program's text (the seventh form; the later family's looks); each row that meets fmt, with fmt's text TOLD by the authors' own Lean function (tested against real Go, not proved from fmt's source: count such statements apart). THE CARD IS WHAT COUNTS. Prove the row's statement (the work); the ties are given (YtoednejlfbfciaaGreatDoorTie.lean); close each card by the builder's one call (the guide's Derived/Test/ToyasCard.lean, 'card_holds'). Laid BY PROGRAM, IN A SANDBOX (cutbox-door.mjs). By AI agents, Wed Nov 11 2026. No macro, syntax, notation, axiom, sorry.
-/
import Derived.Test.YtoednejlfbfciaaGreatDoorRows
import GoSem.ClaimSeven
namespace Go.Proofs.YtoednejlfbfciaaGreatDoor
namespace Rows

/-- THE TIED CARD OF 'verdigrislaw39.InkSplits'. -/
def inkSplitsCard : Claim7 := { stood := { row := inkSplitsRow, standIns := [], harness := (true, "304733f08f9013bb1d223d3d9c3b8eb53bc6fe503147fbec593b8ecf0b64372e"), looks := true }, kinds := [], alts := [], laidByText := true, laidKinds := [.data, .data, .data, .sentinel, .sentinel], laidTests := true, laidLooks := .later }
def InkSplitsCardSaid : Prop := Claim7.holds Tryz.pinned (.plain (OpenSpec.ofChange inkSplitsSpec)) inkSplitsCard

/-- THE TIED CARD OF 'verdigrislaw39.InkOrders'. -/
def inkOrdersCard : Claim7 := { stood := { row := inkOrdersRow, standIns := [], harness := (true, "304733f08f9013bb1d223d3d9c3b8eb53bc6fe503147fbec593b8ecf0b64372e"), looks := true }, kinds := [], alts := [], laidByText := true, laidKinds := [.data, .data, .data, .sentinel, .sentinel], laidTests := true, laidLooks := .later }
def InkOrdersCardSaid : Prop := Claim7.holds Tryz.pinned (.plain (OpenSpec.ofChange inkOrdersSpec)) inkOrdersCard

/-- THE TIED CARD OF 'verdigrislaw39.InkCuts'. -/
def inkCutsCard : Claim7 := { stood := { row := inkCutsRow, standIns := [], harness := (true, "304733f08f9013bb1d223d3d9c3b8eb53bc6fe503147fbec593b8ecf0b64372e"), looks := true }, kinds := [], alts := [], laidByText := true, laidKinds := [.data, .data, .data, .sentinel, .sentinel], laidTests := true, laidLooks := .later }
def InkCutsCardSaid : Prop := Claim7.holds Tryz.pinned (.plain (OpenSpec.ofChange inkCutsSpec)) inkCutsCard

/-- THE TIED CARD OF 'verdigrislaw39.InkKeeps'. -/
def inkKeepsCard : Claim7 := { stood := { row := inkKeepsRow, standIns := [], harness := (true, "304733f08f9013bb1d223d3d9c3b8eb53bc6fe503147fbec593b8ecf0b64372e"), looks := true }, kinds := [], alts := [], laidByText := true, laidKinds := [.data, .data, .data, .sentinel, .sentinel], laidTests := true, laidLooks := .later }
def InkKeepsCardSaid : Prop := Claim7.holds Tryz.pinned (.plain (OpenSpec.ofChange inkKeepsSpec)) inkKeepsCard

/-- THE TIED CARD OF 'verdigrislaw39.InkGreys'. -/
def inkGreysCard : Claim7 := { stood := { row := inkGreysRow, standIns := [], harness := (true, "304733f08f9013bb1d223d3d9c3b8eb53bc6fe503147fbec593b8ecf0b64372e"), looks := true }, kinds := [], alts := [], laidByText := true, laidKinds := [.data, .data, .data, .sentinel, .sentinel], laidTests := true, laidLooks := .later }
def InkGreysCardSaid : Prop := Claim7.holds Tryz.pinned (.plain (OpenSpec.ofChange inkGreysSpec)) inkGreysCard

/-- THE TIED CARD OF 'verdigrislaw39.InkKnown'. -/
def inkKnownCard : Claim7 := { stood := { row := inkKnownRow, standIns := [], harness := (true, "304733f08f9013bb1d223d3d9c3b8eb53bc6fe503147fbec593b8ecf0b64372e"), looks := true }, kinds := [], alts := [], laidByText := true, laidKinds := [.data, .data, .data, .sentinel, .sentinel], laidTests := true, laidLooks := .later }
def InkKnownCardSaid : Prop := Claim7.holds Tryz.pinned (.plain (OpenSpec.ofChange inkKnownSpec)) inkKnownCard

/-- THE SECOND FORM's CARD OF 'verdigrislaw39.InkSplits'. -/
def inkSplitsUptoCard : Claim7 := { stood := { row := inkSplitsUptoRow, standIns := [], harness := (true, "304733f08f9013bb1d223d3d9c3b8eb53bc6fe503147fbec593b8ecf0b64372e"), looks := true }, kinds := [], alts := [], laidByText := true, laidKinds := [.data, .data, .data, .sentinel, .sentinel], laidTests := true, laidLooks := .later }
def InkSplitsUptoCardSaid : Prop := Claim7.holds Tryz.pinned (.plain (OpenSpec.upto inkSplitsSpec)) inkSplitsUptoCard

/-- THE SECOND FORM's CARD OF 'verdigrislaw39.InkOrders'. -/
def inkOrdersUptoCard : Claim7 := { stood := { row := inkOrdersUptoRow, standIns := [], harness := (true, "304733f08f9013bb1d223d3d9c3b8eb53bc6fe503147fbec593b8ecf0b64372e"), looks := true }, kinds := [], alts := [], laidByText := true, laidKinds := [.data, .data, .data, .sentinel, .sentinel], laidTests := true, laidLooks := .later }
def InkOrdersUptoCardSaid : Prop := Claim7.holds Tryz.pinned (.plain (OpenSpec.upto inkOrdersSpec)) inkOrdersUptoCard

/-- THE SECOND FORM's CARD OF 'verdigrislaw39.InkCuts'. -/
def inkCutsUptoCard : Claim7 := { stood := { row := inkCutsUptoRow, standIns := [], harness := (true, "304733f08f9013bb1d223d3d9c3b8eb53bc6fe503147fbec593b8ecf0b64372e"), looks := true }, kinds := [], alts := [], laidByText := true, laidKinds := [.data, .data, .data, .sentinel, .sentinel], laidTests := true, laidLooks := .later }
def InkCutsUptoCardSaid : Prop := Claim7.holds Tryz.pinned (.plain (OpenSpec.upto inkCutsSpec)) inkCutsUptoCard

/-- THE SECOND FORM's CARD OF 'verdigrislaw39.InkKeeps'. -/
def inkKeepsUptoCard : Claim7 := { stood := { row := inkKeepsUptoRow, standIns := [], harness := (true, "304733f08f9013bb1d223d3d9c3b8eb53bc6fe503147fbec593b8ecf0b64372e"), looks := true }, kinds := [], alts := [], laidByText := true, laidKinds := [.data, .data, .data, .sentinel, .sentinel], laidTests := true, laidLooks := .later }
def InkKeepsUptoCardSaid : Prop := Claim7.holds Tryz.pinned (.plain (OpenSpec.upto inkKeepsSpec)) inkKeepsUptoCard

/-- THE SECOND FORM's CARD OF 'verdigrislaw39.InkGreys'. -/
def inkGreysUptoCard : Claim7 := { stood := { row := inkGreysUptoRow, standIns := [], harness := (true, "304733f08f9013bb1d223d3d9c3b8eb53bc6fe503147fbec593b8ecf0b64372e"), looks := true }, kinds := [], alts := [], laidByText := true, laidKinds := [.data, .data, .data, .sentinel, .sentinel], laidTests := true, laidLooks := .later }
def InkGreysUptoCardSaid : Prop := Claim7.holds Tryz.pinned (.plain (OpenSpec.upto inkGreysSpec)) inkGreysUptoCard

/-- THE SECOND FORM's CARD OF 'verdigrislaw39.InkKnown'. -/
def inkKnownUptoCard : Claim7 := { stood := { row := inkKnownUptoRow, standIns := [], harness := (true, "304733f08f9013bb1d223d3d9c3b8eb53bc6fe503147fbec593b8ecf0b64372e"), looks := true }, kinds := [], alts := [], laidByText := true, laidKinds := [.data, .data, .data, .sentinel, .sentinel], laidTests := true, laidLooks := .later }
def InkKnownUptoCardSaid : Prop := Claim7.holds Tryz.pinned (.plain (OpenSpec.upto inkKnownSpec)) inkKnownUptoCard
end Rows
end Go.Proofs.YtoednejlfbfciaaGreatDoor
