/-
  DERIVED. GIVEN WITH THE SEED: THE CARDS: each row of YtngcfjfaobcpmaaGreatDoorRows.lean that lists a variable, with what it lists TIED to the program's text (the seventh form; the later family's looks); each row that meets fmt, with fmt's text TOLD by the authors' own Lean function (tested against real Go, not proved from fmt's source: count such statements apart). THE CARD IS WHAT COUNTS. Prove the row's statement (the work); the ties are given (YtngcfjfaobcpmaaGreatDoorTie.lean); close each card by the builder's one call (the guide's Derived/Test/ToyasCard.lean, 'card_holds'). Laid BY PROGRAM, IN A SANDBOX (cutbox-door.mjs). By AI agents, Wed Nov 11 2026. No macro, syntax, notation, axiom, sorry.
-/
import Derived.Test.YtngcfjfaobcpmaaGreatDoorRows
import GoSem.ClaimSeven
namespace Go.Proofs.YtngcfjfaobcpmaaGreatDoor
namespace Rows

/-- THE TIED CARD OF 'verdigrislaw38.IntentAnchors'. -/
def intentAnchorsCard : Claim7 := { stood := { row := intentAnchorsRow, standIns := [], harness := (true, "5f80e1667658a947f582734aa5d4c403d45d1544bb2b3a547059ba3fde96e38b"), looks := true }, kinds := [], alts := [], laidByText := true, laidKinds := [.data, .data, .data, .sentinel, .sentinel], laidTests := true, laidLooks := .later }
def IntentAnchorsCardSaid : Prop := Claim7.holds Tryz.pinned (.plain (OpenSpec.ofChange intentAnchorsSpec)) intentAnchorsCard

/-- THE TIED CARD OF 'verdigrislaw38.IntentClips'. -/
def intentClipsCard : Claim7 := { stood := { row := intentClipsRow, standIns := [], harness := (true, "5f80e1667658a947f582734aa5d4c403d45d1544bb2b3a547059ba3fde96e38b"), looks := true }, kinds := [], alts := [], laidByText := true, laidKinds := [.data, .data, .data, .sentinel, .sentinel], laidTests := true, laidLooks := .later }
def IntentClipsCardSaid : Prop := Claim7.holds Tryz.pinned (.plain (OpenSpec.ofChange intentClipsSpec)) intentClipsCard

/-- THE TIED CARD OF 'verdigrislaw38.IntentPresses'. -/
def intentPressesCard : Claim7 := { stood := { row := intentPressesRow, standIns := [], harness := (true, "5f80e1667658a947f582734aa5d4c403d45d1544bb2b3a547059ba3fde96e38b"), looks := true }, kinds := [], alts := [], laidByText := true, laidKinds := [.data, .data, .data, .sentinel, .sentinel], laidTests := true, laidLooks := .later }
def IntentPressesCardSaid : Prop := Claim7.holds Tryz.pinned (.plain (OpenSpec.ofChange intentPressesSpec)) intentPressesCard

/-- THE TIED CARD OF 'verdigrislaw38.IntentLines'. -/
def intentLinesCard : Claim7 := { stood := { row := intentLinesRow, standIns := [], harness := (true, "5f80e1667658a947f582734aa5d4c403d45d1544bb2b3a547059ba3fde96e38b"), looks := true }, kinds := [], alts := [], laidByText := true, laidKinds := [.data, .data, .data, .sentinel, .sentinel], laidTests := true, laidLooks := .later }
def IntentLinesCardSaid : Prop := Claim7.holds Tryz.pinned (.plain (OpenSpec.ofChange intentLinesSpec)) intentLinesCard

/-- THE TIED CARD OF 'verdigrislaw38.IntentOrder'. -/
def intentOrderCard : Claim7 := { stood := { row := intentOrderRow, standIns := [], harness := (true, "5f80e1667658a947f582734aa5d4c403d45d1544bb2b3a547059ba3fde96e38b"), looks := true }, kinds := [], alts := [], laidByText := true, laidKinds := [.data, .data, .data, .sentinel, .sentinel], laidTests := true, laidLooks := .later }
def IntentOrderCardSaid : Prop := Claim7.holds Tryz.pinned (.plain (OpenSpec.ofChange intentOrderSpec)) intentOrderCard

/-- THE TIED CARD OF 'verdigrislaw38.IntentNeutral'. -/
def intentNeutralCard : Claim7 := { stood := { row := intentNeutralRow, standIns := [], harness := (true, "5f80e1667658a947f582734aa5d4c403d45d1544bb2b3a547059ba3fde96e38b"), looks := true }, kinds := [], alts := [], laidByText := true, laidKinds := [.data, .data, .data, .sentinel, .sentinel], laidTests := true, laidLooks := .later }
def IntentNeutralCardSaid : Prop := Claim7.holds Tryz.pinned (.plain (OpenSpec.ofChange intentNeutralSpec)) intentNeutralCard

/-- THE SECOND FORM's CARD OF 'verdigrislaw38.IntentAnchors'. -/
def intentAnchorsUptoCard : Claim7 := { stood := { row := intentAnchorsUptoRow, standIns := [], harness := (true, "5f80e1667658a947f582734aa5d4c403d45d1544bb2b3a547059ba3fde96e38b"), looks := true }, kinds := [], alts := [], laidByText := true, laidKinds := [.data, .data, .data, .sentinel, .sentinel], laidTests := true, laidLooks := .later }
def IntentAnchorsUptoCardSaid : Prop := Claim7.holds Tryz.pinned (.plain (OpenSpec.upto intentAnchorsSpec)) intentAnchorsUptoCard

/-- THE SECOND FORM's CARD OF 'verdigrislaw38.IntentClips'. -/
def intentClipsUptoCard : Claim7 := { stood := { row := intentClipsUptoRow, standIns := [], harness := (true, "5f80e1667658a947f582734aa5d4c403d45d1544bb2b3a547059ba3fde96e38b"), looks := true }, kinds := [], alts := [], laidByText := true, laidKinds := [.data, .data, .data, .sentinel, .sentinel], laidTests := true, laidLooks := .later }
def IntentClipsUptoCardSaid : Prop := Claim7.holds Tryz.pinned (.plain (OpenSpec.upto intentClipsSpec)) intentClipsUptoCard

/-- THE SECOND FORM's CARD OF 'verdigrislaw38.IntentPresses'. -/
def intentPressesUptoCard : Claim7 := { stood := { row := intentPressesUptoRow, standIns := [], harness := (true, "5f80e1667658a947f582734aa5d4c403d45d1544bb2b3a547059ba3fde96e38b"), looks := true }, kinds := [], alts := [], laidByText := true, laidKinds := [.data, .data, .data, .sentinel, .sentinel], laidTests := true, laidLooks := .later }
def IntentPressesUptoCardSaid : Prop := Claim7.holds Tryz.pinned (.plain (OpenSpec.upto intentPressesSpec)) intentPressesUptoCard

/-- THE SECOND FORM's CARD OF 'verdigrislaw38.IntentLines'. -/
def intentLinesUptoCard : Claim7 := { stood := { row := intentLinesUptoRow, standIns := [], harness := (true, "5f80e1667658a947f582734aa5d4c403d45d1544bb2b3a547059ba3fde96e38b"), looks := true }, kinds := [], alts := [], laidByText := true, laidKinds := [.data, .data, .data, .sentinel, .sentinel], laidTests := true, laidLooks := .later }
def IntentLinesUptoCardSaid : Prop := Claim7.holds Tryz.pinned (.plain (OpenSpec.upto intentLinesSpec)) intentLinesUptoCard

/-- THE SECOND FORM's CARD OF 'verdigrislaw38.IntentOrder'. -/
def intentOrderUptoCard : Claim7 := { stood := { row := intentOrderUptoRow, standIns := [], harness := (true, "5f80e1667658a947f582734aa5d4c403d45d1544bb2b3a547059ba3fde96e38b"), looks := true }, kinds := [], alts := [], laidByText := true, laidKinds := [.data, .data, .data, .sentinel, .sentinel], laidTests := true, laidLooks := .later }
def IntentOrderUptoCardSaid : Prop := Claim7.holds Tryz.pinned (.plain (OpenSpec.upto intentOrderSpec)) intentOrderUptoCard

/-- THE SECOND FORM's CARD OF 'verdigrislaw38.IntentNeutral'. -/
def intentNeutralUptoCard : Claim7 := { stood := { row := intentNeutralUptoRow, standIns := [], harness := (true, "5f80e1667658a947f582734aa5d4c403d45d1544bb2b3a547059ba3fde96e38b"), looks := true }, kinds := [], alts := [], laidByText := true, laidKinds := [.data, .data, .data, .sentinel, .sentinel], laidTests := true, laidLooks := .later }
def IntentNeutralUptoCardSaid : Prop := Claim7.holds Tryz.pinned (.plain (OpenSpec.upto intentNeutralSpec)) intentNeutralUptoCard
end Rows
end Go.Proofs.YtngcfjfaobcpmaaGreatDoor
