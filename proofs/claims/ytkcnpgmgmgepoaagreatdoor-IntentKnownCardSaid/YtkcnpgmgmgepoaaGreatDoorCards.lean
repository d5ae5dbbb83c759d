/-
  DERIVED. GIVEN WITH THE SEED: THE CARDS: each row of YtkcnpgmgmgepoaaGreatDoorRows.lean that lists a variable, with what it lists TIED to the program's text (the seventh form; the later family's looks); each row that meets fmt, with fmt's text TOLD by the authors' own Lean function (tested against real Go, not proved from fmt's source: count such statements apart). THE CARD IS WHAT COUNTS. Prove the row's statement (the work); the ties are given (YtkcnpgmgmgepoaaGreatDoorTie.lean); close each card by the builder's one call (the guide's Derived/Test/ToyasCard.lean, 'card_holds'). Laid BY PROGRAM, IN A SANDBOX (cutbox-door.mjs). By AI agents, Wed Nov 11 2026. No macro, syntax, notation, axiom, sorry.
-/
import Derived.Test.YtkcnpgmgmgepoaaGreatDoorRows
import GoSem.ClaimSeven
namespace Go.Proofs.YtkcnpgmgmgepoaaGreatDoor
namespace Rows

/-- THE TIED CARD OF 'verdigrislaw35.MeshMoves'. -/
def meshMovesCard : Claim7 := { stood := { row := meshMovesRow, standIns := [], harness := (true, "c16a81a91475e077ee1d400e6b946e39e46fe98b5526861d9d4a7de521fd2f5b"), looks := true }, kinds := [], alts := [], laidByText := true, laidKinds := [.data, .data, .data, .sentinel, .sentinel], laidTests := true, laidLooks := .later }
def MeshMovesCardSaid : Prop := Claim7.holds Tryz.pinned (.plain (OpenSpec.ofChange meshMovesSpec)) meshMovesCard

/-- THE TIED CARD OF 'verdigrislaw38.IntentAnchors'. -/
def intentAnchorsCard : Claim7 := { stood := { row := intentAnchorsRow, standIns := [], harness := (true, "c16a81a91475e077ee1d400e6b946e39e46fe98b5526861d9d4a7de521fd2f5b"), looks := true }, kinds := [], alts := [], laidByText := true, laidKinds := [.data, .data, .data, .sentinel, .sentinel], laidTests := true, laidLooks := .later }
def IntentAnchorsCardSaid : Prop := Claim7.holds Tryz.pinned (.plain (OpenSpec.ofChange intentAnchorsSpec)) intentAnchorsCard

/-- THE TIED CARD OF 'verdigrislaw38.IntentClips'. -/
def intentClipsCard : Claim7 := { stood := { row := intentClipsRow, standIns := [], harness := (true, "c16a81a91475e077ee1d400e6b946e39e46fe98b5526861d9d4a7de521fd2f5b"), looks := true }, kinds := [], alts := [], laidByText := true, laidKinds := [.data, .data, .data, .sentinel, .sentinel], laidTests := true, laidLooks := .later }
def IntentClipsCardSaid : Prop := Claim7.holds Tryz.pinned (.plain (OpenSpec.ofChange intentClipsSpec)) intentClipsCard

/-- THE TIED CARD OF 'verdigrislaw38.IntentPresses'. -/
def intentPressesCard : Claim7 := { stood := { row := intentPressesRow, standIns := [], harness := (true, "c16a81a91475e077ee1d400e6b946e39e46fe98b5526861d9d4a7de521fd2f5b"), looks := true }, kinds := [], alts := [], laidByText := true, laidKinds := [.data, .data, .data, .sentinel, .sentinel], laidTests := true, laidLooks := .later }
def IntentPressesCardSaid : Prop := Claim7.holds Tryz.pinned (.plain (OpenSpec.ofChange intentPressesSpec)) intentPressesCard

/-- THE TIED CARD OF 'verdigrislaw38.IntentLines'. -/
def intentLinesCard : Claim7 := { stood := { row := intentLinesRow, standIns := [], harness := (true, "c16a81a91475e077ee1d400e6b946e39e46fe98b5526861d9d4a7de521fd2f5b"), looks := true }, kinds := [], alts := [], laidByText := true, laidKinds := [.data, .data, .data, .sentinel, .sentinel], laidTests := true, laidLooks := .later }
def IntentLinesCardSaid : Prop := Claim7.holds Tryz.pinned (.plain (OpenSpec.ofChange intentLinesSpec)) intentLinesCard

/-- THE TIED CARD OF 'verdigrislaw38.IntentOrder'. -/
def intentOrderCard : Claim7 := { stood := { row := intentOrderRow, standIns := [], harness := (true, "c16a81a91475e077ee1d400e6b946e39e46fe98b5526861d9d4a7de521fd2f5b"), looks := true }, kinds := [], alts := [], laidByText := true, laidKinds := [.data, .data, .data, .sentinel, .sentinel], laidTests := true, laidLooks := .later }
def IntentOrderCardSaid : Prop := Claim7.holds Tryz.pinned (.plain (OpenSpec.ofChange intentOrderSpec)) intentOrderCard

/-- THE TIED CARD OF 'verdigrislaw38.IntentNeutral'. -/
def intentNeutralCard : Claim7 := { stood := { row := intentNeutralRow, standIns := [], harness := (true, "c16a81a91475e077ee1d400e6b946e39e46fe98b5526861d9d4a7de521fd2f5b"), looks := true }, kinds := [], alts := [], laidByText := true, laidKinds := [.data, .data, .data, .sentinel, .sentinel], laidTests := true, laidLooks := .later }
def IntentNeutralCardSaid : Prop := Claim7.holds Tryz.pinned (.plain (OpenSpec.ofChange intentNeutralSpec)) intentNeutralCard

/-- THE TIED CARD OF 'verdigrislaw38.IntentKnown'. -/
def intentKnownCard : Claim7 := { stood := { row := intentKnownRow, standIns := [], harness := (true, "c16a81a91475e077ee1d400e6b946e39e46fe98b5526861d9d4a7de521fd2f5b"), looks := true }, kinds := [], alts := [], laidByText := true, laidKinds := [.data, .data, .data, .sentinel, .sentinel], laidTests := true, laidLooks := .later }
def IntentKnownCardSaid : Prop := Claim7.holds Tryz.pinned (.plain (OpenSpec.ofChange intentKnownSpec)) intentKnownCard

/-- THE TIED CARD OF 'verdigrislaw02.FracLists'. -/
def fracListsCard : Claim7 := { stood := { row := fracListsRow, standIns := [], harness := (true, "c16a81a91475e077ee1d400e6b946e39e46fe98b5526861d9d4a7de521fd2f5b"), looks := true }, kinds := [], alts := [], laidByText := true, laidKinds := [.data, .data, .data, .data, .sentinel, .sentinel, .pinned], laidTests := true, laidLooks := .later }
def FracListsCardSaid : Prop := Claim7.holds Tryz.pinned (.plain (OpenSpec.ofChange fracListsSpec)) fracListsCard

/-- THE TIED CARD OF 'verdigrislaw02.FracParses'. -/
def fracParsesCard : Claim7 := { stood := { row := fracParsesRow, standIns := [], harness := (true, "c16a81a91475e077ee1d400e6b946e39e46fe98b5526861d9d4a7de521fd2f5b"), looks := true }, kinds := [], alts := [], laidByText := true, laidKinds := [.data, .data, .data, .data, .sentinel, .sentinel, .pinned], laidTests := true, laidLooks := .later }
def FracParsesCardSaid : Prop := Claim7.holds Tryz.pinned (.plain (OpenSpec.ofChange fracParsesSpec)) fracParsesCard

/-- THE SECOND FORM's CARD OF 'verdigrislaw35.MeshMoves'. -/
def meshMovesUptoCard : Claim7 := { stood := { row := meshMovesUptoRow, standIns := [], harness := (true, "c16a81a91475e077ee1d400e6b946e39e46fe98b5526861d9d4a7de521fd2f5b"), looks := true }, kinds := [], alts := [], laidByText := true, laidKinds := [.data, .data, .data, .sentinel, .sentinel], laidTests := true, laidLooks := .later }
def MeshMovesUptoCardSaid : Prop := Claim7.holds Tryz.pinned (.plain (OpenSpec.upto meshMovesSpec)) meshMovesUptoCard

/-- THE SECOND FORM's CARD OF 'verdigrislaw38.IntentAnchors'. -/
def intentAnchorsUptoCard : Claim7 := { stood := { row := intentAnchorsUptoRow, standIns := [], harness := (true, "c16a81a91475e077ee1d400e6b946e39e46fe98b5526861d9d4a7de521fd2f5b"), looks := true }, kinds := [], alts := [], laidByText := true, laidKinds := [.data, .data, .data, .sentinel, .sentinel], laidTests := true, laidLooks := .later }
def IntentAnchorsUptoCardSaid : Prop := Claim7.holds Tryz.pinned (.plain (OpenSpec.upto intentAnchorsSpec)) intentAnchorsUptoCard

/-- THE SECOND FORM's CARD OF 'verdigrislaw38.IntentClips'. -/
def intentClipsUptoCard : Claim7 := { stood := { row := intentClipsUptoRow, standIns := [], harness := (true, "c16a81a91475e077ee1d400e6b946e39e46fe98b5526861d9d4a7de521fd2f5b"), looks := true }, kinds := [], alts := [], laidByText := true, laidKinds := [.data, .data, .data, .sentinel, .sentinel], laidTests := true, laidLooks := .later }
def IntentClipsUptoCardSaid : Prop := Claim7.holds Tryz.pinned (.plain (OpenSpec.upto intentClipsSpec)) intentClipsUptoCard

/-- THE SECOND FORM's CARD OF 'verdigrislaw38.IntentPresses'. -/
def intentPressesUptoCard : Claim7 := { stood := { row := intentPressesUptoRow, standIns := [], harness := (true, "c16a81a91475e077ee1d400e6b946e39e46fe98b5526861d9d4a7de521fd2f5b"), looks := true }, kinds := [], alts := [], laidByText := true, laidKinds := [.data, .data, .data, .sentinel, .sentinel], laidTests := true, laidLooks := .later }
def IntentPressesUptoCardSaid : Prop := Claim7.holds Tryz.pinned (.plain (OpenSpec.upto intentPressesSpec)) intentPressesUptoCard

/-- THE SECOND FORM's CARD OF 'verdigrislaw38.IntentLines'. -/
def intentLinesUptoCard : Claim7 := { stood := { row := intentLinesUptoRow, standIns := [], harness := (true, "c16a81a91475e077ee1d400e6b946e39e46fe98b5526861d9d4a7de521fd2f5b"), looks := true }, kinds := [], alts := [], laidByText := true, laidKinds := [.data, .data, .data, .sentinel, .sentinel], laidTests := true, laidLooks := .later }
def IntentLinesUptoCardSaid : Prop := Claim7.holds Tryz.pinned (.plain (OpenSpec.upto intentLinesSpec)) intentLinesUptoCard

/-- THE SECOND FORM's CARD OF 'verdigrislaw38.IntentOrder'. -/
def intentOrderUptoCard : Claim7 := { stood := { row := intentOrderUptoRow, standIns := [], harness := (true, "c16a81a91475e077ee1d400e6b946e39e46fe98b5526861d9d4a7de521fd2f5b"), looks := true }, kinds := [], alts := [], laidByText := true, laidKinds := [.data, .data, .data, .sentinel, .sentinel], laidTests := true, laidLooks := .later }
def IntentOrderUptoCardSaid : Prop := Claim7.holds Tryz.pinned (.plain (OpenSpec.upto intentOrderSpec)) intentOrderUptoCard

/-- THE SECOND FORM's CARD OF 'verdigrislaw38.IntentNeutral'. -/
def intentNeutralUptoCard : Claim7 := { stood := { row := intentNeutralUptoRow, standIns := [], harness := (true, "c16a81a91475e077ee1d400e6b946e39e46fe98b5526861d9d4a7de521fd2f5b"), looks := true }, kinds := [], alts := [], laidByText := true, laidKinds := [.data, .data, .data, .sentinel, .sentinel], laidTests := true, laidLooks := .later }
def IntentNeutralUptoCardSaid : Prop := Claim7.holds Tryz.pinned (.plain (OpenSpec.upto intentNeutralSpec)) intentNeutralUptoCard

/-- THE SECOND FORM's CARD OF 'verdigrislaw38.IntentKnown'. -/
def intentKnownUptoCard : Claim7 := { stood := { row := intentKnownUptoRow, standIns := [], harness := (true, "c16a81a91475e077ee1d400e6b946e39e46fe98b5526861d9d4a7de521fd2f5b"), looks := true }, kinds := [], alts := [], laidByText := true, laidKinds := [.data, .data, .data, .sentinel, .sentinel], laidTests := true, laidLooks := .later }
def IntentKnownUptoCardSaid : Prop := Claim7.holds Tryz.pinned (.plain (OpenSpec.upto intentKnownSpec)) intentKnownUptoCard

/-- THE SECOND FORM's CARD OF 'verdigrislaw02.FracLists'. -/
def fracListsUptoCard : Claim7 := { stood := { row := fracListsUptoRow, standIns := [], harness := (true, "c16a81a91475e077ee1d400e6b946e39e46fe98b5526861d9d4a7de521fd2f5b"), looks := true }, kinds := [], alts := [], laidByText := true, laidKinds := [.data, .data, .data, .data, .sentinel, .sentinel, .pinned], laidTests := true, laidLooks := .later }
def FracListsUptoCardSaid : Prop := Claim7.holds Tryz.pinned (.plain (OpenSpec.upto fracListsSpec)) fracListsUptoCard

/-- THE SECOND FORM's CARD OF 'verdigrislaw02.FracParses'. -/
def fracParsesUptoCard : Claim7 := { stood := { row := fracParsesUptoRow, standIns := [], harness := (true, "c16a81a91475e077ee1d400e6b946e39e46fe98b5526861d9d4a7de521fd2f5b"), looks := true }, kinds := [], alts := [], laidByText := true, laidKinds := [.data, .data, .data, .data, .sentinel, .sentinel, .pinned], laidTests := true, laidLooks := .later }
def FracParsesUptoCardSaid : Prop := Claim7.holds Tryz.pinned (.plain (OpenSpec.upto fracParsesSpec)) fracParsesUptoCard
end Rows
end Go.Proofs.YtkcnpgmgmgepoaaGreatDoor
