/-
  DERIVED. GIVEN WITH THE SEED: THE CARDS: each row of YtldljckhfcoafaaGreatDoorRows.lean that lists a variable, with what it lists TIED to the program's text (the seventh form; the later family's looks); each row that meets fmt, with fmt's text TOLD by the authors' own Lean function (tested against real Go, not proved from fmt's source: count such statements apart). THE CARD IS WHAT COUNTS. Prove the row's statement (the work); the ties are given (YtldljckhfcoafaaGreatDoorTie.lean); close each card by the builder's one call (the guide's Derived/Test/ToyasCard.lean, 'card_holds'). Laid BY PROGRAM, IN A SANDBOX (cutbox-door.mjs). By AI agents, Wed Nov 11 2026. No macro, syntax, notation, axiom, sorry.
-/
import Derived.Test.YtldljckhfcoafaaGreatDoorRows
import GoSem.ClaimSeven
namespace Go.Proofs.YtldljckhfcoafaaGreatDoor
namespace Rows

/-- THE TIED CARD OF 'verdigrislaw02.FracLists'. -/
def fracListsCard : Claim7 := { stood := { row := fracListsRow, standIns := [], harness := (true, "a760a06a5793b05fe3fa8782828494c1a9d293733f820f3262708d26ad9497a0"), looks := true }, kinds := [], alts := [], laidByText := true, laidKinds := [.data, .data, .data, .data, .sentinel, .sentinel, .pinned], laidTests := true, laidLooks := .later }
def FracListsCardSaid : Prop := Claim7.holds Tryz.pinned (.plain (OpenSpec.ofChange fracListsSpec)) fracListsCard

/-- THE TIED CARD OF 'verdigrislaw02.FracParses'. -/
def fracParsesCard : Claim7 := { stood := { row := fracParsesRow, standIns := [], harness := (true, "a760a06a5793b05fe3fa8782828494c1a9d293733f820f3262708d26ad9497a0"), looks := true }, kinds := [], alts := [], laidByText := true, laidKinds := [.data, .data, .data, .data, .sentinel, .sentinel, .pinned], laidTests := true, laidLooks := .later }
def FracParsesCardSaid : Prop := Claim7.holds Tryz.pinned (.plain (OpenSpec.ofChange fracParsesSpec)) fracParsesCard

/-- THE TIED CARD OF 'verdigrislaw02.FracField'. -/
def fracFieldCard : Claim7 := { stood := { row := fracFieldRow, standIns := [], harness := (true, "a760a06a5793b05fe3fa8782828494c1a9d293733f820f3262708d26ad9497a0"), looks := true }, kinds := [], alts := [], laidByText := true, laidKinds := [.data, .data, .data, .data, .sentinel, .sentinel, .pinned], laidTests := true, laidLooks := .later }
def FracFieldCardSaid : Prop := Claim7.holds Tryz.pinned (.plain (OpenSpec.ofChange fracFieldSpec)) fracFieldCard

/-- THE TIED CARD OF 'verdigrislaw02.FracBack'. -/
def fracBackCard : Claim7 := { stood := { row := fracBackRow, standIns := [], harness := (true, "a760a06a5793b05fe3fa8782828494c1a9d293733f820f3262708d26ad9497a0"), looks := true }, kinds := [], alts := [], laidByText := true, laidKinds := [.data, .data, .data, .data, .sentinel, .sentinel, .pinned], laidTests := true, laidLooks := .later }
def FracBackCardSaid : Prop := Claim7.holds Tryz.pinned (.plain (OpenSpec.ofChange fracBackSpec)) fracBackCard

/-- THE TIED CARD OF 'verdigrislaw02.FracPowers'. -/
def fracPowersCard : Claim7 := { stood := { row := fracPowersRow, standIns := [], harness := (true, "a760a06a5793b05fe3fa8782828494c1a9d293733f820f3262708d26ad9497a0"), looks := true }, kinds := [], alts := [], laidByText := true, laidKinds := [.data, .data, .data, .data, .sentinel, .sentinel, .pinned], laidTests := true, laidLooks := .later }
def FracPowersCardSaid : Prop := Claim7.holds Tryz.pinned (.plain (OpenSpec.ofChange fracPowersSpec)) fracPowersCard

/-- THE TIED CARD OF 'verdigrislaw02.FracRounding'. -/
def fracRoundingCard : Claim7 := { stood := { row := fracRoundingRow, standIns := [], harness := (true, "a760a06a5793b05fe3fa8782828494c1a9d293733f820f3262708d26ad9497a0"), looks := true }, kinds := [], alts := [], laidByText := true, laidKinds := [.data, .data, .data, .data, .sentinel, .sentinel, .pinned], laidTests := true, laidLooks := .later }
def FracRoundingCardSaid : Prop := Claim7.holds Tryz.pinned (.plain (OpenSpec.ofChange fracRoundingSpec)) fracRoundingCard

/-- THE TIED CARD OF 'verdigrislaw02.FracCompares'. -/
def fracComparesCard : Claim7 := { stood := { row := fracComparesRow, standIns := [], harness := (true, "a760a06a5793b05fe3fa8782828494c1a9d293733f820f3262708d26ad9497a0"), looks := true }, kinds := [], alts := [], laidByText := true, laidKinds := [.data, .data, .data, .data, .sentinel, .sentinel, .pinned], laidTests := true, laidLooks := .later }
def FracComparesCardSaid : Prop := Claim7.holds Tryz.pinned (.plain (OpenSpec.ofChange fracComparesSpec)) fracComparesCard

/-- THE SECOND FORM's CARD OF 'verdigrislaw02.FracLists'. -/
def fracListsUptoCard : Claim7 := { stood := { row := fracListsUptoRow, standIns := [], harness := (true, "a760a06a5793b05fe3fa8782828494c1a9d293733f820f3262708d26ad9497a0"), looks := true }, kinds := [], alts := [], laidByText := true, laidKinds := [.data, .data, .data, .data, .sentinel, .sentinel, .pinned], laidTests := true, laidLooks := .later }
def FracListsUptoCardSaid : Prop := Claim7.holds Tryz.pinned (.plain (OpenSpec.upto fracListsSpec)) fracListsUptoCard

/-- THE SECOND FORM's CARD OF 'verdigrislaw02.FracParses'. -/
def fracParsesUptoCard : Claim7 := { stood := { row := fracParsesUptoRow, standIns := [], harness := (true, "a760a06a5793b05fe3fa8782828494c1a9d293733f820f3262708d26ad9497a0"), looks := true }, kinds := [], alts := [], laidByText := true, laidKinds := [.data, .data, .data, .data, .sentinel, .sentinel, .pinned], laidTests := true, laidLooks := .later }
def FracParsesUptoCardSaid : Prop := Claim7.holds Tryz.pinned (.plain (OpenSpec.upto fracParsesSpec)) fracParsesUptoCard

/-- THE SECOND FORM's CARD OF 'verdigrislaw02.FracField'. -/
def fracFieldUptoCard : Claim7 := { stood := { row := fracFieldUptoRow, standIns := [], harness := (true, "a760a06a5793b05fe3fa8782828494c1a9d293733f820f3262708d26ad9497a0"), looks := true }, kinds := [], alts := [], laidByText := true, laidKinds := [.data, .data, .data, .data, .sentinel, .sentinel, .pinned], laidTests := true, laidLooks := .later }
def FracFieldUptoCardSaid : Prop := Claim7.holds Tryz.pinned (.plain (OpenSpec.upto fracFieldSpec)) fracFieldUptoCard

/-- THE SECOND FORM's CARD OF 'verdigrislaw02.FracBack'. -/
def fracBackUptoCard : Claim7 := { stood := { row := fracBackUptoRow, standIns := [], harness := (true, "a760a06a5793b05fe3fa8782828494c1a9d293733f820f3262708d26ad9497a0"), looks := true }, kinds := [], alts := [], laidByText := true, laidKinds := [.data, .data, .data, .data, .sentinel, .sentinel, .pinned], laidTests := true, laidLooks := .later }
def FracBackUptoCardSaid : Prop := Claim7.holds Tryz.pinned (.plain (OpenSpec.upto fracBackSpec)) fracBackUptoCard

/-- THE SECOND FORM's CARD OF 'verdigrislaw02.FracPowers'. -/
def fracPowersUptoCard : Claim7 := { stood := { row := fracPowersUptoRow, standIns := [], harness := (true, "a760a06a5793b05fe3fa8782828494c1a9d293733f820f3262708d26ad9497a0"), looks := true }, kinds := [], alts := [], laidByText := true, laidKinds := [.data, .data, .data, .data, .sentinel, .sentinel, .pinned], laidTests := true, laidLooks := .later }
def FracPowersUptoCardSaid : Prop := Claim7.holds Tryz.pinned (.plain (OpenSpec.upto fracPowersSpec)) fracPowersUptoCard

/-- THE SECOND FORM's CARD OF 'verdigrislaw02.FracRounding'. -/
def fracRoundingUptoCard : Claim7 := { stood := { row := fracRoundingUptoRow, standIns := [], harness := (true, "a760a06a5793b05fe3fa8782828494c1a9d293733f820f3262708d26ad9497a0"), looks := true }, kinds := [], alts := [], laidByText := true, laidKinds := [.data, .data, .data, .data, .sentinel, .sentinel, .pinned], laidTests := true, laidLooks := .later }
def FracRoundingUptoCardSaid : Prop := Claim7.holds Tryz.pinned (.plain (OpenSpec.upto fracRoundingSpec)) fracRoundingUptoCard

/-- THE SECOND FORM's CARD OF 'verdigrislaw02.FracCompares'. -/
def fracComparesUptoCard : Claim7 := { stood := { row := fracComparesUptoRow, standIns := [], harness := (true, "a760a06a5793b05fe3fa8782828494c1a9d293733f820f3262708d26ad9497a0"), looks := true }, kinds := [], alts := [], laidByText := true, laidKinds := [.data, .data, .data, .data, .sentinel, .sentinel, .pinned], laidTests := true, laidLooks := .later }
def FracComparesUptoCardSaid : Prop := Claim7.holds Tryz.pinned (.plain (OpenSpec.upto fracComparesSpec)) fracComparesUptoCard
end Rows
end Go.Proofs.YtldljckhfcoafaaGreatDoor
