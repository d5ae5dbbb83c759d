/-
  DERIVED. GIVEN WITH THE SEED: THE CARDS: each row of YtciadfpomkdlnaaGreatDoorRows.lean that lists a variable, with what it lists TIED to the program's text (the seventh form; the later family's looks); each row that meets fmt, with fmt's text TOLD by the authors' own Lean function (tested against real Go, not proved from fmt's source: count such statements apart). THE CARD IS WHAT COUNTS. Prove the row's statement (the work); the ties are given (YtciadfpomkdlnaaGreatDoorTie.lean); close each card by the builder's one call (the guide's Derived/Test/ToyasCard.lean, 'card_holds'). Laid BY PROGRAM, IN A SANDBOX (cutbox-door.mjs). By AI agents, Wed Nov 11 2026. No macro, syntax, notation, axiom, sorry.
-/
import Derived.Test.YtciadfpomkdlnaaGreatDoorRows
import GoSem.ClaimSeven
namespace Go.Proofs.YtciadfpomkdlnaaGreatDoor
namespace Rows

/-- THE TIED CARD OF 'verdigrislaw02.FracLists'. -/
def fracListsCard : Claim7 := { stood := { row := fracListsRow, standIns := [], harness := (true, "e5c877036b3a61030f48b9be09e298fb9572c0046c1ce4f04d1a4d84f649d174"), looks := true }, kinds := [], alts := [], laidByText := true, laidKinds := [.data, .data, .data, .data, .sentinel, .sentinel, .pinned], laidTests := true, laidLooks := .later }
def FracListsCardSaid : Prop := Claim7.holds Tryz.pinned (.plain (OpenSpec.ofChange fracListsSpec)) fracListsCard

/-- THE TIED CARD OF 'verdigrislaw02.FracParses'. -/
def fracParsesCard : Claim7 := { stood := { row := fracParsesRow, standIns := [], harness := (true, "e5c877036b3a61030f48b9be09e298fb9572c0046c1ce4f04d1a4d84f649d174"), looks := true }, kinds := [], alts := [], laidByText := true, laidKinds := [.data, .data, .data, .data, .sentinel, .sentinel, .pinned], laidTests := true, laidLooks := .later }
def FracParsesCardSaid : Prop := Claim7.holds Tryz.pinned (.plain (OpenSpec.ofChange fracParsesSpec)) fracParsesCard

/-- THE TIED CARD OF 'verdigrislaw31.PatchOnce'. -/
def patchOnceCard : Claim7 := { stood := { row := patchOnceRow, standIns := [], harness := (true, "e5c877036b3a61030f48b9be09e298fb9572c0046c1ce4f04d1a4d84f649d174"), looks := true }, kinds := [], alts := [], laidByText := true, laidKinds := [.data, .data, .data, .data, .sentinel, .sentinel, .pinned], laidTests := true, laidLooks := .later }
def PatchOnceCardSaid : Prop := Claim7.holds Tryz.pinned (.plain (OpenSpec.ofChange patchOnceSpec)) patchOnceCard

/-- THE TIED CARD OF 'verdigrislaw31.PatchCanon'. -/
def patchCanonCard : Claim7 := { stood := { row := patchCanonRow, standIns := [], harness := (true, "e5c877036b3a61030f48b9be09e298fb9572c0046c1ce4f04d1a4d84f649d174"), looks := true }, kinds := [], alts := [], laidByText := true, laidKinds := [.data, .data, .data, .data, .sentinel, .sentinel, .pinned], laidTests := true, laidLooks := .later }
def PatchCanonCardSaid : Prop := Claim7.holds Tryz.pinned (.plain (OpenSpec.ofChange patchCanonSpec)) patchCanonCard

/-- THE TIED CARD OF 'verdigrislaw31.PatchKnown'. -/
def patchKnownCard : Claim7 := { stood := { row := patchKnownRow, standIns := [], harness := (true, "e5c877036b3a61030f48b9be09e298fb9572c0046c1ce4f04d1a4d84f649d174"), looks := true }, kinds := [], alts := [], laidByText := true, laidKinds := [.data, .data, .data, .data, .sentinel, .sentinel, .pinned], laidTests := true, laidLooks := .later }
def PatchKnownCardSaid : Prop := Claim7.holds Tryz.pinned (.plain (OpenSpec.ofChange patchKnownSpec)) patchKnownCard

/-- THE TIED CARD OF 'verdigrislaw31.PatchBack'. -/
def patchBackCard : Claim7 := { stood := { row := patchBackRow, standIns := [], harness := (true, "e5c877036b3a61030f48b9be09e298fb9572c0046c1ce4f04d1a4d84f649d174"), looks := true }, kinds := [], alts := [], laidByText := true, laidKinds := [.data, .data, .data, .data, .sentinel, .sentinel, .pinned], laidTests := true, laidLooks := .later }
def PatchBackCardSaid : Prop := Claim7.holds Tryz.pinned (.plain (OpenSpec.ofChange patchBackSpec)) patchBackCard

/-- THE TIED CARD OF 'verdigrislaw31.PatchStops'. -/
def patchStopsCard : Claim7 := { stood := { row := patchStopsRow, standIns := [], harness := (true, "e5c877036b3a61030f48b9be09e298fb9572c0046c1ce4f04d1a4d84f649d174"), looks := true }, kinds := [], alts := [], laidByText := true, laidKinds := [.data, .data, .data, .data, .sentinel, .sentinel, .pinned], laidTests := true, laidLooks := .later }
def PatchStopsCardSaid : Prop := Claim7.holds Tryz.pinned (.plain (OpenSpec.ofChange patchStopsSpec)) patchStopsCard

/-- THE SECOND FORM's CARD OF 'verdigrislaw02.FracLists'. -/
def fracListsUptoCard : Claim7 := { stood := { row := fracListsUptoRow, standIns := [], harness := (true, "e5c877036b3a61030f48b9be09e298fb9572c0046c1ce4f04d1a4d84f649d174"), looks := true }, kinds := [], alts := [], laidByText := true, laidKinds := [.data, .data, .data, .data, .sentinel, .sentinel, .pinned], laidTests := true, laidLooks := .later }
def FracListsUptoCardSaid : Prop := Claim7.holds Tryz.pinned (.plain (OpenSpec.upto fracListsSpec)) fracListsUptoCard

/-- THE SECOND FORM's CARD OF 'verdigrislaw02.FracParses'. -/
def fracParsesUptoCard : Claim7 := { stood := { row := fracParsesUptoRow, standIns := [], harness := (true, "e5c877036b3a61030f48b9be09e298fb9572c0046c1ce4f04d1a4d84f649d174"), looks := true }, kinds := [], alts := [], laidByText := true, laidKinds := [.data, .data, .data, .data, .sentinel, .sentinel, .pinned], laidTests := true, laidLooks := .later }
def FracParsesUptoCardSaid : Prop := Claim7.holds Tryz.pinned (.plain (OpenSpec.upto fracParsesSpec)) fracParsesUptoCard

/-- THE SECOND FORM's CARD OF 'verdigrislaw31.PatchOnce'. -/
def patchOnceUptoCard : Claim7 := { stood := { row := patchOnceUptoRow, standIns := [], harness := (true, "e5c877036b3a61030f48b9be09e298fb9572c0046c1ce4f04d1a4d84f649d174"), looks := true }, kinds := [], alts := [], laidByText := true, laidKinds := [.data, .data, .data, .data, .sentinel, .sentinel, .pinned], laidTests := true, laidLooks := .later }
def PatchOnceUptoCardSaid : Prop := Claim7.holds Tryz.pinned (.plain (OpenSpec.upto patchOnceSpec)) patchOnceUptoCard

/-- THE SECOND FORM's CARD OF 'verdigrislaw31.PatchCanon'. -/
def patchCanonUptoCard : Claim7 := { stood := { row := patchCanonUptoRow, standIns := [], harness := (true, "e5c877036b3a61030f48b9be09e298fb9572c0046c1ce4f04d1a4d84f649d174"), looks := true }, kinds := [], alts := [], laidByText := true, laidKinds := [.data, .data, .data, .data, .sentinel, .sentinel, .pinned], laidTests := true, laidLooks := .later }
def PatchCanonUptoCardSaid : Prop := Claim7.holds Tryz.pinned (.plain (OpenSpec.upto patchCanonSpec)) patchCanonUptoCard

/-- THE SECOND FORM's CARD OF 'verdigrislaw31.PatchKnown'. -/
def patchKnownUptoCard : Claim7 := { stood := { row := patchKnownUptoRow, standIns := [], harness := (true, "e5c877036b3a61030f48b9be09e298fb9572c0046c1ce4f04d1a4d84f649d174"), looks := true }, kinds := [], alts := [], laidByText := true, laidKinds := [.data, .data, .data, .data, .sentinel, .sentinel, .pinned], laidTests := true, laidLooks := .later }
def PatchKnownUptoCardSaid : Prop := Claim7.holds Tryz.pinned (.plain (OpenSpec.upto patchKnownSpec)) patchKnownUptoCard

/-- THE SECOND FORM's CARD OF 'verdigrislaw31.PatchBack'. -/
def patchBackUptoCard : Claim7 := { stood := { row := patchBackUptoRow, standIns := [], harness := (true, "e5c877036b3a61030f48b9be09e298fb9572c0046c1ce4f04d1a4d84f649d174"), looks := true }, kinds := [], alts := [], laidByText := true, laidKinds := [.data, .data, .data, .data, .sentinel, .sentinel, .pinned], laidTests := true, laidLooks := .later }
def PatchBackUptoCardSaid : Prop := Claim7.holds Tryz.pinned (.plain (OpenSpec.upto patchBackSpec)) patchBackUptoCard

/-- THE SECOND FORM's CARD OF 'verdigrislaw31.PatchStops'. -/
def patchStopsUptoCard : Claim7 := { stood := { row := patchStopsUptoRow, standIns := [], harness := (true, "e5c877036b3a61030f48b9be09e298fb9572c0046c1ce4f04d1a4d84f649d174"), looks := true }, kinds := [], alts := [], laidByText := true, laidKinds := [.data, .data, .data, .data, .sentinel, .sentinel, .pinned], laidTests := true, laidLooks := .later }
def PatchStopsUptoCardSaid : Prop := Claim7.holds Tryz.pinned (.plain (OpenSpec.upto patchStopsSpec)) patchStopsUptoCard
end Rows
end Go.Proofs.YtciadfpomkdlnaaGreatDoor
