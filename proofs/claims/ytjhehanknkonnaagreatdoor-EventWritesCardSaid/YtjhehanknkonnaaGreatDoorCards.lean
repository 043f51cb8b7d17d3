/-
  DERIVED. GIVEN WITH THE SEED: THE CARDS: each row of YtjhehanknkonnaaGreatDoorRows.lean that lists a variable, with what it lists TIED to the program's text (the seventh form; the later family's looks); each row that meets fmt, with fmt's text TOLD by the authors' own Lean function (tested against real Go, not proved from fmt's source: count such statements apart). THE CARD IS WHAT COUNTS. Prove the row's statement (the work); the ties are given (YtjhehanknkonnaaGreatDoorTie.lean); close each card by the builder's one call (the guide's Derived/Test/ToyasCard.lean, 'card_holds'). Laid BY PROGRAM, IN A SANDBOX (cutbox-door.mjs). By AI agents, Wed Nov 11 2026. No macro, syntax, notation, axiom, sorry.
-/
import Derived.Test.YtjhehanknkonnaaGreatDoorRows
import GoSem.ClaimSeven
namespace Go.Proofs.YtjhehanknkonnaaGreatDoor
namespace Rows

/-- THE TIED CARD OF 'stenotypelaw22.EventWrites'. -/
def eventWritesCard : Claim7 := { stood := { row := eventWritesRow, standIns := [], harness := (true, "fc972a04744b54ef084a79d78ee7c1c86a03f83a0641ec1b3fe2e5952a62bb7f"), looks := true }, kinds := [], alts := [], laidByText := true, laidKinds := [.data, .data, .data, .listed, .data], laidTests := true, laidLooks := .later }
def EventWritesCardSaid : Prop := Claim7.holds Tryz.pinned (.plain (OpenSpec.ofChange eventWritesSpec)) eventWritesCard

/-- THE TIED CARD OF 'stenotypelaw22.EventReads'. -/
def eventReadsCard : Claim7 := { stood := { row := eventReadsRow, standIns := [], harness := (true, "fc972a04744b54ef084a79d78ee7c1c86a03f83a0641ec1b3fe2e5952a62bb7f"), looks := true }, kinds := [], alts := [], laidByText := true, laidKinds := [.data, .data, .data, .data, .sentinel, .sentinel, .listed, .data, .pinned], laidTests := true, laidLooks := .later }
def EventReadsCardSaid : Prop := Claim7.holds Tryz.pinned (.plain (OpenSpec.ofChange eventReadsSpec)) eventReadsCard

/-- THE TIED CARD OF 'stenotypelaw22.EventKnown'. -/
def eventKnownCard : Claim7 := { stood := { row := eventKnownRow, standIns := [], harness := (true, "fc972a04744b54ef084a79d78ee7c1c86a03f83a0641ec1b3fe2e5952a62bb7f"), looks := true }, kinds := [], alts := [], laidByText := true, laidKinds := [.data, .data, .data, .data, .sentinel, .sentinel, .listed, .data, .pinned], laidTests := true, laidLooks := .later }
def EventKnownCardSaid : Prop := Claim7.holds Tryz.pinned (.plain (OpenSpec.ofChange eventKnownSpec)) eventKnownCard

/-- THE TIED CARD OF 'stenotypelaw22.EventBack'. -/
def eventBackCard : Claim7 := { stood := { row := eventBackRow, standIns := [], harness := (true, "fc972a04744b54ef084a79d78ee7c1c86a03f83a0641ec1b3fe2e5952a62bb7f"), looks := true }, kinds := [], alts := [], laidByText := true, laidKinds := [.data, .data, .data, .data, .sentinel, .sentinel, .listed, .data, .pinned], laidTests := true, laidLooks := .later }
def EventBackCardSaid : Prop := Claim7.holds Tryz.pinned (.plain (OpenSpec.ofChange eventBackSpec)) eventBackCard

/-- THE TIED CARD OF 'stenotypelaw22.EventApart'. -/
def eventApartCard : Claim7 := { stood := { row := eventApartRow, standIns := [], harness := (true, "fc972a04744b54ef084a79d78ee7c1c86a03f83a0641ec1b3fe2e5952a62bb7f"), looks := true }, kinds := [], alts := [], laidByText := true, laidKinds := [.data, .data, .data, .data, .sentinel, .sentinel, .listed, .data, .pinned], laidTests := true, laidLooks := .later }
def EventApartCardSaid : Prop := Claim7.holds Tryz.pinned (.plain (OpenSpec.ofChange eventApartSpec)) eventApartCard

/-- THE TIED CARD OF 'stenotypelaw22.EventLists'. -/
def eventListsCard : Claim7 := { stood := { row := eventListsRow, standIns := [], harness := (true, "fc972a04744b54ef084a79d78ee7c1c86a03f83a0641ec1b3fe2e5952a62bb7f"), looks := true }, kinds := [], alts := [], laidByText := true, laidKinds := [.data, .data, .data, .data, .sentinel, .sentinel, .listed, .data, .pinned], laidTests := true, laidLooks := .later }
def EventListsCardSaid : Prop := Claim7.holds Tryz.pinned (.plain (OpenSpec.ofChange eventListsSpec)) eventListsCard

/-- THE SECOND FORM's CARD OF 'stenotypelaw22.EventWrites'. -/
def eventWritesUptoCard : Claim7 := { stood := { row := eventWritesUptoRow, standIns := [], harness := (true, "fc972a04744b54ef084a79d78ee7c1c86a03f83a0641ec1b3fe2e5952a62bb7f"), looks := true }, kinds := [], alts := [], laidByText := true, laidKinds := [.data, .data, .data, .listed, .data], laidTests := true, laidLooks := .later }
def EventWritesUptoCardSaid : Prop := Claim7.holds Tryz.pinned (.plain (OpenSpec.upto eventWritesSpec)) eventWritesUptoCard

/-- THE SECOND FORM's CARD OF 'stenotypelaw22.EventReads'. -/
def eventReadsUptoCard : Claim7 := { stood := { row := eventReadsUptoRow, standIns := [], harness := (true, "fc972a04744b54ef084a79d78ee7c1c86a03f83a0641ec1b3fe2e5952a62bb7f"), looks := true }, kinds := [], alts := [], laidByText := true, laidKinds := [.data, .data, .data, .data, .sentinel, .sentinel, .listed, .data, .pinned], laidTests := true, laidLooks := .later }
def EventReadsUptoCardSaid : Prop := Claim7.holds Tryz.pinned (.plain (OpenSpec.upto eventReadsSpec)) eventReadsUptoCard

/-- THE SECOND FORM's CARD OF 'stenotypelaw22.EventKnown'. -/
def eventKnownUptoCard : Claim7 := { stood := { row := eventKnownUptoRow, standIns := [], harness := (true, "fc972a04744b54ef084a79d78ee7c1c86a03f83a0641ec1b3fe2e5952a62bb7f"), looks := true }, kinds := [], alts := [], laidByText := true, laidKinds := [.data, .data, .data, .data, .sentinel, .sentinel, .listed, .data, .pinned], laidTests := true, laidLooks := .later }
def EventKnownUptoCardSaid : Prop := Claim7.holds Tryz.pinned (.plain (OpenSpec.upto eventKnownSpec)) eventKnownUptoCard

/-- THE SECOND FORM's CARD OF 'stenotypelaw22.EventBack'. -/
def eventBackUptoCard : Claim7 := { stood := { row := eventBackUptoRow, standIns := [], harness := (true, "fc972a04744b54ef084a79d78ee7c1c86a03f83a0641ec1b3fe2e5952a62bb7f"), looks := true }, kinds := [], alts := [], laidByText := true, laidKinds := [.data, .data, .data, .data, .sentinel, .sentinel, .listed, .data, .pinned], laidTests := true, laidLooks := .later }
def EventBackUptoCardSaid : Prop := Claim7.holds Tryz.pinned (.plain (OpenSpec.upto eventBackSpec)) eventBackUptoCard

/-- THE SECOND FORM's CARD OF 'stenotypelaw22.EventApart'. -/
def eventApartUptoCard : Claim7 := { stood := { row := eventApartUptoRow, standIns := [], harness := (true, "fc972a04744b54ef084a79d78ee7c1c86a03f83a0641ec1b3fe2e5952a62bb7f"), looks := true }, kinds := [], alts := [], laidByText := true, laidKinds := [.data, .data, .data, .data, .sentinel, .sentinel, .listed, .data, .pinned], laidTests := true, laidLooks := .later }
def EventApartUptoCardSaid : Prop := Claim7.holds Tryz.pinned (.plain (OpenSpec.upto eventApartSpec)) eventApartUptoCard

/-- THE SECOND FORM's CARD OF 'stenotypelaw22.EventLists'. -/
def eventListsUptoCard : Claim7 := { stood := { row := eventListsUptoRow, standIns := [], harness := (true, "fc972a04744b54ef084a79d78ee7c1c86a03f83a0641ec1b3fe2e5952a62bb7f"), looks := true }, kinds := [], alts := [], laidByText := true, laidKinds := [.data, .data, .data, .data, .sentinel, .sentinel, .listed, .data, .pinned], laidTests := true, laidLooks := .later }
def EventListsUptoCardSaid : Prop := Claim7.holds Tryz.pinned (.plain (OpenSpec.upto eventListsSpec)) eventListsUptoCard
end Rows
end Go.Proofs.YtjhehanknkonnaaGreatDoor
