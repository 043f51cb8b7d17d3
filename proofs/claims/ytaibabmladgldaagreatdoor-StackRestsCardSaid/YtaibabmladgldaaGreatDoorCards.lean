/-
  DERIVED. GIVEN WITH THE SEED: THE CARDS: each row of YtaibabmladgldaaGreatDoorRows.lean that lists a variable, with what it lists TIED to the program's text (the seventh form; the later family's looks); each row that meets fmt, with fmt's text TOLD by the authors' own Lean function (tested against real Go, not proved from fmt's source: count such statements apart). THE CARD IS WHAT COUNTS. Prove the row's statement (the work); the ties are given (YtaibabmladgldaaGreatDoorTie.lean); close each card by the builder's one call (the guide's Derived/Test/ToyasCard.lean, 'card_holds'). Laid BY PROGRAM, IN A SANDBOX (cutbox-door.mjs). By AI agents, Wed Nov 11 2026. No macro, syntax, notation, axiom, sorry.
-/
import Derived.Test.YtaibabmladgldaaGreatDoorRows
import GoSem.ClaimSeven
namespace Go.Proofs.YtaibabmladgldaaGreatDoor
namespace Rows

/-- THE TIED CARD OF 'stenotypelaw25.StackReads'. -/
def stackReadsCard : Claim7 := { stood := { row := stackReadsRow, standIns := [], harness := (true, "969e80932a52085620cbc5f86b2fb27b91980a7782a0f5f151e8e6ef38cd3c22"), looks := true }, kinds := [], alts := [], laidByText := true, laidKinds := [.data, .data, .data, .data, .sentinel, .sentinel, .pinned], laidTests := true, laidLooks := .later }
def StackReadsCardSaid : Prop := Claim7.holds Tryz.pinned (.plain (OpenSpec.ofChange stackReadsSpec)) stackReadsCard

/-- THE TIED CARD OF 'stenotypelaw25.StackKnown'. -/
def stackKnownCard : Claim7 := { stood := { row := stackKnownRow, standIns := [], harness := (true, "969e80932a52085620cbc5f86b2fb27b91980a7782a0f5f151e8e6ef38cd3c22"), looks := true }, kinds := [], alts := [], laidByText := true, laidKinds := [.data, .data, .data, .data, .sentinel, .sentinel, .pinned], laidTests := true, laidLooks := .later }
def StackKnownCardSaid : Prop := Claim7.holds Tryz.pinned (.plain (OpenSpec.ofChange stackKnownSpec)) stackKnownCard

/-- THE TIED CARD OF 'stenotypelaw25.StackRests'. -/
def stackRestsCard : Claim7 := { stood := { row := stackRestsRow, standIns := [], harness := (true, "969e80932a52085620cbc5f86b2fb27b91980a7782a0f5f151e8e6ef38cd3c22"), looks := true }, kinds := [], alts := [], laidByText := true, laidKinds := [.data, .data, .data, .data, .sentinel, .sentinel, .pinned], laidTests := true, laidLooks := .later }
def StackRestsCardSaid : Prop := Claim7.holds Tryz.pinned (.plain (OpenSpec.ofChange stackRestsSpec)) stackRestsCard

/-- THE TIED CARD OF 'stenotypelaw25.StackBack'. -/
def stackBackCard : Claim7 := { stood := { row := stackBackRow, standIns := [], harness := (true, "969e80932a52085620cbc5f86b2fb27b91980a7782a0f5f151e8e6ef38cd3c22"), looks := true }, kinds := [], alts := [], laidByText := true, laidKinds := [.data, .data, .data, .data, .sentinel, .sentinel, .pinned], laidTests := true, laidLooks := .later }
def StackBackCardSaid : Prop := Claim7.holds Tryz.pinned (.plain (OpenSpec.ofChange stackBackSpec)) stackBackCard

/-- THE SECOND FORM's CARD OF 'stenotypelaw25.StackReads'. -/
def stackReadsUptoCard : Claim7 := { stood := { row := stackReadsUptoRow, standIns := [], harness := (true, "969e80932a52085620cbc5f86b2fb27b91980a7782a0f5f151e8e6ef38cd3c22"), looks := true }, kinds := [], alts := [], laidByText := true, laidKinds := [.data, .data, .data, .data, .sentinel, .sentinel, .pinned], laidTests := true, laidLooks := .later }
def StackReadsUptoCardSaid : Prop := Claim7.holds Tryz.pinned (.plain (OpenSpec.upto stackReadsSpec)) stackReadsUptoCard

/-- THE SECOND FORM's CARD OF 'stenotypelaw25.StackKnown'. -/
def stackKnownUptoCard : Claim7 := { stood := { row := stackKnownUptoRow, standIns := [], harness := (true, "969e80932a52085620cbc5f86b2fb27b91980a7782a0f5f151e8e6ef38cd3c22"), looks := true }, kinds := [], alts := [], laidByText := true, laidKinds := [.data, .data, .data, .data, .sentinel, .sentinel, .pinned], laidTests := true, laidLooks := .later }
def StackKnownUptoCardSaid : Prop := Claim7.holds Tryz.pinned (.plain (OpenSpec.upto stackKnownSpec)) stackKnownUptoCard

/-- THE SECOND FORM's CARD OF 'stenotypelaw25.StackRests'. -/
def stackRestsUptoCard : Claim7 := { stood := { row := stackRestsUptoRow, standIns := [], harness := (true, "969e80932a52085620cbc5f86b2fb27b91980a7782a0f5f151e8e6ef38cd3c22"), looks := true }, kinds := [], alts := [], laidByText := true, laidKinds := [.data, .data, .data, .data, .sentinel, .sentinel, .pinned], laidTests := true, laidLooks := .later }
def StackRestsUptoCardSaid : Prop := Claim7.holds Tryz.pinned (.plain (OpenSpec.upto stackRestsSpec)) stackRestsUptoCard

/-- THE SECOND FORM's CARD OF 'stenotypelaw25.StackBack'. -/
def stackBackUptoCard : Claim7 := { stood := { row := stackBackUptoRow, standIns := [], harness := (true, "969e80932a52085620cbc5f86b2fb27b91980a7782a0f5f151e8e6ef38cd3c22"), looks := true }, kinds := [], alts := [], laidByText := true, laidKinds := [.data, .data, .data, .data, .sentinel, .sentinel, .pinned], laidTests := true, laidLooks := .later }
def StackBackUptoCardSaid : Prop := Claim7.holds Tryz.pinned (.plain (OpenSpec.upto stackBackSpec)) stackBackUptoCard
end Rows
end Go.Proofs.YtaibabmladgldaaGreatDoor
