/-
  DERIVED. GIVEN WITH THE SEED: THE CARDS: each row of YthcfakmmomfcaaaDoorRows.lean that lists a variable, with what it lists TIED to the program's text (the seventh form; the later family's looks); each row that meets fmt, with fmt's text TOLD by the authors' own Lean function (tested against real Go, not proved from fmt's source: count such statements apart). THE CARD IS WHAT COUNTS. Prove the row's statement (the work); the ties are given (YthcfakmmomfcaaaDoorTie.lean); close each card by the builder's one call (the guide's Derived/Test/ToyasCard.lean, 'card_holds'). Laid BY PROGRAM, IN A SANDBOX (cutbox-door.mjs). By AI agents, Wed Nov 11 2026. No macro, syntax, notation, axiom, sorry.
-/
import Derived.Test.YthcfakmmomfcaaaDoorRows
import GoSem.ClaimSeven
namespace Go.Proofs.YthcfakmmomfcaaaDoor
namespace Rows

/-- THE TIED CARD OF 'stenotypelaw13.LookMakes'. -/
def lookMakesCard : Claim7 := { stood := { row := lookMakesRow, standIns := [], harness := (true, "5293592eb18ba712e67e77121aebdd3b643b2d0be1cd2b435b1deaba0bb04752"), looks := false }, kinds := [], alts := [], laidByText := true, laidKinds := [.data, .data, .data, .data, .pinned], laidTests := true, laidLooks := .later }
def LookMakesCardSaid : Prop := Claim7.holds Tryd.pinned (.plain (OpenSpec.ofChange lookMakesSpec)) lookMakesCard

/-- THE TIED CARD OF 'stenotypelaw13.LookJoins'. -/
def lookJoinsCard : Claim7 := { stood := { row := lookJoinsRow, standIns := [], harness := (true, "5293592eb18ba712e67e77121aebdd3b643b2d0be1cd2b435b1deaba0bb04752"), looks := false }, kinds := [], alts := [], laidByText := true, laidKinds := [.data, .data, .data, .data, .pinned], laidTests := true, laidLooks := .later }
def LookJoinsCardSaid : Prop := Claim7.holds Tryd.pinned (.plain (OpenSpec.ofChange lookJoinsSpec)) lookJoinsCard

/-- THE TIED CARD OF 'stenotypelaw13.LookReads'. -/
def lookReadsCard : Claim7 := { stood := { row := lookReadsRow, standIns := [], harness := (true, "5293592eb18ba712e67e77121aebdd3b643b2d0be1cd2b435b1deaba0bb04752"), looks := false }, kinds := [], alts := [], laidByText := true, laidKinds := [.data, .data, .data, .data, .pinned], laidTests := true, laidLooks := .later }
def LookReadsCardSaid : Prop := Claim7.holds Tryd.pinned (.plain (OpenSpec.ofChange lookReadsSpec)) lookReadsCard

/-- THE TIED CARD OF 'stenotypelaw13.LookKnown'. -/
def lookKnownCard : Claim7 := { stood := { row := lookKnownRow, standIns := [], harness := (true, "5293592eb18ba712e67e77121aebdd3b643b2d0be1cd2b435b1deaba0bb04752"), looks := false }, kinds := [], alts := [], laidByText := true, laidKinds := [.data, .data, .data, .data, .pinned], laidTests := true, laidLooks := .later }
def LookKnownCardSaid : Prop := Claim7.holds Tryd.pinned (.plain (OpenSpec.ofChange lookKnownSpec)) lookKnownCard

/-- THE TIED CARD OF 'stenotypelaw13.LookOrder'. -/
def lookOrderCard : Claim7 := { stood := { row := lookOrderRow, standIns := [], harness := (true, "5293592eb18ba712e67e77121aebdd3b643b2d0be1cd2b435b1deaba0bb04752"), looks := false }, kinds := [], alts := [], laidByText := true, laidKinds := [.data, .data, .data, .data, .pinned], laidTests := true, laidLooks := .later }
def LookOrderCardSaid : Prop := Claim7.holds Tryd.pinned (.plain (OpenSpec.ofChange lookOrderSpec)) lookOrderCard

/-- THE TIED CARD OF 'stenotypelaw13.LookSums'. -/
def lookSumsCard : Claim7 := { stood := { row := lookSumsRow, standIns := [], harness := (true, "5293592eb18ba712e67e77121aebdd3b643b2d0be1cd2b435b1deaba0bb04752"), looks := false }, kinds := [], alts := [], laidByText := true, laidKinds := [.data, .data, .data, .data, .pinned], laidTests := true, laidLooks := .later }
def LookSumsCardSaid : Prop := Claim7.holds Tryd.pinned (.plain (OpenSpec.ofChange lookSumsSpec)) lookSumsCard

/-- THE TIED CARD OF 'stenotypelaw13.LookBack'. -/
def lookBackCard : Claim7 := { stood := { row := lookBackRow, standIns := [], harness := (true, "5293592eb18ba712e67e77121aebdd3b643b2d0be1cd2b435b1deaba0bb04752"), looks := false }, kinds := [], alts := [], laidByText := true, laidKinds := [.data, .data, .data, .data, .pinned], laidTests := true, laidLooks := .later }
def LookBackCardSaid : Prop := Claim7.holds Tryd.pinned (.plain (OpenSpec.ofChange lookBackSpec)) lookBackCard

/-- THE SECOND FORM's CARD OF 'stenotypelaw13.LookMakes'. -/
def lookMakesUptoCard : Claim7 := { stood := { row := lookMakesUptoRow, standIns := [], harness := (true, "5293592eb18ba712e67e77121aebdd3b643b2d0be1cd2b435b1deaba0bb04752"), looks := false }, kinds := [], alts := [], laidByText := true, laidKinds := [.data, .data, .data, .data, .pinned], laidTests := true, laidLooks := .later }
def LookMakesUptoCardSaid : Prop := Claim7.holds Tryd.pinned (.plain (OpenSpec.upto lookMakesSpec)) lookMakesUptoCard

/-- THE SECOND FORM's CARD OF 'stenotypelaw13.LookJoins'. -/
def lookJoinsUptoCard : Claim7 := { stood := { row := lookJoinsUptoRow, standIns := [], harness := (true, "5293592eb18ba712e67e77121aebdd3b643b2d0be1cd2b435b1deaba0bb04752"), looks := false }, kinds := [], alts := [], laidByText := true, laidKinds := [.data, .data, .data, .data, .pinned], laidTests := true, laidLooks := .later }
def LookJoinsUptoCardSaid : Prop := Claim7.holds Tryd.pinned (.plain (OpenSpec.upto lookJoinsSpec)) lookJoinsUptoCard

/-- THE SECOND FORM's CARD OF 'stenotypelaw13.LookReads'. -/
def lookReadsUptoCard : Claim7 := { stood := { row := lookReadsUptoRow, standIns := [], harness := (true, "5293592eb18ba712e67e77121aebdd3b643b2d0be1cd2b435b1deaba0bb04752"), looks := false }, kinds := [], alts := [], laidByText := true, laidKinds := [.data, .data, .data, .data, .pinned], laidTests := true, laidLooks := .later }
def LookReadsUptoCardSaid : Prop := Claim7.holds Tryd.pinned (.plain (OpenSpec.upto lookReadsSpec)) lookReadsUptoCard

/-- THE SECOND FORM's CARD OF 'stenotypelaw13.LookKnown'. -/
def lookKnownUptoCard : Claim7 := { stood := { row := lookKnownUptoRow, standIns := [], harness := (true, "5293592eb18ba712e67e77121aebdd3b643b2d0be1cd2b435b1deaba0bb04752"), looks := false }, kinds := [], alts := [], laidByText := true, laidKinds := [.data, .data, .data, .data, .pinned], laidTests := true, laidLooks := .later }
def LookKnownUptoCardSaid : Prop := Claim7.holds Tryd.pinned (.plain (OpenSpec.upto lookKnownSpec)) lookKnownUptoCard

/-- THE SECOND FORM's CARD OF 'stenotypelaw13.LookOrder'. -/
def lookOrderUptoCard : Claim7 := { stood := { row := lookOrderUptoRow, standIns := [], harness := (true, "5293592eb18ba712e67e77121aebdd3b643b2d0be1cd2b435b1deaba0bb04752"), looks := false }, kinds := [], alts := [], laidByText := true, laidKinds := [.data, .data, .data, .data, .pinned], laidTests := true, laidLooks := .later }
def LookOrderUptoCardSaid : Prop := Claim7.holds Tryd.pinned (.plain (OpenSpec.upto lookOrderSpec)) lookOrderUptoCard

/-- THE SECOND FORM's CARD OF 'stenotypelaw13.LookSums'. -/
def lookSumsUptoCard : Claim7 := { stood := { row := lookSumsUptoRow, standIns := [], harness := (true, "5293592eb18ba712e67e77121aebdd3b643b2d0be1cd2b435b1deaba0bb04752"), looks := false }, kinds := [], alts := [], laidByText := true, laidKinds := [.data, .data, .data, .data, .pinned], laidTests := true, laidLooks := .later }
def LookSumsUptoCardSaid : Prop := Claim7.holds Tryd.pinned (.plain (OpenSpec.upto lookSumsSpec)) lookSumsUptoCard

/-- THE SECOND FORM's CARD OF 'stenotypelaw13.LookBack'. -/
def lookBackUptoCard : Claim7 := { stood := { row := lookBackUptoRow, standIns := [], harness := (true, "5293592eb18ba712e67e77121aebdd3b643b2d0be1cd2b435b1deaba0bb04752"), looks := false }, kinds := [], alts := [], laidByText := true, laidKinds := [.data, .data, .data, .data, .pinned], laidTests := true, laidLooks := .later }
def LookBackUptoCardSaid : Prop := Claim7.holds Tryd.pinned (.plain (OpenSpec.upto lookBackSpec)) lookBackUptoCard
end Rows
end Go.Proofs.YthcfakmmomfcaaaDoor
