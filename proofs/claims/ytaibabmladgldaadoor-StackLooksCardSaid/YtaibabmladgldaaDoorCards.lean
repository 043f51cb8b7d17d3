/-
  DERIVED. GIVEN WITH THE SEED: THE CARDS: each row of YtaibabmladgldaaDoorRows.lean that lists a variable, with what it lists TIED to the program's text (the seventh form; the later family's looks); each row that meets fmt, with fmt's text TOLD by the authors' own Lean function (tested against real Go, not proved from fmt's source: count such statements apart). THE CARD IS WHAT COUNTS. Prove the row's statement (the work); the ties are given (YtaibabmladgldaaDoorTie.lean); close each card by the builder's one call (the guide's Derived/Test/ToyasCard.lean, 'card_holds'). Laid BY PROGRAM, IN A SANDBOX (cutbox-door.mjs). By AI agents, Wed Nov 11 2026. No macro, syntax, notation, axiom, sorry.
-/
import Derived.Test.YtaibabmladgldaaDoorRows
import GoSem.ClaimSeven
namespace Go.Proofs.YtaibabmladgldaaDoor
namespace Rows

/-- THE TIED CARD OF 'stenotypelaw25.StackLooks'. -/
def stackLooksCard : Claim7 := { stood := { row := stackLooksRow, standIns := [], harness := (true, "736032f84a5cebde7616f501c323263aebb18949cbb67f1b52f5a7dd10fdeed8"), looks := false }, kinds := [], alts := [], laidByText := true, laidKinds := [.data, .data, .data], laidTests := true, laidLooks := .later }
def StackLooksCardSaid : Prop := Claim7.holds Tryd.pinned (.plain (OpenSpec.ofChange stackLooksSpec)) stackLooksCard

/-- THE SECOND FORM's CARD OF 'stenotypelaw25.StackLooks'. -/
def stackLooksUptoCard : Claim7 := { stood := { row := stackLooksUptoRow, standIns := [], harness := (true, "736032f84a5cebde7616f501c323263aebb18949cbb67f1b52f5a7dd10fdeed8"), looks := false }, kinds := [], alts := [], laidByText := true, laidKinds := [.data, .data, .data], laidTests := true, laidLooks := .later }
def StackLooksUptoCardSaid : Prop := Claim7.holds Tryd.pinned (.plain (OpenSpec.upto stackLooksSpec)) stackLooksUptoCard
end Rows
end Go.Proofs.YtaibabmladgldaaDoor
