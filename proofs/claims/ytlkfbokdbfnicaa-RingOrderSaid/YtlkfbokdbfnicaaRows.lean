/-
  No cell of these rows narrows 'for every input' (looked for: loops, veiled, ifaces, maps, wideKeys, modest, calm, conditions, laid).
  DERIVED. THE GIVEN ROWS OF THIS SEAT. 9 by the template 'for every input the law returns true; each argument reads behind the call as it read before'; 0 by the template 'total and deterministic' (their statements: YtlkfbokdbfnicaaTotals.lean).
  GIVEN WITH THE SEED: the statements are not yours to turn. If you find one false, say at which input.
  Laid BY PROGRAM, IN A SANDBOX (cutbox-rows.mjs): the forced cells as the released guide's own fill.sh prints them over the translation cd75f3a703782e86… (all of the seat's roots in one cut). By AI agents, Wed Nov 11 2026. No macro, syntax, notation, axiom, sorry.
-/
import Derived.Test.YtlkfbokdbfnicaaChecked
import GoSem.Claim
import GoSem.ClaimJoined
import GoSem.ClaimMapViews
import Derived.JoinedTies
import Derived.KernelRfl
namespace Go.Proofs.Ytlkfbokdbfnicaa
/- THE CELL 'sum', in the pinned program and in every row, IS THE sha256 OF THE DUMP (.gsa) THAT YtlkfbokdbfnicaaProg.lean LOADS. Nothing in Lean hashes anything: it is a label: what it is worth is what the hold of that sum in a sandbox is worth. -/
noncomputable def Try.pinned : Pinned := { name := "ytlkfbokdbfnicaa", sum := "cd75f3a703782e8643be39983f030ebf841b0232a0f84eb34ffada9f4bb0fd3c", checked := Try.checked }
namespace Rows
def none {H : Type} : Left H := { results := [], args := [] }

/-- 'stenotypelaw05.CodecBegins': WHATEVER THE INPUT: true; the input reads as it did. -/
def codecBeginsSpec : ChangeSpec := { name := "codecBegins", fn := fun _ => fun
  | [d1, d2] => { results := [.lit (.bool true)], args := [d1, d2] }
  | _ => none }
def codecBeginsRow : OpenClaim := { program := "ytlkfbokdbfnicaa", sum := "cd75f3a703782e8643be39983f030ebf841b0232a0f84eb34ffada9f4bb0fd3c", func := "stenotype/stenotypelaw05.CodecBegins", spec := "codecBegins", unfollowed := true, recurses := true, apart := false }
def CodecBeginsSaid : Prop := codecBeginsRow.holds Try.pinned (OpenSpec.ofChange codecBeginsSpec)

/-- ITS FALSE NEIGHBOUR: 'it returns false'. Refute it at one input. -/
def codecBeginsWrong : ChangeSpec := { name := "codecBegins", fn := fun _ => fun
  | [d1, d2] => { results := [.lit (.bool false)], args := [d1, d2] }
  | _ => none }
def CodecBeginsWrongFalsely : Prop := codecBeginsRow.holds Try.pinned (OpenSpec.ofChange codecBeginsWrong)

/-- 'stenotypelaw05.CodecWrites': WHATEVER THE INPUT: true; the input reads as it did. -/
def codecWritesSpec : ChangeSpec := { name := "codecWrites", fn := fun _ => fun
  | [d1, d2, d3, d4, d5] => { results := [.lit (.bool true)], args := [d1, d2, d3, d4, d5] }
  | _ => none }
def codecWritesRow : OpenClaim := { program := "ytlkfbokdbfnicaa", sum := "cd75f3a703782e8643be39983f030ebf841b0232a0f84eb34ffada9f4bb0fd3c", func := "stenotype/stenotypelaw05.CodecWrites", spec := "codecWrites", unfollowed := true, recurses := true, apart := false }
def CodecWritesSaid : Prop := codecWritesRow.holds Try.pinned (OpenSpec.ofChange codecWritesSpec)

/-- ITS FALSE NEIGHBOUR: 'it returns false'. Refute it at one input. -/
def codecWritesWrong : ChangeSpec := { name := "codecWrites", fn := fun _ => fun
  | [d1, d2, d3, d4, d5] => { results := [.lit (.bool false)], args := [d1, d2, d3, d4, d5] }
  | _ => none }
def CodecWritesWrongFalsely : Prop := codecWritesRow.holds Try.pinned (OpenSpec.ofChange codecWritesWrong)

/-- 'stenotypelaw26.RingKnown': WHATEVER THE INPUT: true; the input reads as it did. -/
def ringKnownSpec : ChangeSpec := { name := "ringKnown", fn := fun _ => fun
  | [] => { results := [.lit (.bool true)], args := [] }
  | _ => none }
def ringKnownRow : OpenClaim := { program := "ytlkfbokdbfnicaa", sum := "cd75f3a703782e8643be39983f030ebf841b0232a0f84eb34ffada9f4bb0fd3c", func := "stenotype/stenotypelaw26.RingKnown", spec := "ringKnown", unfollowed := true, recurses := true, apart := false }
def RingKnownSaid : Prop := ringKnownRow.holds Try.pinned (OpenSpec.ofChange ringKnownSpec)

/-- ITS FALSE NEIGHBOUR: 'it returns false'. Refute it at one input. -/
def ringKnownWrong : ChangeSpec := { name := "ringKnown", fn := fun _ => fun
  | [] => { results := [.lit (.bool false)], args := [] }
  | _ => none }
def RingKnownWrongFalsely : Prop := ringKnownRow.holds Try.pinned (OpenSpec.ofChange ringKnownWrong)

/-- 'stenotypelaw26.RingOrder': WHATEVER THE INPUT: true; the input reads as it did. -/
def ringOrderSpec : ChangeSpec := { name := "ringOrder", fn := fun _ => fun
  | [d1, d2, d3] => { results := [.lit (.bool true)], args := [d1, d2, d3] }
  | _ => none }
def ringOrderRow : OpenClaim := { program := "ytlkfbokdbfnicaa", sum := "cd75f3a703782e8643be39983f030ebf841b0232a0f84eb34ffada9f4bb0fd3c", func := "stenotype/stenotypelaw26.RingOrder", spec := "ringOrder", unfollowed := true, recurses := true, apart := false }
def RingOrderSaid : Prop := ringOrderRow.holds Try.pinned (OpenSpec.ofChange ringOrderSpec)

/-- ITS FALSE NEIGHBOUR: 'it returns false'. Refute it at one input. -/
def ringOrderWrong : ChangeSpec := { name := "ringOrder", fn := fun _ => fun
  | [d1, d2, d3] => { results := [.lit (.bool false)], args := [d1, d2, d3] }
  | _ => none }
def RingOrderWrongFalsely : Prop := ringOrderRow.holds Try.pinned (OpenSpec.ofChange ringOrderWrong)

/-- 'stenotypelaw26.RingSolid': WHATEVER THE INPUT: true; the input reads as it did. -/
def ringSolidSpec : ChangeSpec := { name := "ringSolid", fn := fun _ => fun
  | [d1, d2, d3] => { results := [.lit (.bool true)], args := [d1, d2, d3] }
  | _ => none }
def ringSolidRow : OpenClaim := { program := "ytlkfbokdbfnicaa", sum := "cd75f3a703782e8643be39983f030ebf841b0232a0f84eb34ffada9f4bb0fd3c", func := "stenotype/stenotypelaw26.RingSolid", spec := "ringSolid", unfollowed := true, recurses := true, apart := false }
def RingSolidSaid : Prop := ringSolidRow.holds Try.pinned (OpenSpec.ofChange ringSolidSpec)

/-- ITS FALSE NEIGHBOUR: 'it returns false'. Refute it at one input. -/
def ringSolidWrong : ChangeSpec := { name := "ringSolid", fn := fun _ => fun
  | [d1, d2, d3] => { results := [.lit (.bool false)], args := [d1, d2, d3] }
  | _ => none }
def RingSolidWrongFalsely : Prop := ringSolidRow.holds Try.pinned (OpenSpec.ofChange ringSolidWrong)

/-- 'stenotypelaw05.CodecKnown': WHATEVER THE INPUT: true; the input reads as it did. -/
def codecKnownSpec : ChangeSpec := { name := "codecKnown", fn := fun _ => fun
  | [] => { results := [.lit (.bool true)], args := [] }
  | _ => none }
def codecKnownRow : OpenClaim := { program := "ytlkfbokdbfnicaa", sum := "cd75f3a703782e8643be39983f030ebf841b0232a0f84eb34ffada9f4bb0fd3c", func := "stenotype/stenotypelaw05.CodecKnown", spec := "codecKnown", unfollowed := true, recurses := true, apart := false }
def CodecKnownSaid : Prop := codecKnownRow.holds Try.pinned (OpenSpec.ofChange codecKnownSpec)

/-- ITS FALSE NEIGHBOUR: 'it returns false'. Refute it at one input. -/
def codecKnownWrong : ChangeSpec := { name := "codecKnown", fn := fun _ => fun
  | [] => { results := [.lit (.bool false)], args := [] }
  | _ => none }
def CodecKnownWrongFalsely : Prop := codecKnownRow.holds Try.pinned (OpenSpec.ofChange codecKnownWrong)

/-- 'stenotypelaw05.CodecWhole': WHATEVER THE INPUT: true; the input reads as it did. -/
def codecWholeSpec : ChangeSpec := { name := "codecWhole", fn := fun _ => fun
  | [d1, d2] => { results := [.lit (.bool true)], args := [d1, d2] }
  | _ => none }
def codecWholeRow : OpenClaim := { program := "ytlkfbokdbfnicaa", sum := "cd75f3a703782e8643be39983f030ebf841b0232a0f84eb34ffada9f4bb0fd3c", func := "stenotype/stenotypelaw05.CodecWhole", spec := "codecWhole", unfollowed := true, recurses := true, apart := false }
def CodecWholeSaid : Prop := codecWholeRow.holds Try.pinned (OpenSpec.ofChange codecWholeSpec)

/-- ITS FALSE NEIGHBOUR: 'it returns false'. Refute it at one input. -/
def codecWholeWrong : ChangeSpec := { name := "codecWhole", fn := fun _ => fun
  | [d1, d2] => { results := [.lit (.bool false)], args := [d1, d2] }
  | _ => none }
def CodecWholeWrongFalsely : Prop := codecWholeRow.holds Try.pinned (OpenSpec.ofChange codecWholeWrong)

/-- 'stenotypelaw05.CodecReads': WHATEVER THE INPUT: true; the input reads as it did. -/
def codecReadsSpec : ChangeSpec := { name := "codecReads", fn := fun _ => fun
  | [d1, d2, d3, d4, d5, d6] => { results := [.lit (.bool true)], args := [d1, d2, d3, d4, d5, d6] }
  | _ => none }
def codecReadsRow : OpenClaim := { program := "ytlkfbokdbfnicaa", sum := "cd75f3a703782e8643be39983f030ebf841b0232a0f84eb34ffada9f4bb0fd3c", func := "stenotype/stenotypelaw05.CodecReads", spec := "codecReads", unfollowed := true, recurses := true, apart := false }
def CodecReadsSaid : Prop := codecReadsRow.holds Try.pinned (OpenSpec.ofChange codecReadsSpec)

/-- ITS FALSE NEIGHBOUR: 'it returns false'. Refute it at one input. -/
def codecReadsWrong : ChangeSpec := { name := "codecReads", fn := fun _ => fun
  | [d1, d2, d3, d4, d5, d6] => { results := [.lit (.bool false)], args := [d1, d2, d3, d4, d5, d6] }
  | _ => none }
def CodecReadsWrongFalsely : Prop := codecReadsRow.holds Try.pinned (OpenSpec.ofChange codecReadsWrong)

/-- 'stenotypelaw05.CodecBack': WHATEVER THE INPUT: true; the input reads as it did. -/
def codecBackSpec : ChangeSpec := { name := "codecBack", fn := fun _ => fun
  | [d1, d2, d3] => { results := [.lit (.bool true)], args := [d1, d2, d3] }
  | _ => none }
def codecBackRow : OpenClaim := { program := "ytlkfbokdbfnicaa", sum := "cd75f3a703782e8643be39983f030ebf841b0232a0f84eb34ffada9f4bb0fd3c", func := "stenotype/stenotypelaw05.CodecBack", spec := "codecBack", unfollowed := true, recurses := true, apart := false }
def CodecBackSaid : Prop := codecBackRow.holds Try.pinned (OpenSpec.ofChange codecBackSpec)

/-- ITS FALSE NEIGHBOUR: 'it returns false'. Refute it at one input. -/
def codecBackWrong : ChangeSpec := { name := "codecBack", fn := fun _ => fun
  | [d1, d2, d3] => { results := [.lit (.bool false)], args := [d1, d2, d3] }
  | _ => none }
def CodecBackWrongFalsely : Prop := codecBackRow.holds Try.pinned (OpenSpec.ofChange codecBackWrong)

/- THE SECOND FORM. 'bulk': how many values and letters a reading holds, each counted each time it is reached (what is shared counts as often as it is met; a slice's spare places count too). A statement '..UptoSaid' is the law's where the arguments, and the package variables that the reading takes, are together of bulk at most 1048576: NARROWER than '..Said'. Prove '..Said' where nothing that the law and all that it calls make is longer than what came in: it says more and counts as full. Else prove '..UptoSaid'. A law counts once. -/
mutual
def uptoBulk {H : Type} : DataW H → Nat
  | .lit (.string bytes) => bytes.length + 1
  | .lit _ => 1
  | .nil => 1
  | .ptr d => uptoBulk d + 1
  | .slice elems spare => uptoBulkAll elems + uptoBulkAll spare + 1
  | .agg parts => uptoBulkAll parts + 1
  | .iface _ d => uptoBulk d + 1
  | .map entries => uptoBulkEntries entries + 1
  | .held _ => 1
def uptoBulkAll {H : Type} : List (DataW H) → Nat
  | [] => 0
  | d :: r => uptoBulk d + uptoBulkAll r
def uptoBulkEntries {H : Type} : List (Lit × DataW H) → Nat
  | [] => 0
  | x :: r => uptoBulkEntry x + uptoBulkEntries r
def uptoBulkEntry {H : Type} : Lit × DataW H → Nat
  | (.string bytes, d) => bytes.length + uptoBulk d + 1
  | (_, d) => uptoBulk d + 1
 end
def uptoSmall : (H : Type) → List (DataW H) → Bool := fun _ ds => decide (uptoBulkAll ds ≤ 1048576)
def OpenSpec.upto (s : _root_.Go.ChangeSpec) : _root_.Go.OpenSpec := { _root_.Go.OpenSpec.ofChange s with cond := some uptoSmall }

/-- 'stenotypelaw05.CodecBegins', WHERE WHAT IT READS IS OF BULK AT MOST 1048576: true; the input reads as it did. -/
def codecBeginsUptoRow : OpenClaim := { program := "ytlkfbokdbfnicaa", sum := "cd75f3a703782e8643be39983f030ebf841b0232a0f84eb34ffada9f4bb0fd3c", func := "stenotype/stenotypelaw05.CodecBegins", spec := "codecBegins", unfollowed := true, recurses := true, apart := false, narrowed := true }
def CodecBeginsUptoSaid : Prop := codecBeginsUptoRow.holds Try.pinned (OpenSpec.upto codecBeginsSpec)

/-- 'stenotypelaw05.CodecWrites', WHERE WHAT IT READS IS OF BULK AT MOST 1048576: true; the input reads as it did. -/
def codecWritesUptoRow : OpenClaim := { program := "ytlkfbokdbfnicaa", sum := "cd75f3a703782e8643be39983f030ebf841b0232a0f84eb34ffada9f4bb0fd3c", func := "stenotype/stenotypelaw05.CodecWrites", spec := "codecWrites", unfollowed := true, recurses := true, apart := false, narrowed := true }
def CodecWritesUptoSaid : Prop := codecWritesUptoRow.holds Try.pinned (OpenSpec.upto codecWritesSpec)

/-- 'stenotypelaw26.RingKnown', WHERE WHAT IT READS IS OF BULK AT MOST 1048576: true; the input reads as it did. -/
def ringKnownUptoRow : OpenClaim := { program := "ytlkfbokdbfnicaa", sum := "cd75f3a703782e8643be39983f030ebf841b0232a0f84eb34ffada9f4bb0fd3c", func := "stenotype/stenotypelaw26.RingKnown", spec := "ringKnown", unfollowed := true, recurses := true, apart := false, narrowed := true }
def RingKnownUptoSaid : Prop := ringKnownUptoRow.holds Try.pinned (OpenSpec.upto ringKnownSpec)

/-- 'stenotypelaw26.RingOrder', WHERE WHAT IT READS IS OF BULK AT MOST 1048576: true; the input reads as it did. -/
def ringOrderUptoRow : OpenClaim := { program := "ytlkfbokdbfnicaa", sum := "cd75f3a703782e8643be39983f030ebf841b0232a0f84eb34ffada9f4bb0fd3c", func := "stenotype/stenotypelaw26.RingOrder", spec := "ringOrder", unfollowed := true, recurses := true, apart := false, narrowed := true }
def RingOrderUptoSaid : Prop := ringOrderUptoRow.holds Try.pinned (OpenSpec.upto ringOrderSpec)

/-- 'stenotypelaw26.RingSolid', WHERE WHAT IT READS IS OF BULK AT MOST 1048576: true; the input reads as it did. -/
def ringSolidUptoRow : OpenClaim := { program := "ytlkfbokdbfnicaa", sum := "cd75f3a703782e8643be39983f030ebf841b0232a0f84eb34ffada9f4bb0fd3c", func := "stenotype/stenotypelaw26.RingSolid", spec := "ringSolid", unfollowed := true, recurses := true, apart := false, narrowed := true }
def RingSolidUptoSaid : Prop := ringSolidUptoRow.holds Try.pinned (OpenSpec.upto ringSolidSpec)

/-- 'stenotypelaw05.CodecKnown', WHERE WHAT IT READS IS OF BULK AT MOST 1048576: true; the input reads as it did. -/
def codecKnownUptoRow : OpenClaim := { program := "ytlkfbokdbfnicaa", sum := "cd75f3a703782e8643be39983f030ebf841b0232a0f84eb34ffada9f4bb0fd3c", func := "stenotype/stenotypelaw05.CodecKnown", spec := "codecKnown", unfollowed := true, recurses := true, apart := false, narrowed := true }
def CodecKnownUptoSaid : Prop := codecKnownUptoRow.holds Try.pinned (OpenSpec.upto codecKnownSpec)

/-- 'stenotypelaw05.CodecWhole', WHERE WHAT IT READS IS OF BULK AT MOST 1048576: true; the input reads as it did. -/
def codecWholeUptoRow : OpenClaim := { program := "ytlkfbokdbfnicaa", sum := "cd75f3a703782e8643be39983f030ebf841b0232a0f84eb34ffada9f4bb0fd3c", func := "stenotype/stenotypelaw05.CodecWhole", spec := "codecWhole", unfollowed := true, recurses := true, apart := false, narrowed := true }
def CodecWholeUptoSaid : Prop := codecWholeUptoRow.holds Try.pinned (OpenSpec.upto codecWholeSpec)

/-- 'stenotypelaw05.CodecReads', WHERE WHAT IT READS IS OF BULK AT MOST 1048576: true; the input reads as it did. -/
def codecReadsUptoRow : OpenClaim := { program := "ytlkfbokdbfnicaa", sum := "cd75f3a703782e8643be39983f030ebf841b0232a0f84eb34ffada9f4bb0fd3c", func := "stenotype/stenotypelaw05.CodecReads", spec := "codecReads", unfollowed := true, recurses := true, apart := false, narrowed := true }
def CodecReadsUptoSaid : Prop := codecReadsUptoRow.holds Try.pinned (OpenSpec.upto codecReadsSpec)

/-- 'stenotypelaw05.CodecBack', WHERE WHAT IT READS IS OF BULK AT MOST 1048576: true; the input reads as it did. -/
def codecBackUptoRow : OpenClaim := { program := "ytlkfbokdbfnicaa", sum := "cd75f3a703782e8643be39983f030ebf841b0232a0f84eb34ffada9f4bb0fd3c", func := "stenotype/stenotypelaw05.CodecBack", spec := "codecBack", unfollowed := true, recurses := true, apart := false, narrowed := true }
def CodecBackUptoSaid : Prop := codecBackUptoRow.holds Try.pinned (OpenSpec.upto codecBackSpec)

end Rows
end Go.Proofs.Ytlkfbokdbfnicaa
