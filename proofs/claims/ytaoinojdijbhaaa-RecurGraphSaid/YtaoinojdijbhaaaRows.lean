/-
  No cell of these rows narrows 'for every input' (looked for: loops, veiled, ifaces, maps, wideKeys, modest, calm, conditions, laid).
  DERIVED. THE GIVEN ROWS OF THIS SEAT. 11 by the template 'for every input the law returns true; each argument reads behind the call as it read before'; 0 by the template 'total and deterministic' (their statements: YtaoinojdijbhaaaTotals.lean).
  GIVEN WITH THE SEED: the statements are not yours to turn. If you find one false, say at which input.
  Laid BY PROGRAM, IN A SANDBOX (cutbox-rows.mjs): the forced cells as the released guide's own fill.sh prints them over the translation a720de494fe255b0… (all of the seat's roots in one cut). By AI agents, Wed Nov 11 2026. No macro, syntax, notation, axiom, sorry.
-/
import Derived.Test.YtaoinojdijbhaaaChecked
import GoSem.Claim
import GoSem.ClaimJoined
import GoSem.ClaimMapViews
import Derived.JoinedTies
import Derived.KernelRfl
namespace Go.Proofs.Ytaoinojdijbhaaa
/- THE CELL 'sum', in the pinned program and in every row, IS THE sha256 OF THE DUMP (.gsa) THAT YtaoinojdijbhaaaProg.lean LOADS. Nothing in Lean hashes anything: it is a label: what it is worth is what the hold of that sum in a sandbox is worth. -/
noncomputable def Try.pinned : Pinned := { name := "ytaoinojdijbhaaa", sum := "a720de494fe255b026230e926c6641a1d1431016f49a71a6aa190e0f7c9e84ad", checked := Try.checked }
namespace Rows
def none {H : Type} : Left H := { results := [], args := [] }

/-- 'stenotypelaw11.RecurGrows': WHATEVER THE INPUT: true; the input reads as it did. -/
def recurGrowsSpec : ChangeSpec := { name := "recurGrows", fn := fun _ => fun
  | [d1, d2] => { results := [.lit (.bool true)], args := [d1, d2] }
  | _ => none }
def recurGrowsRow : OpenClaim := { program := "ytaoinojdijbhaaa", sum := "a720de494fe255b026230e926c6641a1d1431016f49a71a6aa190e0f7c9e84ad", func := "stenotype/stenotypelaw11.RecurGrows", spec := "recurGrows", unfollowed := true, recurses := true, plainKeys := false, apart := false }
def RecurGrowsSaid : Prop := recurGrowsRow.holds Try.pinned (OpenSpec.ofChange recurGrowsSpec)

/-- ITS FALSE NEIGHBOUR: 'it returns false'. Refute it at one input. -/
def recurGrowsWrong : ChangeSpec := { name := "recurGrows", fn := fun _ => fun
  | [d1, d2] => { results := [.lit (.bool false)], args := [d1, d2] }
  | _ => none }
def RecurGrowsWrongFalsely : Prop := recurGrowsRow.holds Try.pinned (OpenSpec.ofChange recurGrowsWrong)

/-- 'stenotypelaw11.RecurGraph': WHATEVER THE INPUT: true; the input reads as it did. -/
def recurGraphSpec : ChangeSpec := { name := "recurGraph", fn := fun _ => fun
  | [d1, d2] => { results := [.lit (.bool true)], args := [d1, d2] }
  | _ => none }
def recurGraphRow : OpenClaim := { program := "ytaoinojdijbhaaa", sum := "a720de494fe255b026230e926c6641a1d1431016f49a71a6aa190e0f7c9e84ad", func := "stenotype/stenotypelaw11.RecurGraph", spec := "recurGraph", unfollowed := true, recurses := true, plainKeys := false, apart := false }
def RecurGraphSaid : Prop := recurGraphRow.holds Try.pinned (OpenSpec.ofChange recurGraphSpec)

/-- ITS FALSE NEIGHBOUR: 'it returns false'. Refute it at one input. -/
def recurGraphWrong : ChangeSpec := { name := "recurGraph", fn := fun _ => fun
  | [d1, d2] => { results := [.lit (.bool false)], args := [d1, d2] }
  | _ => none }
def RecurGraphWrongFalsely : Prop := recurGraphRow.holds Try.pinned (OpenSpec.ofChange recurGraphWrong)

/-- 'stenotypelaw10.ReachTells': WHATEVER THE INPUT: true; the input reads as it did. -/
def reachTellsSpec : ChangeSpec := { name := "reachTells", fn := fun _ => fun
  | [d1, d2, d3] => { results := [.lit (.bool true)], args := [d1, d2, d3] }
  | _ => none }
def reachTellsRow : OpenClaim := { program := "ytaoinojdijbhaaa", sum := "a720de494fe255b026230e926c6641a1d1431016f49a71a6aa190e0f7c9e84ad", func := "stenotype/stenotypelaw10.ReachTells", spec := "reachTells", unfollowed := true, recurses := true, plainKeys := false, apart := false }
def ReachTellsSaid : Prop := reachTellsRow.holds Try.pinned (OpenSpec.ofChange reachTellsSpec)

/-- ITS FALSE NEIGHBOUR: 'it returns false'. Refute it at one input. -/
def reachTellsWrong : ChangeSpec := { name := "reachTells", fn := fun _ => fun
  | [d1, d2, d3] => { results := [.lit (.bool false)], args := [d1, d2, d3] }
  | _ => none }
def ReachTellsWrongFalsely : Prop := reachTellsRow.holds Try.pinned (OpenSpec.ofChange reachTellsWrong)

/-- 'stenotypelaw10.ReachKnown': WHATEVER THE INPUT: true; the input reads as it did. -/
def reachKnownSpec : ChangeSpec := { name := "reachKnown", fn := fun _ => fun
  | [] => { results := [.lit (.bool true)], args := [] }
  | _ => none }
def reachKnownRow : OpenClaim := { program := "ytaoinojdijbhaaa", sum := "a720de494fe255b026230e926c6641a1d1431016f49a71a6aa190e0f7c9e84ad", func := "stenotype/stenotypelaw10.ReachKnown", spec := "reachKnown", unfollowed := true, recurses := true, plainKeys := false, apart := false }
def ReachKnownSaid : Prop := reachKnownRow.holds Try.pinned (OpenSpec.ofChange reachKnownSpec)

/-- ITS FALSE NEIGHBOUR: 'it returns false'. Refute it at one input. -/
def reachKnownWrong : ChangeSpec := { name := "reachKnown", fn := fun _ => fun
  | [] => { results := [.lit (.bool false)], args := [] }
  | _ => none }
def ReachKnownWrongFalsely : Prop := reachKnownRow.holds Try.pinned (OpenSpec.ofChange reachKnownWrong)

/-- 'stenotypelaw10.ReachProds': WHATEVER THE INPUT: true; the input reads as it did. -/
def reachProdsSpec : ChangeSpec := { name := "reachProds", fn := fun _ => fun
  | [d] => { results := [.lit (.bool true)], args := [d] }
  | _ => none }
def reachProdsRow : OpenClaim := { program := "ytaoinojdijbhaaa", sum := "a720de494fe255b026230e926c6641a1d1431016f49a71a6aa190e0f7c9e84ad", func := "stenotype/stenotypelaw10.ReachProds", spec := "reachProds", unfollowed := true, recurses := true, plainKeys := false, apart := false }
def ReachProdsSaid : Prop := reachProdsRow.holds Try.pinned (OpenSpec.ofChange reachProdsSpec)

/-- ITS FALSE NEIGHBOUR: 'it returns false'. Refute it at one input. -/
def reachProdsWrong : ChangeSpec := { name := "reachProds", fn := fun _ => fun
  | [d] => { results := [.lit (.bool false)], args := [d] }
  | _ => none }
def ReachProdsWrongFalsely : Prop := reachProdsRow.holds Try.pinned (OpenSpec.ofChange reachProdsWrong)

/-- 'stenotypelaw10.ReachBelow': WHATEVER THE INPUT: true; the input reads as it did. -/
def reachBelowSpec : ChangeSpec := { name := "reachBelow", fn := fun _ => fun
  | [d1, d2, d3] => { results := [.lit (.bool true)], args := [d1, d2, d3] }
  | _ => none }
def reachBelowRow : OpenClaim := { program := "ytaoinojdijbhaaa", sum := "a720de494fe255b026230e926c6641a1d1431016f49a71a6aa190e0f7c9e84ad", func := "stenotype/stenotypelaw10.ReachBelow", spec := "reachBelow", unfollowed := true, recurses := true, plainKeys := false, apart := false }
def ReachBelowSaid : Prop := reachBelowRow.holds Try.pinned (OpenSpec.ofChange reachBelowSpec)

/-- ITS FALSE NEIGHBOUR: 'it returns false'. Refute it at one input. -/
def reachBelowWrong : ChangeSpec := { name := "reachBelow", fn := fun _ => fun
  | [d1, d2, d3] => { results := [.lit (.bool false)], args := [d1, d2, d3] }
  | _ => none }
def ReachBelowWrongFalsely : Prop := reachBelowRow.holds Try.pinned (OpenSpec.ofChange reachBelowWrong)

/-- 'stenotypelaw10.ReachMore': WHATEVER THE INPUT: true; the input reads as it did. -/
def reachMoreSpec : ChangeSpec := { name := "reachMore", fn := fun _ => fun
  | [d1, d2, d3] => { results := [.lit (.bool true)], args := [d1, d2, d3] }
  | _ => none }
def reachMoreRow : OpenClaim := { program := "ytaoinojdijbhaaa", sum := "a720de494fe255b026230e926c6641a1d1431016f49a71a6aa190e0f7c9e84ad", func := "stenotype/stenotypelaw10.ReachMore", spec := "reachMore", unfollowed := true, recurses := true, plainKeys := false, apart := false }
def ReachMoreSaid : Prop := reachMoreRow.holds Try.pinned (OpenSpec.ofChange reachMoreSpec)

/-- ITS FALSE NEIGHBOUR: 'it returns false'. Refute it at one input. -/
def reachMoreWrong : ChangeSpec := { name := "reachMore", fn := fun _ => fun
  | [d1, d2, d3] => { results := [.lit (.bool false)], args := [d1, d2, d3] }
  | _ => none }
def ReachMoreWrongFalsely : Prop := reachMoreRow.holds Try.pinned (OpenSpec.ofChange reachMoreWrong)

/-- 'stenotypelaw11.RecurOrders': WHATEVER THE INPUT: true; the input reads as it did. -/
def recurOrdersSpec : ChangeSpec := { name := "recurOrders", fn := fun _ => fun
  | [d] => { results := [.lit (.bool true)], args := [d] }
  | _ => none }
def recurOrdersRow : OpenClaim := { program := "ytaoinojdijbhaaa", sum := "a720de494fe255b026230e926c6641a1d1431016f49a71a6aa190e0f7c9e84ad", func := "stenotype/stenotypelaw11.RecurOrders", spec := "recurOrders", unfollowed := true, recurses := true, plainKeys := false, apart := false }
def RecurOrdersSaid : Prop := recurOrdersRow.holds Try.pinned (OpenSpec.ofChange recurOrdersSpec)

/-- ITS FALSE NEIGHBOUR: 'it returns false'. Refute it at one input. -/
def recurOrdersWrong : ChangeSpec := { name := "recurOrders", fn := fun _ => fun
  | [d] => { results := [.lit (.bool false)], args := [d] }
  | _ => none }
def RecurOrdersWrongFalsely : Prop := recurOrdersRow.holds Try.pinned (OpenSpec.ofChange recurOrdersWrong)

/-- 'stenotypelaw11.RecurWitness': WHATEVER THE INPUT: true; the input reads as it did. -/
def recurWitnessSpec : ChangeSpec := { name := "recurWitness", fn := fun _ => fun
  | [d1, d2] => { results := [.lit (.bool true)], args := [d1, d2] }
  | _ => none }
def recurWitnessRow : OpenClaim := { program := "ytaoinojdijbhaaa", sum := "a720de494fe255b026230e926c6641a1d1431016f49a71a6aa190e0f7c9e84ad", func := "stenotype/stenotypelaw11.RecurWitness", spec := "recurWitness", unfollowed := true, recurses := true, plainKeys := false, apart := false }
def RecurWitnessSaid : Prop := recurWitnessRow.holds Try.pinned (OpenSpec.ofChange recurWitnessSpec)

/-- ITS FALSE NEIGHBOUR: 'it returns false'. Refute it at one input. -/
def recurWitnessWrong : ChangeSpec := { name := "recurWitness", fn := fun _ => fun
  | [d1, d2] => { results := [.lit (.bool false)], args := [d1, d2] }
  | _ => none }
def RecurWitnessWrongFalsely : Prop := recurWitnessRow.holds Try.pinned (OpenSpec.ofChange recurWitnessWrong)

/-- 'stenotypelaw11.RecurCycles': WHATEVER THE INPUT: true; the input reads as it did. -/
def recurCyclesSpec : ChangeSpec := { name := "recurCycles", fn := fun _ => fun
  | [d1, d2] => { results := [.lit (.bool true)], args := [d1, d2] }
  | _ => none }
def recurCyclesRow : OpenClaim := { program := "ytaoinojdijbhaaa", sum := "a720de494fe255b026230e926c6641a1d1431016f49a71a6aa190e0f7c9e84ad", func := "stenotype/stenotypelaw11.RecurCycles", spec := "recurCycles", unfollowed := true, recurses := true, plainKeys := false, apart := false }
def RecurCyclesSaid : Prop := recurCyclesRow.holds Try.pinned (OpenSpec.ofChange recurCyclesSpec)

/-- ITS FALSE NEIGHBOUR: 'it returns false'. Refute it at one input. -/
def recurCyclesWrong : ChangeSpec := { name := "recurCycles", fn := fun _ => fun
  | [d1, d2] => { results := [.lit (.bool false)], args := [d1, d2] }
  | _ => none }
def RecurCyclesWrongFalsely : Prop := recurCyclesRow.holds Try.pinned (OpenSpec.ofChange recurCyclesWrong)

/-- 'stenotypelaw11.RecurKnown': WHATEVER THE INPUT: true; the input reads as it did. -/
def recurKnownSpec : ChangeSpec := { name := "recurKnown", fn := fun _ => fun
  | [] => { results := [.lit (.bool true)], args := [] }
  | _ => none }
def recurKnownRow : OpenClaim := { program := "ytaoinojdijbhaaa", sum := "a720de494fe255b026230e926c6641a1d1431016f49a71a6aa190e0f7c9e84ad", func := "stenotype/stenotypelaw11.RecurKnown", spec := "recurKnown", unfollowed := true, recurses := true, plainKeys := false, apart := false }
def RecurKnownSaid : Prop := recurKnownRow.holds Try.pinned (OpenSpec.ofChange recurKnownSpec)

/-- ITS FALSE NEIGHBOUR: 'it returns false'. Refute it at one input. -/
def recurKnownWrong : ChangeSpec := { name := "recurKnown", fn := fun _ => fun
  | [] => { results := [.lit (.bool false)], args := [] }
  | _ => none }
def RecurKnownWrongFalsely : Prop := recurKnownRow.holds Try.pinned (OpenSpec.ofChange recurKnownWrong)

/- THE SECOND FORM. 'bulk': how many values and letters a reading holds, each counted each time it is reached (what is shared counts as often as it is met; a slice's spare places count too). A statement '..UptoSaid' is the law's where the arguments, and the package variables that the reading takes, are together of bulk at most 1048576: NARROWER than '..Said'. Prove '..Said' where nothing that the law and all that it calls make is longer than what came in: it says more and counts as full. Else prove '..UptoSaid'. A law counts once. -/
mutual
def uptoBulk {H : Type} : DataW H → Nat
  | .lit (.string bytes) => bytes.length + 1
  | .lit _ => 1
  | .nil => 1
  | .ptr d => uptoBulk d + 1
  | .slice elems spare => uptoBulkAll elems + uptoBulkAll spare + 1
  | .agg parts => uptoBulkAll parts + 1
  | .iface _ d => uptoBulk d + 1
  | .map entries => uptoBulkEntries entries + 1
  | .held _ => 1
def uptoBulkAll {H : Type} : List (DataW H) → Nat
  | [] => 0
  | d :: r => uptoBulk d + uptoBulkAll r
def uptoBulkEntries {H : Type} : List (Lit × DataW H) → Nat
  | [] => 0
  | x :: r => uptoBulkEntry x + uptoBulkEntries r
def uptoBulkEntry {H : Type} : Lit × DataW H → Nat
  | (.string bytes, d) => bytes.length + uptoBulk d + 1
  | (_, d) => uptoBulk d + 1
 end
def uptoSmall : (H : Type) → List (DataW H) → Bool := fun _ ds => decide (uptoBulkAll ds ≤ 1048576)
def OpenSpec.upto (s : _root_.Go.ChangeSpec) : _root_.Go.OpenSpec := { _root_.Go.OpenSpec.ofChange s with cond := some uptoSmall }

/-- 'stenotypelaw11.RecurGrows', WHERE WHAT IT READS IS OF BULK AT MOST 1048576: true; the input reads as it did. -/
def recurGrowsUptoRow : OpenClaim := { program := "ytaoinojdijbhaaa", sum := "a720de494fe255b026230e926c6641a1d1431016f49a71a6aa190e0f7c9e84ad", func := "stenotype/stenotypelaw11.RecurGrows", spec := "recurGrows", unfollowed := true, recurses := true, plainKeys := false, apart := false, narrowed := true }
def RecurGrowsUptoSaid : Prop := recurGrowsUptoRow.holds Try.pinned (OpenSpec.upto recurGrowsSpec)

/-- 'stenotypelaw11.RecurGraph', WHERE WHAT IT READS IS OF BULK AT MOST 1048576: true; the input reads as it did. -/
def recurGraphUptoRow : OpenClaim := { program := "ytaoinojdijbhaaa", sum := "a720de494fe255b026230e926c6641a1d1431016f49a71a6aa190e0f7c9e84ad", func := "stenotype/stenotypelaw11.RecurGraph", spec := "recurGraph", unfollowed := true, recurses := true, plainKeys := false, apart := false, narrowed := true }
def RecurGraphUptoSaid : Prop := recurGraphUptoRow.holds Try.pinned (OpenSpec.upto recurGraphSpec)

/-- 'stenotypelaw10.ReachTells', WHERE WHAT IT READS IS OF BULK AT MOST 1048576: true; the input reads as it did. -/
def reachTellsUptoRow : OpenClaim := { program := "ytaoinojdijbhaaa", sum := "a720de494fe255b026230e926c6641a1d1431016f49a71a6aa190e0f7c9e84ad", func := "stenotype/stenotypelaw10.ReachTells", spec := "reachTells", unfollowed := true, recurses := true, plainKeys := false, apart := false, narrowed := true }
def ReachTellsUptoSaid : Prop := reachTellsUptoRow.holds Try.pinned (OpenSpec.upto reachTellsSpec)

/-- 'stenotypelaw10.ReachKnown', WHERE WHAT IT READS IS OF BULK AT MOST 1048576: true; the input reads as it did. -/
def reachKnownUptoRow : OpenClaim := { program := "ytaoinojdijbhaaa", sum := "a720de494fe255b026230e926c6641a1d1431016f49a71a6aa190e0f7c9e84ad", func := "stenotype/stenotypelaw10.ReachKnown", spec := "reachKnown", unfollowed := true, recurses := true, plainKeys := false, apart := false, narrowed := true }
def ReachKnownUptoSaid : Prop := reachKnownUptoRow.holds Try.pinned (OpenSpec.upto reachKnownSpec)

/-- 'stenotypelaw10.ReachProds', WHERE WHAT IT READS IS OF BULK AT MOST 1048576: true; the input reads as it did. -/
def reachProdsUptoRow : OpenClaim := { program := "ytaoinojdijbhaaa", sum := "a720de494fe255b026230e926c6641a1d1431016f49a71a6aa190e0f7c9e84ad", func := "stenotype/stenotypelaw10.ReachProds", spec := "reachProds", unfollowed := true, recurses := true, plainKeys := false, apart := false, narrowed := true }
def ReachProdsUptoSaid : Prop := reachProdsUptoRow.holds Try.pinned (OpenSpec.upto reachProdsSpec)

/-- 'stenotypelaw10.ReachBelow', WHERE WHAT IT READS IS OF BULK AT MOST 1048576: true; the input reads as it did. -/
def reachBelowUptoRow : OpenClaim := { program := "ytaoinojdijbhaaa", sum := "a720de494fe255b026230e926c6641a1d1431016f49a71a6aa190e0f7c9e84ad", func := "stenotype/stenotypelaw10.ReachBelow", spec := "reachBelow", unfollowed := true, recurses := true, plainKeys := false, apart := false, narrowed := true }
def ReachBelowUptoSaid : Prop := reachBelowUptoRow.holds Try.pinned (OpenSpec.upto reachBelowSpec)

/-- 'stenotypelaw10.ReachMore', WHERE WHAT IT READS IS OF BULK AT MOST 1048576: true; the input reads as it did. -/
def reachMoreUptoRow : OpenClaim := { program := "ytaoinojdijbhaaa", sum := "a720de494fe255b026230e926c6641a1d1431016f49a71a6aa190e0f7c9e84ad", func := "stenotype/stenotypelaw10.ReachMore", spec := "reachMore", unfollowed := true, recurses := true, plainKeys := false, apart := false, narrowed := true }
def ReachMoreUptoSaid : Prop := reachMoreUptoRow.holds Try.pinned (OpenSpec.upto reachMoreSpec)

/-- 'stenotypelaw11.RecurOrders', WHERE WHAT IT READS IS OF BULK AT MOST 1048576: true; the input reads as it did. -/
def recurOrdersUptoRow : OpenClaim := { program := "ytaoinojdijbhaaa", sum := "a720de494fe255b026230e926c6641a1d1431016f49a71a6aa190e0f7c9e84ad", func := "stenotype/stenotypelaw11.RecurOrders", spec := "recurOrders", unfollowed := true, recurses := true, plainKeys := false, apart := false, narrowed := true }
def RecurOrdersUptoSaid : Prop := recurOrdersUptoRow.holds Try.pinned (OpenSpec.upto recurOrdersSpec)

/-- 'stenotypelaw11.RecurWitness', WHERE WHAT IT READS IS OF BULK AT MOST 1048576: true; the input reads as it did. -/
def recurWitnessUptoRow : OpenClaim := { program := "ytaoinojdijbhaaa", sum := "a720de494fe255b026230e926c6641a1d1431016f49a71a6aa190e0f7c9e84ad", func := "stenotype/stenotypelaw11.RecurWitness", spec := "recurWitness", unfollowed := true, recurses := true, plainKeys := false, apart := false, narrowed := true }
def RecurWitnessUptoSaid : Prop := recurWitnessUptoRow.holds Try.pinned (OpenSpec.upto recurWitnessSpec)

/-- 'stenotypelaw11.RecurCycles', WHERE WHAT IT READS IS OF BULK AT MOST 1048576: true; the input reads as it did. -/
def recurCyclesUptoRow : OpenClaim := { program := "ytaoinojdijbhaaa", sum := "a720de494fe255b026230e926c6641a1d1431016f49a71a6aa190e0f7c9e84ad", func := "stenotype/stenotypelaw11.RecurCycles", spec := "recurCycles", unfollowed := true, recurses := true, plainKeys := false, apart := false, narrowed := true }
def RecurCyclesUptoSaid : Prop := recurCyclesUptoRow.holds Try.pinned (OpenSpec.upto recurCyclesSpec)

/-- 'stenotypelaw11.RecurKnown', WHERE WHAT IT READS IS OF BULK AT MOST 1048576: true; the input reads as it did. -/
def recurKnownUptoRow : OpenClaim := { program := "ytaoinojdijbhaaa", sum := "a720de494fe255b026230e926c6641a1d1431016f49a71a6aa190e0f7c9e84ad", func := "stenotype/stenotypelaw11.RecurKnown", spec := "recurKnown", unfollowed := true, recurses := true, plainKeys := false, apart := false, narrowed := true }
def RecurKnownUptoSaid : Prop := recurKnownUptoRow.holds Try.pinned (OpenSpec.upto recurKnownSpec)

end Rows
end Go.Proofs.Ytaoinojdijbhaaa
