/-
  More rules: a block that is a slice of the call's own.
-/
import Derived.Test.YtaoinojdijbhaaaSep16
set_option linter.unusedSimpArgs false
set_option linter.unusedVariables false
namespace Go.Proofs.Ytaoinojdijbhaaa
open Go.RowKit
section
variable {P : Program} {ro : Option Nat} {n : Nat} {ds : List Deferred} {fs : List (Nat × Value)} {E : Env} {L L' : List Res} {X : Act → World → Prop}
/-- A slice written out becomes one that may be appended to. -/
theorem G.blkSl {b k sz : Nat} {e : TypeId} {l : List Value} (hl : l.length = k * sz) (hk : k ≤ maxLen) (h : G n ds fs E (.sl e sz (some ⟨b, 0, none⟩) k k l :: L) X) : G n ds fs E (.blk b (.cells l.toArray e (0, 0)) :: L) X := fun a w ha hw => by
  refine h a w ha ⟨hw.env, fun r hr => ?_, hw.nodup, hw.apart, hw.os, hw.out, hw.tape⟩
  rcases List.mem_cons.1 hr with rfl | hr
  · have := hw.own _ (.head _)
    exact ⟨hl, .inr ⟨b, l.toArray, rfl, this, Nat.le_refl _, hk, by simpa using hl, by simp [← hl]⟩⟩
  · exact hw.own r (.tail _ hr)
end
end Go.Proofs.Ytaoinojdijbhaaa
