/-
  From a contract to the row's walk.
-/
import Derived.Test.YtmkgdljgiajoiaaSep8
import Derived.Below
namespace Go.Proofs.Ytmkgdljgiajoiaa
open Go.RowKit

theorem CallV.run {P : Program} {k : FuncId} {args : Array Value} {r : Value} (w : World) (h : CallV P k args (Env.of w) [] r) : Calls P k args w (fun e w' => e = .returned r ∧ Below w.heap.size w w') :=
  (h w (St.start w)).mono fun _ _ ⟨he, hs⟩ => ⟨he, St.below (.refl _) hs⟩
theorem wf_u64 {a : Int} (h : (Lit.int .u64 a).wf = true) : ∃ n : Nat, a = n ∧ n < 18446744073709551616 := by
  simp [Lit.wf, IntKind.min, IntKind.max, IntKind.signed, IntKind.bits] at h
  exact ⟨a.toNat, by omega, by omega⟩
theorem wf_i64 {a : Int} (h : (Lit.int .i64 a).wf = true) : -9223372036854775808 ≤ a ∧ a ≤ 9223372036854775807 := by
  simp [Lit.wf, IntKind.min, IntKind.max, IntKind.signed, IntKind.bits] at h
  omega
end Go.Proofs.Ytmkgdljgiajoiaa
