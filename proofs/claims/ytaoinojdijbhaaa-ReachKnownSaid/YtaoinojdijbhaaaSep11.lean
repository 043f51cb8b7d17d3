/-
  A slice of numbers that came in.
-/
import Derived.Test.YtaoinojdijbhaaaSep10
import Derived.Test.YtaoinojdijbhaaaVmath
set_option linter.unusedSimpArgs false
set_option linter.unusedVariables false
namespace Go.Proofs.Ytaoinojdijbhaaa
open Go.RowKit

theorem Env.of_cell {w : World} {p : Addr} {v : Value} (h : w.cell? p = some v) : (Env.of w).cell p = some v := h
theorem SlE.row {w : World} {a : Option Addr} {len cap : Nat} {zs : List Int} (h : (a = none ∧ len = 0 ∧ cap = 0 ∧ zs = []) ∨
    ∃ x, a = some x ∧ len ≤ cap ∧ cap ≤ maxLen ∧ zs.length = cap ∧ (∀ i, i < zs.length → w.cell? (x.add i) = some (.int .u64 (zs.getD i 0))) ∧ ∀ n ∈ zs, (Lit.int .u64 n).wf = true) :
    ∃ ns : List Nat, len = ns.length ∧ SlE (Env.of w) 1 a ns.length (u64s ns) ∧ (∀ n, n ∈ ns → n < 18446744073709551616) ∧ ns.length ≤ 9223372036854775807 := by
  rcases h with ⟨rfl, rfl, rfl, rfl⟩ | ⟨x, rfl, hl, hm, hz, hc, hw⟩
  · exact ⟨[], rfl, SlE.nil, by simp, by simp⟩
  · have hlen : ((zs.take len).map Int.toNat).length = len := by simp; omega
    have hwf : ∀ z, z ∈ zs → 0 ≤ z ∧ z < 18446744073709551616 := fun z hzm => by
      have := hw z hzm
      simp [Lit.wf, IntKind.min, IntKind.max, IntKind.signed, IntKind.bits] at this
      omega
    refine ⟨(zs.take len).map Int.toNat, hlen.symm, ⟨by simp [u64s], .inr ⟨x, rfl, ?_, ?_⟩⟩, ?_, ?_⟩
    · by_cases h0 : len = 0
      · right; rw [hlen]; exact h0
      · left
        simpa [Addr.add] using World.cell?_spot (hc 0 (by omega))
    · intro j v hj
      have hj1 : j < len := by
        have := (List.getElem?_eq_some_iff.1 hj).1
        simp [u64s] at this
        omega
      have hj2 : j < zs.length := by omega
      have h1 := hc j hj2
      refine Env.of_cell ?_
      rw [h1]
      have e : zs.getD j 0 = zs[j] := by simp [List.getD, List.getElem?_eq_getElem hj2]
      have hz1 := hwf zs[j] (List.getElem_mem hj2)
      have e2 : (u64s ((zs.take len).map Int.toNat))[j]? = some (.int .u64 (zs[j].toNat : Int)) := by
        simp [u64s, List.getElem?_map, List.getElem?_take, hj1, List.getElem?_eq_getElem hj2]
      rw [e2] at hj
      cases hj
      rw [e, Int.toNat_of_nonneg hz1.1]
    · intro n hn
      obtain ⟨z, hz1, rfl⟩ := List.mem_map.1 hn
      have := hwf z (List.mem_of_mem_take hz1)
      omega
    · rw [hlen]; simp only [maxLen] at hm; omega
end Go.Proofs.Ytaoinojdijbhaaa
