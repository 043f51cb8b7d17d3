/-
  Arrays as values: written out, sliced whole, one of their elements.
-/
import Derived.Test.YtaoinojdijbhaaaSep21
set_option linter.unusedSimpArgs false
set_option linter.unusedVariables false
set_option linter.unusedSectionVars false
namespace Go.Proofs.Ytaoinojdijbhaaa
open Go.RowKit

section rules
variable {P : Program} {ro : Option Nat} {n : Nat} {ds : List Deferred} {fs : List (Nat × Value)} {E : Env} {L L' : List Res} {ops : Array Oper} {Q : Exit → Act → World → Prop} {o : Oper} {rest : List Oper} {X : Act → World → Prop}

theorem V_buildArr {t e : TypeId} {m sz szt : Nat} {ag ag' : Bool} {td : TypeDesc} [ht : Ty P t (.array m e) szt ag] [he : Ty P e td sz ag'] {zc : List Value} [hz : Zero P t (.agg zc.toArray) zc.toArray] {ps : List (Nat × Operand)} {vs : List (Nat × Value)} {cells : List Value} (ho : o.op = .build t ps.toArray)
    (hx : evps fs ps = some vs) (hf : fillS sz zc vs = some cells) : Val P o fs E L (.agg cells.toArray) :=
  ⟨(by rw [ho]; intro c h; cases h), fun n ds a w ha _ => by
    have e1 := evps_eval ha ps vs hx
    have e2 := fillS_of vs zc cells hf
    have e3 : ((ps.toArray.map fun (i, x) => (i, a.eval x)) : Array (Nat × Value)) = vs.toArray := by
      rw [← e1]; simp
    simp only [execOp, ho, e3]
    simp only [Instr.build, Sem.run_bind, hz.zv, Result.andThen, ht.run, he.size, hz.zc, e2, Sem.run_pure]⟩
/-- An array in memory, sliced whole. -/
theorem V_slArr {t e : TypeId} {m sz szt : Nat} {ag ag' : Bool} {td : TypeDesc} [ht : Ty P t (.array m e) szt ag] [he : Ty P e td sz ag'] {x : Operand} {p : Addr}
    (ho : o.op = .slice t x none none none) (hx : ev fs x = some (.pointer (some p))) : Val P o fs E L (.slice (some p) m m) :=
  ⟨(by rw [ho]; intro c h; cases h), fun n ds a w ha _ => by
    have : p.add 0 = p := by simp [Addr.add]
    simp [execOp, ho, ha.eval hx, Instr.sliceAt, Instr.sureAddr, Instr.sliceBounds, ht.run, he.size, Result.andThen, this]⟩
/-- An array in memory, its first elements. -/
theorem V_slArrTo {t e : TypeId} {m sz szt : Nat} {ag ag' : Bool} {td : TypeDesc} [ht : Ty P t (.array m e) szt ag] [he : Ty P e td sz ag'] {x y : Operand} {p : Addr} {k : IntKind} {i : Int}
    (ho : o.op = .slice t x none (some y) none) (hx : ev fs x = some (.pointer (some p))) (hy : ev fs y = some (.int k i)) (h0 : 0 ≤ i) (h1 : i ≤ m) : Val P o fs E L (.slice (some p) i.toNat m) :=
  ⟨(by rw [ho]; intro c h; cases h), fun n ds a w ha _ => by
    have : p.add 0 = p := by simp [Addr.add]
    simp [execOp, ho, ha.eval hx, ha.eval hy, Instr.sliceAt, Instr.sureAddr, Instr.sliceBounds, Instr.sliceBound, asIntOf, h0, h1, ht.run, he.size, Result.andThen, this]⟩
/-- An element of an array that is a value. -/
theorem V_idxArr {t e : TypeId} {m szt : Nat} {ag : Bool} {td : TypeDesc} [ht : Ty P t (.array m e) szt ag] [he : Ty P e td 1 false] {x y : Operand} {cs : List Value} {k : IntKind} {i : Int} {v : Value}
    (ho : o.op = .index t x y) (hx : ev fs x = some (.agg cs.toArray)) (hy : ev fs y = some (.int k i)) (h0 : 0 ≤ i) (h1 : i < m) (hv : cs[i.toNat]? = some v) : Val P o fs E L v :=
  ⟨(by rw [ho]; intro c h; cases h), fun n ds a w ha _ => by
    simp [execOp, ho, ha.eval hx, ha.eval hy, Instr.index, asIntOf, h0, h1, ht.run, he.size, part, he.agg', Result.andThen, hv]⟩
/-- The place of an element of an array in memory. -/
theorem V_idxAddrArr {x y : Operand} {t e : TypeId} {d : TypeDesc} {m sz sz' : Nat} {ag ag' : Bool} [ht : Ty P t (.array m e) sz' ag'] [he : Ty P e d sz ag] {b off : Nat} {k : IntKind} {i : Int}
    (ho : o.op = .indexAddr t x y) (hx : ev fs x = some (.pointer (some ⟨b, off, none⟩))) (hy : ev fs y = some (.int k i)) (h0 : 0 ≤ i) (h1 : i < m) : Val P o fs E L (.pointer (some ⟨b, off + i.toNat * sz, none⟩)) :=
  ⟨(by rw [ho]; intro c h; cases h), fun n ds a' w ha hw => by
    have hl : i.toNat < m := by omega
    have hni : ¬ i < 0 := by omega
    have e2 := addr_add b off (i.toNat * sz)
    simp [execOp, ho, ha.eval hx, ha.eval hy, Instr.indexAt, Instr.sureAddr, asIntOf, ht.run, he.size, Result.andThen, h0, h1, e2]⟩
end rules
end Go.Proofs.Ytaoinojdijbhaaa
