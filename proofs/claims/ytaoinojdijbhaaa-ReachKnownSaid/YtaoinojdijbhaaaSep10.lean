/-
  More rules: the empty literal; a string's front.
-/
import Derived.Test.YtaoinojdijbhaaaSep9
set_option linter.unusedSimpArgs false
set_option linter.unusedVariables false
namespace Go.Proofs.Ytaoinojdijbhaaa
open Go.RowKit

section rules
variable {P : Program} {ro : Option Nat} {n : Nat} {ds : List Deferred} {fs : List (Nat × Value)} {E : Env} {L : List Res} {ops : Array Oper} {Q : Exit → Act → World → Prop} {rest : List Oper} {o : Oper}
theorem G_lit0 {t e : TypeId} {td : TypeDesc} {sz : Nat} {ag ag' : Bool} [ht : Ty P t (.slice e) sz ag] [he : Ty P e td 1 ag'] {z : Value} {zc : Value} [hz : Zero P e z #[zc]] {d : Nat}
    (ho : o.op = .buildSlice t 0 #[]) (hd : o.dst = some d) (hn : Nat.blt d n = true) (hg : Goes ops fs o)
    (h : ∀ b, G n ds ((d, .slice (some ⟨b, 0, none⟩) 0 0) :: fs) E (.sl e 1 (some ⟨b, 0, none⟩) 0 0 [] :: L) (wpListIn (Wd ro) 0 P ops Q rest)) : G n ds fs E L (wpListIn (Wd ro) 0 P ops Q (o :: rest)) :=
  G_any hg (by rw [ho]; intro c h; cases h) fun a w ha hw => by
    have e1 : (execOp a.eval o).run P w = .ok (.value (.slice (some ⟨w.heap.size, 0, none⟩) 0 0)) (w.alloc (.cells #[] e)) := by
      simp [execOp, ho, Instr.buildSlice, ht.run, he.size, hz.zv, hz.zc, Result.andThen, newRow]
      rw [show Array.range 0 = #[] by decide]
      simp [Instr.fill]
    rw [e1]
    simp only [Oper.uponIn_value, hd]
    have hb := hw.alloc (.cells #[] e)
    refine h w.heap.size _ _ (ha.put hn _) ⟨hb.env, fun r hr => ?_, hb.nodup, hb.apart, hb.os, hb.out, hb.tape⟩
    rcases List.mem_cons.1 hr with rfl | hr
    · have h0 : (w.alloc (.cells #[] e)).heap[w.heap.size]? = some (.cells #[] e) := World.alloc_heap_new w _
      exact ⟨rfl, .inr ⟨_, _, rfl, h0, Nat.le_refl _, Nat.zero_le _, rfl, rfl⟩⟩
    · exact hb.own r (List.mem_cons_of_mem _ hr)
end rules

theorem S_extract (l : List UInt8) (h : Nat) : (S l).extract 0 h = S (l.take h) := by
  apply ByteArray.ext
  simp [S]

section vals
variable {P : Program} {fs : List (Nat × Value)} {E : Env} {L : List Res} {o : Oper} {t : TypeId} {sz : Nat} {ag : Bool} {x y : Operand} {s : List UInt8} {i : Int}
theorem V_front [ht : Ty P t .string sz ag] (ho : o.op = .slice t x none (some y) none) (hx : ev fs x = some (.string (S s))) (hy : ev fs y = some (.int .i64 i)) (h0 : 0 ≤ i) (h1 : i ≤ s.length) : Val P o fs E L (.string (S (s.take i.toNat))) :=
  ⟨(by rw [ho]; intro c h; cases h), fun n ds a w ha _ => by
    have hl : ¬ i < 0 := by omega
    have hh : ¬ ((s.length : Int) < i) := by omega
    simp [execOp, ho, ha.eval hx, ha.eval hy, Instr.sliceAt, Instr.slice, Instr.sliceBounds, Instr.sliceBound, ht.run, Result.andThen, asIntOf, S_size, h0, h1, S_extract]⟩
end vals
end Go.Proofs.Ytaoinojdijbhaaa
