/-
  From a contract to the row's walk.
-/
import Derived.Test.YtaoinojdijbhaaaSep8
import Derived.Below
namespace Go.Proofs.Ytaoinojdijbhaaa
open Go.RowKit

theorem CallV.run {P : Program} {k : FuncId} {args : Array Value} {r : Value} (w : World) (h : CallV P k args (Env.of w) [] r) : Calls P k args w (fun e w' => e = .returned r ∧ Below w.heap.size w w') :=
  (h w (St.start w)).mono fun _ _ ⟨he, hs⟩ => ⟨he, St.below (.refl _) hs⟩
theorem CallS.run {P : Program} {k : FuncId} {args : Array Value} {r : Value} (w : World) (h : CallS P k args (Env.of w) [] (fun r' _ L' => r' = r ∧ L' = [])) : Calls P k args w (fun e w' => e = .returned r ∧ Below w.heap.size w w') :=
  (h w (St.start w)).mono fun _ _ ⟨_, _, _, he, hE, hs, hr, _⟩ => ⟨by rw [he, hr], St.below hE hs⟩
theorem wf_u64 {a : Int} (h : (Lit.int .u64 a).wf = true) : ∃ n : Nat, a = n ∧ n < 18446744073709551616 := by
  simp [Lit.wf, IntKind.min, IntKind.max, IntKind.signed, IntKind.bits] at h
  exact ⟨a.toNat, by omega, by omega⟩
theorem wf_i64 {a : Int} (h : (Lit.int .i64 a).wf = true) : -9223372036854775808 ≤ a ∧ a ≤ 9223372036854775807 := by
  simp [Lit.wf, IntKind.min, IntKind.max, IntKind.signed, IntKind.bits] at h
  omega
section rules
variable {P : Program} {ro : Option Nat} {n : Nat} {ds : List Deferred} {fs : List (Nat × Value)} {E : Env} {L : List Res} {ops : Array Oper} {Q : Exit → Act → World → Prop} {rest : List Oper} {o : Oper}
theorem G_lit2 {t e : TypeId} {td : TypeDesc} {sz : Nat} {ag ag' : Bool} [ht : Ty P t (.slice e) sz ag] [he : Ty P e td 1 ag'] {z : Value} {zc : Value} [hz : Zero P e z #[zc]] {x y : Operand} {v v' : Value} {d : Nat}
    (ho : o.op = .buildSlice t 2 #[(0, x), (1, y)]) (hx : ev fs x = some v) (hy : ev fs y = some v') (hc : v.cells = #[v]) (hc' : v'.cells = #[v']) (hd : o.dst = some d) (hn : Nat.blt d n = true) (hg : Goes ops fs o)
    (h : ∀ b, G n ds ((d, .slice (some ⟨b, 0, none⟩) 2 2) :: fs) E (.blk b (.cells #[v, v'] e (0, 0)) :: L) (wpListIn (Wd ro) 0 P ops Q rest)) : G n ds fs E L (wpListIn (Wd ro) 0 P ops Q (o :: rest)) :=
  G_any hg (by rw [ho]; intro c h; cases h) fun a w ha hw => by
    have e1 : (execOp a.eval o).run P w = .ok (.value (.slice (some ⟨w.heap.size, 0, none⟩) 2 2)) (w.alloc (.cells #[v, v'] e)) := by
      simp [execOp, ho, ha.eval hx, ha.eval hy, Instr.buildSlice, ht.run, he.size, hz.zv, hz.zc, Result.andThen, Instr.fill, hc, hc', newRow]
      rw [show Array.range 2 = #[0, 1] by decide]
      simp
    rw [e1]
    simp only [Oper.uponIn_value, hd]
    exact h w.heap.size _ _ (ha.put hn _) (hw.alloc _)
end rules

theorem SlE.sl {E : Env} {e : TypeId} {sz : Nat} {a : Option Addr} {n cap : Nat} {xs : List Value} (h : (Res.sl e sz a n cap xs).ok E.heap) : SlE E sz a n xs := by
  obtain ⟨h1, h2⟩ := h
  refine ⟨h1, ?_⟩
  rcases h2 with ⟨rfl, _, rfl⟩ | ⟨g, cur, rfl, e2, _, _, e5, e6⟩
  · exact .inl ⟨rfl, rfl⟩
  · refine .inr ⟨_, rfl, .inl rfl, fun j v hj => ?_⟩
    rw [addr_add]
    have hj' : cur.toList[j]? = some v := by
      rw [← e6] at hj
      rw [List.getElem?_take] at hj
      split at hj
      · exact hj
      · cases hj
    simp only [Env.cell]
    rw [e2]
    simpa using hj'
end Go.Proofs.Ytaoinojdijbhaaa
