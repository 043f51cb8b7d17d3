/-
  A call within a drawn region that reads what the caller owns.
-/
import Derived.Test.YtaoinojdijbhaaaSep23
set_option linter.unusedSimpArgs false
set_option linter.unusedVariables false
set_option linter.unusedSectionVars false
namespace Go.Proofs.Ytaoinojdijbhaaa
open Go.RowKit
section
variable {P : Program} {ro : Option Nat} {n : Nat} {ds : List Deferred} {fs : List (Nat × Value)} {E : Env} {L : List Res} {ops : Array Oper} {T : Act → Fam → Prop} {π : List (Nat × Nat)} {i : Nat} {o : Oper} {J : World → Prop}
theorem F_callvM {k : FuncId} [Ent P k] {args : Array Value} {d : Nat} {r : Value} (h0 : ops[i]? = some o) (ht : Goesto fs o k args) (hd : o.dst = some d) (hn : Nat.blt d n = true) (hg : Goes ops fs o)
    (hc : ∀ M, CallV P k args E (M ++ L) r) (h : GF n ds ((d, r) :: fs) E L (wpF P ops T J π)) : GF n ds fs E L (wpF P ops T J ((i, 3) :: π)) := fun a ha =>
  ⟨o, h0, by
    rw [if_pos (hg.wanted ha)]
    exact fun M w hw => by
      unfold Steps
      rw [ht.run ha]
      exact (hc M w hw).mono fun e w' ⟨he, hs⟩ => ⟨r, he, Fam.st E L, fun _ h => h, hs, by rw [hd]; exact h _ (ha.put hn r)⟩⟩
end
section
variable {P : Program} {fs : List (Nat × Value)} {E E0 : Env} {L : List Res} {o : Oper}
theorem V_fieldAddrX {t ft : TypeId} {x : Operand} {i off sz' : Nat} {d : TypeDesc} {sz : Nat} {ag : Bool} [hf : Fld P t i off ft] [hft : Ty P ft d sz ag] {a : Option Addr} {k m : Nat} {vals : List Value} (ho : o.op = .fieldAddr t x i) (hx : ev fs x = some (.pointer (some (elemAt a k)))) (hr : SlE E0 sz' a m vals) (hm : 0 < m) (hs : sz ≠ 0) :
    Val P o fs E L (.pointer (some (elemAt a (k + off)))) := by
  rcases hr.2 with ⟨_, h0⟩ | ⟨⟨b, o', sp⟩, rfl, h1, _⟩
  · omega
  · rcases h1 with h1 | h1
    · simp only at h1
      subst h1
      have e1 : elemAt (some ⟨b, o', none⟩) k = ⟨b, o' + k, none⟩ := addr_add b o' k
      have e2 : elemAt (some ⟨b, o', none⟩) (k + off) = ⟨b, o' + k + off, none⟩ := by rw [elemAt, Option.getD_some, addr_add, Nat.add_assoc]
      rw [e1] at hx
      rw [e2]
      exact V_fieldAddr ho hx hs
    · omega
end
end Go.Proofs.Ytaoinojdijbhaaa
