/-
  Arrays that are owned and known whole: made, read and written at any place; strings that are ranged over.
-/
import Derived.Test.YtaoinojdijbhaaaSep20
import Derived.Laws.MakeOwn
import Derived.Laws.RangeAny
set_option linter.unusedSimpArgs false
set_option linter.unusedVariables false
set_option linter.unusedSectionVars false
namespace Go.Proofs.Ytaoinojdijbhaaa
open Go.RowKit

section rules
variable {P : Program} {ro : Option Nat} {n : Nat} {ds : List Deferred} {fs : List (Nat × Value)} {E : Env} {L L' : List Res} {ops : Array Oper} {Q : Exit → Act → World → Prop} {o : Oper} {rest : List Oper} {X : Act → World → Prop}
variable {T : Act → Fam → Prop} {π : List (Nat × Nat)} {i : Nat} {js : List (Env × List Res)}

theorem madeCells_one (zc : Value) (n : Nat) : madeCells #[zc] n = (List.replicate n zc).toArray := by
  apply Array.ext'
  simp [madeCells]
  apply List.ext_getElem
  · simp
  · intro i h1 h2
    simp [Nat.mod_one]
/-- make([]T, m). -/
theorem G_makeSlice {t e : TypeId} {sz : Nat} {ag : Bool} [ht : Ty P t (.slice e) sz ag] {z zc : Value} {bytes : Nat} [hi : Inf P e z 1 bytes] [hz : Zero P e z #[zc]] {x y : Operand} {m : Int} {d : Nat}
    (ho : o.op = .makeSlice t x y) (hx : ev fs x = some (.int .i64 m)) (hy : ev fs y = some (.int .i64 m)) (h0 : 0 ≤ m) (h1 : bytes * m ≤ 281474976710656) (h2 : m ≤ 9223372036854775807) (hd : o.dst = some d) (hn : Nat.blt d n = true) (hg : Goes ops fs o)
    (h : ∀ b, G n ds ((d, .slice (some ⟨b, 0, none⟩) m.toNat m.toNat) :: fs) E (.blk b (.cells (List.replicate m.toNat zc).toArray e (0, 0)) :: L) (wpListIn (Wd ro) 0 P ops Q rest)) : G n ds fs E L (wpListIn (Wd ro) 0 P ops Q (o :: rest)) :=
  G_any hg (by rw [ho]; intro c h; cases h) fun a w ha hw => by
    obtain ⟨inf, hi1, hi2, hi3, hi4, hi5⟩ := hi.inf
    have hzc : z.cells = #[zc] := hz.zc
    have hr := run_make (P := P) (w := w) t e inf z ht.und hi1 hi2 .i64 .i64 m m h0 (Int.le_refl _) (by rw [hi4]; exact h1) h2
    rw [hi3, hzc, Nat.mul_one, madeCells_one] at hr
    have e : (execOp a.eval o).run P w = .ok (.value (.slice (some ⟨w.heap.size, 0, none⟩) m.toNat m.toNat)) (w.alloc (.cells (List.replicate m.toNat zc).toArray e)) := by
      simp [execOp, ho, ha.eval hx, ha.eval hy, hr, Result.andThen]
    rw [e]
    simp only [Oper.uponIn_value, hd]
    exact h w.heap.size _ _ (ha.put hn _) (hw.alloc _)
theorem V_idxB {x y : Operand} {t e : TypeId} {d : TypeDesc} {sz sz' : Nat} {ag ag' : Bool} [ht : Ty P t (.slice e) sz' ag'] [he : Ty P e d sz ag] {b m c : Nat} {k : IntKind} {i : Int}
    (ho : o.op = .indexAddr t x y) (hx : ev fs x = some (.slice (some ⟨b, 0, none⟩) m c)) (hy : ev fs y = some (.int k i)) (h0 : 0 ≤ i) (h1 : i < m) : Val P o fs E L (.pointer (some ⟨b, i.toNat * sz, none⟩)) :=
  ⟨(by rw [ho]; intro c h; cases h), fun n ds a' w ha hw => by
    have hl : i.toNat < m := by omega
    have hni : ¬ i < 0 := by omega
    have e2 := addr_add b 0 (i.toNat * sz)
    rw [Nat.zero_add] at e2
    simp [execOp, ho, ha.eval hx, ha.eval hy, Instr.indexAt, asIntOf, ht.run, he.size, Result.andThen, h0, h1, e2]⟩
theorem V_idxB1 {x y : Operand} {t e : TypeId} {d : TypeDesc} {sz' : Nat} {ag ag' : Bool} [ht : Ty P t (.slice e) sz' ag'] [he : Ty P e d 1 ag] {b m c : Nat} {k : IntKind} {i : Int}
    (ho : o.op = .indexAddr t x y) (hx : ev fs x = some (.slice (some ⟨b, 0, none⟩) m c)) (hy : ev fs y = some (.int k i)) (h0 : 0 ≤ i) (h1 : i < m) : Val P o fs E L (.pointer (some ⟨b, i.toNat, none⟩)) := by
  have := V_idxB (P := P) (E := E) (L := L) (ht := ht) (he := he) ho hx hy h0 h1
  rwa [Nat.mul_one] at this
theorem V_idxB1n {x y : Operand} {t e : TypeId} {d : TypeDesc} {sz' : Nat} {ag ag' : Bool} [ht : Ty P t (.slice e) sz' ag'] [he : Ty P e d 1 ag] {b m c : Nat} {k : IntKind} {i : Nat}
    (ho : o.op = .indexAddr t x y) (hx : ev fs x = some (.slice (some ⟨b, 0, none⟩) m c)) (hy : ev fs y = some (.int k (i : Int))) (h1 : i < m) : Val P o fs E L (.pointer (some ⟨b, i, none⟩)) :=
  V_idxB1 (ht := ht) (he := he) ho hx hy (by omega) (by omega)
/-- A store of one cell anywhere. -/
theorem G_storeB {t : TypeId} {x y : Operand} {b off : Nat} {v : Value} {d : TypeDesc} {TT : TypeId} {l : List Value} {ag : Bool} [ht : Ty P t d 1 ag]
    (ho : o.op = .store t x y) (hx : ev fs x = some (.pointer (some ⟨b, off, none⟩))) (hy : ev fs y = some v) (hc : v.cells = #[v]) (hone : v.oneCell' = true)
    (hd : o.dst = none) (hg : Goes ops fs o) (hu : Upd L (.blk b (.cells l.toArray TT (0, 0))) (.blk b (.cells (l.set off v).toArray TT (0, 0))) L') (hl : off < l.length)
    (h : G n ds fs E L' (wpListIn (Wd ro) 0 P ops Q rest)) : G n ds fs E L (wpListIn (Wd ro) 0 P ops Q (o :: rest)) :=
  G_storeAt ho hx hy hc hone hd hg hu (by simpa using hl) (by simp) h
theorem F_storeB {t : TypeId} {x y : Operand} {b off : Nat} {v : Value} {d : TypeDesc} {TT : TypeId} {l : List Value} {ag : Bool} [ht : Ty P t d 1 ag]
    (h0 : ops[i]? = some o) (ho : o.op = .store t x y) (hx : ev fs x = some (.pointer (some ⟨b, off, none⟩))) (hy : ev fs y = some v) (hc : v.cells = #[v]) (hone : v.oneCell' = true)
    (hd : o.dst = none) (hg : Goes ops fs o) (hu : Upd L (.blk b (.cells l.toArray TT (0, 0))) (.blk b (.cells (l.set off v).toArray TT (0, 0))) L') (hl : off < l.length) (hj : Jok js E L')
    (h : GF n ds fs E L' (wpF P ops T (JL js) π)) : GF n ds fs E L (wpF P ops T (JL js) ((i, 4) :: π)) :=
  F_storeAt h0 ho hx hy hc hone hd hg hu (by simpa using hl) (by simp) hj h
/-- An array is shut for good: it is a slice that may be read. -/
theorem G.freezeB {b k sz : Nat} {TT : TypeId} {l : List Value} (d : Del L (.blk b (.cells l.toArray TT (0, 0))) L') (hl : l.length = k * sz) (h : ∀ E', E.Le E' → SlE E' sz (some ⟨b, 0, none⟩) k l → G n ds fs E' L' X) : G n ds fs E L X :=
  G.freeze d fun E' hE hok => h E' hE (SlE.lit hok hl)

/-! ### The loop over a string -/
theorem G_rangeStr {t : TypeId} {sz : Nat} {ag : Bool} [ht : Ty P t .string sz ag] {x : Operand} {s : List UInt8} {d : Nat} (ho : o.op = .range t x) (hx : ev fs x = some (.string (S s))) (hd : o.dst = some d) (hn : Nat.blt d n = true) (hg : Goes ops fs o)
    (h : ∀ b, G n ds ((d, .pointer (some ⟨b, 0, none⟩)) :: fs) E (.blk b (.stringIter (S s) 0) :: L) (wpListIn (Wd ro) 0 P ops Q rest)) : G n ds fs E L (wpListIn (Wd ro) 0 P ops Q (o :: rest)) :=
  G_any hg (by rw [ho]; intro c h; cases h) fun a w ha hw => by
    have e : (execOp a.eval o).run P w = .ok (.value (.pointer (some ⟨w.heap.size, 0, none⟩))) (w.alloc (.stringIter (S s) 0)) := by
      simp [execOp, ho, ha.eval hx, Instr.range, ht.run, Result.andThen]
    rw [e]
    simp only [Oper.uponIn_value, hd]
    exact h w.heap.size _ _ (ha.put hn _) (hw.alloc _)
/-- The string's end. -/
theorem G_nextStrEnd {x : Operand} {b d pos : Nat} {s : List UInt8} (ho : o.op = .next x true) (hx : ev fs x = some (.pointer (some ⟨b, 0, none⟩))) (hm : Res.blk b (.stringIter (S s) pos) ∈ L) (hp : s.length ≤ pos) (hd : o.dst = some d) (hn : Nat.blt d n = true) (hg : Goes ops fs o)
    (h : G n ds ((d, .tuple #[.bool false]) :: fs) E L (wpListIn (Wd ro) 0 P ops Q rest)) : G n ds fs E L (wpListIn (Wd ro) 0 P ops Q (o :: rest)) :=
  G_any hg (by rw [ho]; intro c h; cases h) fun a w ha hw => by
    have hb : w.heap[b]? = some (.stringIter (S s) pos) := hw.own _ hm
    have hgo : (getObj b).run P w = .ok (.stringIter (S s) pos) w := by simp [getObj, Sem.run, hb]
    have hn' : ¬ pos < (S s).size := by rw [S_size]; omega
    have e : (execOp a.eval o).run P w = .ok (.value (.tuple #[.bool false])) w := by
      simp [execOp, ho, ha.eval hx, Instr.next, hgo, Result.andThen, hn']
    rw [e]
    simp only [Oper.uponIn_value, hd]
    exact h _ _ (ha.put hn _) hw
/-- The next rune of a string: a plain byte, or something that is none. -/
theorem G_nextStr {LL : Nat → List Res} {x : Operand} {b d pos : Nat} {s : List UInt8} (ho : o.op = .next x true) (hx : ev fs x = some (.pointer (some ⟨b, 0, none⟩))) (hp : pos < s.length) (hd : o.dst = some d) (hn : Nat.blt d n = true) (hg : Goes ops fs o)
    (u : ∀ q, Upd L (.blk b (.stringIter (S s) pos)) (.blk b (.stringIter (S s) q)) (LL q))
    (h1 : s[pos].toNat < 128 → G n ds ((d, .tuple #[.bool true, .int .i64 pos, .int .i32 s[pos].toNat]) :: fs) E (LL (pos + 1)) (wpListIn (Wd ro) 0 P ops Q rest))
    (h2 : 128 ≤ s[pos].toNat → ∀ c q, 128 ≤ c → c ≤ 2147483647 → pos < q → G n ds ((d, .tuple #[.bool true, .int .i64 pos, .int .i32 (c : Nat)]) :: fs) E (LL q) (wpListIn (Wd ro) 0 P ops Q rest)) : G n ds fs E L (wpListIn (Wd ro) 0 P ops Q (o :: rest)) :=
  G_any hg (by rw [ho]; intro c h; cases h) fun a w ha hw => by
    have hb : w.heap[b]? = some (.stringIter (S s) pos) := hw.own _ (u 0).mem
    have hgo : (getObj b).run P w = .ok (.stringIter (S s) pos) w := by simp [getObj, Sem.run, hb]
    have hs : ∀ q, (setObj b (.stringIter (S s) q)).run P w = .ok () (w.putObj b (.stringIter (S s) q)) := fun q => by simp [setObj, Sem.run, hb, World.putObj]
    have hps : pos < (S s).size := by rw [S_size]; exact hp
    have e : (execOp a.eval o).run P w = .ok (.value (.tuple #[.bool true, .int .i64 pos, .int .i32 ((Utf8.decode (S s) pos).1 : Nat)])) (w.putObj b (.stringIter (S s) (pos + (Utf8.decode (S s) pos).2))) := by
      simp [execOp, ho, ha.eval hx, Instr.next, hgo, Result.andThen, hps, hs, goInt]
    rw [e]
    simp only [Oper.uponIn_value, hd]
    have hget : ((S s)[pos]'hps) = s[pos] := by simp [S, ByteArray.getElem_eq_getElem_data]; rfl
    by_cases hlt : s[pos].toNat < 128
    · have hdec := decode_ascii (S s) pos hps (by rw [hget]; exact hlt)
      rw [hget] at hdec
      rw [hdec]
      exact h1 hlt _ _ (ha.put hn _) (hw.put (u _))
    · have hdec := decode_high (S s) pos hps (by rw [hget]; omega)
      exact h2 (by omega) _ _ hdec.1 (decode_le (S s) pos) (by omega) _ _ (ha.put hn _) (hw.put (u _))
end rules
end Go.Proofs.Ytaoinojdijbhaaa
