/-
  More rules: slices cut; append to a full slice that is shut, in a region that draws its order.
-/
import Derived.Test.YtaoinojdijbhaaaSep17
import Derived.Test.YtaoinojdijbhaaaSep11
import Derived.Laws.Cover3
set_option linter.unusedSimpArgs false
set_option linter.unusedVariables false
namespace Go.Proofs.Ytaoinojdijbhaaa
open Go.RowKit

theorem SlE.pre {E : Env} {b : Nat} {l r : List Value} {T : TypeId} {fz : Nat × Nat} {n sz : Nat} (h : (Res.blk b (.cells (l.toArray ++ r.toArray) T fz)).ok E.heap) (hl : l.length = n * sz) : SlE E sz (some ⟨b, 0, none⟩) n l :=
  ⟨hl, .inr ⟨_, rfl, .inl rfl, fun j v hj => by
    have hb : E.heap b = some (.cells (l.toArray ++ r.toArray) T fz) := h
    have hj1 := (List.getElem?_eq_some_iff.1 hj).1
    have hc : (l.toArray ++ r.toArray)[j]? = some v := by
      rw [Array.getElem?_append_left (by simpa using hj1)]
      simpa using hj
    by_cases e : j = 0
    · subst e; simpa [Env.cell, Addr.add, hb] using hc
    · simpa [Env.cell, Addr.add, e, hb] using hc⟩⟩

/-- Where the rest of a slice begins. -/
def tailAt (a : Option Addr) (l c sz : Nat) : Option Addr := if c = l then a else a.map (·.add (l * sz))
theorem SlE.tail {E : Env} {sz : Nat} {a : Option Addr} {n : Nat} {vals : List Value} (h : SlE E sz a n vals) {l c : Nat} (hl : l ≤ n) (hc : n ≤ c) : SlE E sz (tailAt a l c sz) (n - l) (vals.drop (l * sz)) := by
  obtain ⟨h1, h2⟩ := h
  refine ⟨by rw [List.length_drop, h1, Nat.sub_mul], ?_⟩
  unfold tailAt
  split
  · rename_i e
    have hn : n - l = 0 := by omega
    have hd : vals.drop (l * sz) = [] := List.drop_eq_nil_of_le (by rw [h1]; exact Nat.mul_le_mul_right _ (by omega))
    rw [hn, hd]
    rcases h2 with ⟨h3, _⟩ | ⟨p, h3, _, _⟩
    · exact .inl ⟨h3, rfl⟩
    · exact .inr ⟨p, h3, .inr rfl, fun j v hj => by cases hj⟩
  · rcases h2 with ⟨rfl, h4⟩ | ⟨p, rfl, h4, h5⟩
    · exact .inl ⟨rfl, by omega⟩
    · refine .inr ⟨p.add (l * sz), rfl, ?_, fun j v hj => ?_⟩
      · rcases h4 with h4 | h4
        · left
          unfold Addr.add
          split
          · exact h4
          · rfl
        · right; omega
      · rw [Addr.add_add]
        exact h5 _ _ (by rwa [List.getElem?_drop] at hj)
theorem SlE.head {E : Env} {sz : Nat} {a : Option Addr} {n : Nat} {vals : List Value} (h : SlE E sz a n vals) {i : Nat} (hi : i ≤ n) : SlE E sz a i (vals.take (i * sz)) := by
  obtain ⟨h1, h2⟩ := h
  refine ⟨by rw [List.length_take, h1]; exact Nat.min_eq_left (Nat.mul_le_mul_right _ hi), ?_⟩
  rcases h2 with ⟨h3, h4⟩ | ⟨p, h3, h4, h5⟩
  · exact .inl ⟨h3, by omega⟩
  · refine .inr ⟨p, h3, h4.imp id (fun h => by omega), fun j v hj => h5 j v ?_⟩
    rw [List.getElem?_take] at hj
    split at hj
    · exact hj
    · cases hj

section
variable {P : Program} {ro : Option Nat} {n : Nat} {ds : List Deferred} {fs : List (Nat × Value)} {E : Env} {L : List Res} {o : Oper}
theorem V_sl3 {t e : TypeId} {sz : Nat} {ag : Bool} {d : TypeDesc} {sz' : Nat} {ag' : Bool} [ht : Ty P t (.slice e) sz ag] [he : Ty P e d sz' ag'] {x y z : Operand} {a : Option Addr} {m c : Nat} {i j : Int}
    (ho : o.op = .slice t x none (some y) (some z)) (hx : ev fs x = some (.slice a m c)) (hy : ev fs y = some (.int .i64 i)) (hz : ev fs z = some (.int .i64 j)) (h0 : 0 ≤ i) (h1 : i ≤ j) (h2 : j ≤ c) : Val P o fs E L (.slice a i.toNat j.toNat) :=
  ⟨(by rw [ho]; intro c h; cases h), fun n ds a' w ha _ => by
    have hj : 0 ≤ j := by omega
    have h4 : max j 0 = j := by omega
    have hm : (a.map fun x => x.add 0) = a := by cases a <;> simp [Addr.add]
    simp [execOp, ho, ha.eval hx, ha.eval hy, ha.eval hz, Instr.sliceAt, Instr.slice, Instr.sliceBounds, Instr.sliceBound, ht.run, he.size, Result.andThen, asIntOf, h0, h1, h2, hj, h4, hm]⟩
theorem V_sl3n {t e : TypeId} {sz : Nat} {ag : Bool} {d : TypeDesc} {sz' : Nat} {ag' : Bool} [ht : Ty P t (.slice e) sz ag] [he : Ty P e d sz' ag'] {x y z : Operand} {a : Option Addr} {m c i j : Nat}
    (ho : o.op = .slice t x none (some y) (some z)) (hx : ev fs x = some (.slice a m c)) (hy : ev fs y = some (.int .i64 (i : Int))) (hz : ev fs z = some (.int .i64 (j : Int))) (h1 : i ≤ j) (h2 : j ≤ c) : Val P o fs E L (.slice a i j) :=
  V_sl3 ho hx hy hz (by omega) (by omega) (by omega)
theorem V_slTail {t e : TypeId} {sz : Nat} {ag : Bool} {d : TypeDesc} {sz' : Nat} {ag' : Bool} [ht : Ty P t (.slice e) sz ag] [he : Ty P e d sz' ag'] {x y : Operand} {a : Option Addr} {m c : Nat} {i : Int}
    (ho : o.op = .slice t x (some y) none none) (hx : ev fs x = some (.slice a m c)) (hy : ev fs y = some (.int .i64 i)) (h0 : 0 ≤ i) (h1 : i ≤ m) : Val P o fs E L (.slice (tailAt a i.toNat c sz') (m - i.toNat) (c - i.toNat)) :=
  ⟨(by rw [ho]; intro c h; cases h), fun n ds a' w ha _ => by
    simp [execOp, ho, ha.eval hx, ha.eval hy, Instr.sliceAt, Instr.slice, Instr.sliceBounds, Instr.sliceBound, ht.run, he.size, Result.andThen, asIntOf, h0, h1, tailAt]⟩
theorem V_slTail1 {t e : TypeId} {sz : Nat} {ag : Bool} {d : TypeDesc} {sz' : Nat} {ag' : Bool} [ht : Ty P t (.slice e) sz ag] [he : Ty P e d sz' ag'] {x y : Operand} {a : Option Addr} {m c : Nat}
    (ho : o.op = .slice t x (some y) none none) (hx : ev fs x = some (.slice a m c)) (hy : ev fs y = some (.int .i64 1)) (h1 : 1 ≤ m) : Val P o fs E L (.slice (tailAt a 1 c sz') (m - 1) (c - 1)) :=
  V_slTail ho hx hy (by omega) (by omega)
theorem V_slHead {t e : TypeId} {sz : Nat} {ag : Bool} {d : TypeDesc} {sz' : Nat} {ag' : Bool} [ht : Ty P t (.slice e) sz ag] [he : Ty P e d sz' ag'] {x y : Operand} {a : Option Addr} {m c : Nat} {i : Int}
    (ho : o.op = .slice t x none (some y) none) (hx : ev fs x = some (.slice a m c)) (hy : ev fs y = some (.int .i64 i)) (h0 : 0 ≤ i) (h1 : i ≤ c) : Val P o fs E L (.slice a i.toNat c) :=
  ⟨(by rw [ho]; intro c h; cases h), fun n ds a' w ha _ => by
    have hm : (a.map fun x => x.add 0) = a := by cases a <;> simp [Addr.add]
    simp [execOp, ho, ha.eval hx, ha.eval hy, Instr.sliceAt, Instr.slice, Instr.sliceBounds, Instr.sliceBound, ht.run, he.size, Result.andThen, asIntOf, h0, h1, hm]⟩
theorem V_fieldAddrE {t ft : TypeId} {x : Operand} {i off sz' : Nat} {d : TypeDesc} {sz : Nat} {ag : Bool} [hf : Fld P t i off ft] [hft : Ty P ft d sz ag] {a : Option Addr} {k m : Nat} {vals : List Value} (ho : o.op = .fieldAddr t x i) (hx : ev fs x = some (.pointer (some (elemAt a k)))) (hr : SlE E sz' a m vals) (hm : 0 < m) (hs : sz ≠ 0) :
    Val P o fs E L (.pointer (some (elemAt a (k + off)))) := by
  rcases hr.2 with ⟨_, h0⟩ | ⟨⟨b, o', sp⟩, rfl, h1, _⟩
  · omega
  · rcases h1 with h1 | h1
    · simp only at h1
      subst h1
      have e1 : elemAt (some ⟨b, o', none⟩) k = ⟨b, o' + k, none⟩ := addr_add b o' k
      have e2 : elemAt (some ⟨b, o', none⟩) (k + off) = ⟨b, o' + k + off, none⟩ := by rw [elemAt, Option.getD_some, addr_add, Nat.add_assoc]
      rw [e1] at hx
      rw [e2]
      exact V_fieldAddr ho hx hs
    · omega
theorem V_eqlN {t e : TypeId} {u : TypeId} {sz : Nat} {ag : Bool} [ht : Ty P t (.slice e) sz ag] {x y : Operand} {a : Option Addr} {m c : Nat} (ho : o.op = .binOp .eql t x y u) (hx : ev fs x = some (.slice a m c)) (hy : ev fs y = some (.slice none 0 0)) : Val P o fs E L (.bool a.isNone) :=
  V_bin ho hx hy fun w => ⟨by simp [eqGuard], by simp [binOp, run_equal_slice_nil (P := P) w t e a m c ht.und]⟩
theorem V_loadAS {t : TypeId} {x : Operand} {d : TypeDesc} {sz sz' : Nat} [ht : Ty P t d sz' true] {a : Option Addr} {k k' m : Nat} {vals vs : List Value} (ho : o.op = .load t x) (hx : ev fs x = some (.pointer (some (elemAt a k)))) (hr : Rd E L sz a m vals)
    (hv : (vals.drop k').take sz' = vs) (hk : k = k') (hs : vs.length = sz') : Val P o fs E L (.agg vs.toArray) :=
  V_loadA ho hx (hr.cells fun j v hj => by
    subst hv
    rw [List.getElem?_take] at hj
    split at hj
    · rw [hk, ← List.getElem?_drop]; exact hj
    · cases hj) hs
end

/-- A slice of the call's own is shut for good. -/
theorem G.freezeSl {n : Nat} {ds : List Deferred} {fs : List (Nat × Value)} {E : Env} {L L' : List Res} {X : Act → World → Prop} {e : TypeId} {sz k c : Nat} {a : Option Addr} {xs : List Value} (d : Del L (.sl e sz a k c xs) L')
    (h : ∀ E', E.Le E' → SlE E' sz a k xs → k ≤ c → G n ds fs E' L' X) : G n ds fs E L X :=
  G.freeze d fun E' hE hok => h E' hE (SlE.sl hok) (by
    obtain ⟨_, h2⟩ := hok
    rcases h2 with ⟨_, _, h3⟩ | ⟨_, _, _, _, h3, _⟩
    · omega
    · exact h3)

/-- append onto a full slice. -/
theorem run_append_fresh {P : Program} {w : World} {t ty e : TypeId} {z : Value} {sz bytes : Nat} (ht : P.underlying t = some (.slice e)) (hi : Inf P e z sz bytes)
    {a : Option Addr} {k : Nat} {xs : List Value} (hx : xs.length = k * sz) (ha : (a = none ∧ k = 0) ∨ ∃ p, a = some p ∧ ∀ j v, xs[j]? = some v → w.cell? (p.add j) = some v) {p : Addr} {m c : Nat} {ys : List Value} (hl : ys.length = m * sz)
    (hy : ∀ j v, ys[j]? = some v → w.cell? (p.add j) = some v) (hm : 0 < m) (hb : (k + m) * bytes ≤ 140737488355328) (h63 : k + m ≤ 9223372036854775807) :
    ∃ c' r, k + m ≤ c' ∧ (Builtin.append_ #[t, t] ty #[.slice a k k, .slice (some p) m c]).run P w = .ok (.slice (some ⟨w.heap.size, 0, none⟩) (k + m) c') (w.drew.alloc (.cells ((xs ++ ys).toArray ++ r) e)) := by
  obtain ⟨i, hi1, hi2, rfl, rfl, hi5⟩ := hi.inf
  rcases ha with ⟨rfl, rfl⟩ | ⟨q, rfl, hq⟩
  · have hx0 : xs = [] := List.eq_nil_of_length_eq_zero (by simpa using hx)
    subst hx0
    have hr := run_append_nil (P := P) w t ty e i z ht hi1 hi2 p m c ys hl hy (by omega) (by omega) (by simp only [Nat.zero_add] at hb; omega)
    have hge := grownCap_ge w m 0 e
    simp only [Nat.zero_add, List.nil_append]
    exact ⟨_, _, by omega, hr⟩
  · have hr := run_append_grow (P := P) w t ty e i z ht hi1 hi2 q k k xs hx hq p m c ys hl hy (by omega) (by omega) (growslice_fits (by omega) hb)
    have hge := grownCap_ge w (k + m) k e
    exact ⟨_, Builtin.zeroCells z.cells (grownCap w (k + m) k e - (k + m)), hge, by rw [show (xs ++ ys).toArray = xs.toArray ++ ys.toArray by simp]; exact hr⟩

section
variable {P : Program} {ro : Option Nat} {n : Nat} {ds : List Deferred} {fs : List (Nat × Value)} {E : Env} {L : List Res} {ops : Array Oper} {T : Act → Fam → Prop} {π : List (Nat × Nat)} {i : Nat} {o : Oper} {J : World → Prop}
theorem F_appendZ {s x : Operand} {t e : TypeId} {d : Nat} {sz' : Nat} {ag' : Bool} {z : Value} {sz bytes : Nat} [ht : Ty P t (.slice e) sz' ag'] [hi : Inf P e z sz bytes] {a a2 : Option Addr} {k m c2 : Nat} {xs ys : List Value}
    (h0 : ops[i]? = some o) (ho : o.op = .call { callee := .builtin .append, args := #[s, x], argTypes := #[t, t] }) (hs : ev fs s = some (.slice a k k)) (hx : ev fs x = some (.slice a2 m c2)) (hr1 : SlE E sz a k xs) (hr2 : SlE E sz a2 m ys)
    (hm : 0 < m) (hb : (k + m) * bytes ≤ 140737488355328) (h63 : k + m ≤ 9223372036854775807) (hd : o.dst = some d) (hn : Nat.blt d n = true) (hg : Goes ops fs o)
    (h : ∀ b c' E', E.Le E' → SlE E' sz (some ⟨b, 0, none⟩) (k + m) (xs ++ ys) → k + m ≤ c' → GF n ds ((d, .slice (some ⟨b, 0, none⟩) (k + m) c') :: fs) E' L (wpF P ops T J π)) : GF n ds fs E L (wpF P ops T J ((i, 3) :: π)) := fun a0 ha =>
  ⟨o, h0, by
    rw [if_pos (hg.wanted ha)]
    intro M w hw
    have q1 : ∃ p, a2 = some p ∧ ∀ j v, ys[j]? = some v → w.cell? (p.add j) = some v := by
      rcases hr2.2 with ⟨_, h3⟩ | ⟨p, h3, _, h5⟩
      · omega
      · exact ⟨p, h3, fun j v hj => Env.cell_st (h5 j v hj) hw⟩
    obtain ⟨p, rfl, hy⟩ := q1
    have q2 : (a = none ∧ k = 0) ∨ ∃ p, a = some p ∧ ∀ j v, xs[j]? = some v → w.cell? (p.add j) = some v := by
      rcases hr1.2 with h3 | ⟨p, h3, _, h5⟩
      · exact .inl h3
      · exact .inr ⟨p, h3, fun j v hj => Env.cell_st (h5 j v hj) hw⟩
    obtain ⟨c', r, hc', hrun⟩ := run_append_fresh (P := P) (w := w) (ty := o.type) ht.und hi hr1.1 q2 (c := c2) hr2.1 hy hm hb h63
    unfold Steps
    have e1 : (execOp a0.eval o).run P w = .ok (.value (.slice (some ⟨w.heap.size, 0, none⟩) (k + m) c')) (w.drew.alloc (.cells ((xs ++ ys).toArray ++ r) e)) := by
      simp [execOp, ho, resolve, invoke, builtin, ha.eval hs, ha.eval hx, hrun, Result.andThen]
    rw [e1]
    have s1 := (hw.drew (w.drawn + 1)).alloc (.cells ((xs ++ ys).toArray ++ r) e)
    obtain ⟨E', g1, g2, g3⟩ := s1.freeze
    refine ⟨Fam.st E' L, fun w ⟨M, h⟩ => ⟨M, St.weaken h g1⟩, g2, ?_⟩
    rw [hd]
    have g4 : SlE E' sz (some ⟨w.heap.size, 0, none⟩) (k + m) (xs ++ ys) := SlE.pre (r := r.toList) (T := e) (fz := (0, 0)) (by simpa using g3) (by rw [List.length_append, hr1.1, hr2.1, Nat.add_mul])
    exact h _ c' E' g1 g4 hc' _ (ha.put hn _)⟩
end
section
variable {P : Program} {ro : Option Nat} {n : Nat} {ds : List Deferred} {fs : List (Nat × Value)} {E : Env} {L : List Res} {ops : Array Oper} {Q : Exit → Act → World → Prop} {rest : List Oper} {o : Oper}
theorem G_lit0z {t e : TypeId} {td : TypeDesc} {sz sz' : Nat} {ag ag' : Bool} [ht : Ty P t (.slice e) sz ag] [he : Ty P e td sz' ag'] {z : Value} {zc : Array Value} [hz : Zero P e z zc] {d : Nat}
    (ho : o.op = .buildSlice t 0 #[]) (hd : o.dst = some d) (hn : Nat.blt d n = true) (hg : Goes ops fs o)
    (h : ∀ b, G n ds ((d, .slice (some ⟨b, 0, none⟩) 0 0) :: fs) E (.sl e sz' (some ⟨b, 0, none⟩) 0 0 [] :: L) (wpListIn (Wd ro) 0 P ops Q rest)) : G n ds fs E L (wpListIn (Wd ro) 0 P ops Q (o :: rest)) :=
  G_any hg (by rw [ho]; intro c h; cases h) fun a w ha hw => by
    have e1 : (execOp a.eval o).run P w = .ok (.value (.slice (some ⟨w.heap.size, 0, none⟩) 0 0)) (w.alloc (.cells #[] e)) := by
      simp [execOp, ho, Instr.buildSlice, ht.run, he.size, hz.zv, hz.zc, Result.andThen, newRow]
      rw [show Array.range 0 = #[] by decide]
      simp [Instr.fill]
    rw [e1]
    simp only [Oper.uponIn_value, hd]
    have hb := hw.alloc (.cells #[] e)
    refine h w.heap.size _ _ (ha.put hn _) ⟨hb.env, fun r hr => ?_, hb.nodup, hb.apart, hb.os, hb.out, hb.tape⟩
    rcases List.mem_cons.1 hr with rfl | hr
    · have h0 : (w.alloc (.cells #[] e)).heap[w.heap.size]? = some (.cells #[] e) := World.alloc_heap_new w _
      exact ⟨by simp, .inr ⟨_, _, rfl, h0, Nat.le_refl _, Nat.zero_le _, by simp, by simp⟩⟩
    · exact hb.own r (List.mem_cons_of_mem _ hr)
end
end Go.Proofs.Ytaoinojdijbhaaa
