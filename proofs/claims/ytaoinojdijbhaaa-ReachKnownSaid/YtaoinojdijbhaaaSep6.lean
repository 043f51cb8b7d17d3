/-
  The layer's rules for slices: reading, a slice that the call itself makes and appends to, bytes to a string.
-/
import Derived.Test.YtaoinojdijbhaaaSep5
import Derived.Laws.AppendOwn
import Derived.Laws.OwnMore
namespace Go.Proofs.Ytaoinojdijbhaaa
open Go.RowKit

def Env.cell (E : Env) (p : Addr) : Option Value := match E.heap p.block with
  | some (.cells cs _ _) => if p.spot.isSome then none else cs[p.off]?
  | _ => none
theorem Env.cell_st {E : Env} {L : List Res} {w : World} {p : Addr} {v : Value} (h : E.cell p = some v) (hw : St E L w) : w.cell? p = some v := by
  unfold Env.cell at h
  split at h
  · rename_i cs T fz hb
    have := hw.env _ _ hb
    simp only [World.cell?, this]; exact h
  · cases h
theorem Env.cell_mono {E E' : Env} {p : Addr} {v : Value} (h : E.cell p = some v) (hE : E.Le E') : E'.cell p = some v := by
  unfold Env.cell at h ⊢
  split at h
  · rename_i cs T fz hb
    rw [hE.1 _ _ hb]; exact h
  · cases h

/-- A slice that is E's: n elements of sz cells each, which hold these values. -/
def SlE (E : Env) (sz : Nat) (a : Option Addr) (n : Nat) (vals : List Value) : Prop :=
  vals.length = n * sz ∧ ((a = none ∧ n = 0) ∨ ∃ p, a = some p ∧ (p.spot = none ∨ n = 0) ∧ ∀ j v, vals[j]? = some v → E.cell (p.add j) = some v)
theorem SlE.mono {E E' : Env} {sz : Nat} {a : Option Addr} {n : Nat} {vals : List Value} (h : SlE E sz a n vals) (hE : E.Le E') : SlE E' sz a n vals :=
  ⟨h.1, h.2.imp id fun ⟨p, h1, h2, h3⟩ => ⟨p, h1, h2, fun j v hj => Env.cell_mono (h3 j v hj) hE⟩⟩
theorem SlE.nil {E : Env} {sz : Nat} : SlE E sz none 0 [] := ⟨by simp, .inl ⟨rfl, rfl⟩⟩

theorem SlE.lit {E : Env} {b : Nat} {l : List Value} {T : TypeId} {fz : Nat × Nat} {n sz : Nat} (h : (Res.blk b (.cells l.toArray T fz)).ok E.heap) (hl : l.length = n * sz) : SlE E sz (some ⟨b, 0, none⟩) n l :=
  ⟨hl, .inr ⟨_, rfl, .inl rfl, fun j v hj => by
    have hb : E.heap b = some (.cells l.toArray T fz) := h
    by_cases e : j = 0
    · subst e; simpa [Env.cell, Addr.add, hb] using hj
    · simpa [Env.cell, Addr.add, e, hb] using hj⟩⟩

/-- A slice that can be read. -/
def Rd (E : Env) (L : List Res) (sz : Nat) (a : Option Addr) (n : Nat) (vals : List Value) : Prop :=
  vals.length = n * sz ∧ ∀ w, St E L w → ((a = none ∧ n = 0) ∨ ∃ p, a = some p ∧ (p.spot = none ∨ n = 0) ∧ ∀ j v, vals[j]? = some v → w.cell? (p.add j) = some v)
theorem SlE.rd {E : Env} {L : List Res} {sz : Nat} {a : Option Addr} {n : Nat} {vals : List Value} (h : SlE E sz a n vals) : Rd E L sz a n vals :=
  ⟨h.1, fun _ hw => h.2.imp id fun ⟨p, h1, h2, h3⟩ => ⟨p, h1, h2, fun j v hj => Env.cell_st (h3 j v hj) hw⟩⟩

/-- A slice of the call's own: it may be appended to. -/
def slOk (e : TypeId) (sz : Nat) (a : Option Addr) (n cap : Nat) (xs : List Value) (h : Nat → Option Obj) : Prop :=
  xs.length = n * sz ∧ ((a = none ∧ cap = 0 ∧ n = 0) ∨
    ∃ g cur, a = some ⟨g, 0, none⟩ ∧ h g = some (.cells cur e (0, 0)) ∧ n ≤ cap ∧ cap ≤ maxLen ∧ cur.size = cap * sz ∧ cur.toList.take (n * sz) = xs)
def Res.sl (e : TypeId) (sz : Nat) (a : Option Addr) (n cap : Nat) (xs : List Value) : Res :=
  ⟨(a.map (·.block)).toList, slOk e sz a n cap xs, fun h h' hh ⟨h1, h2⟩ => ⟨h1, h2.imp id fun ⟨g, cur, e1, e2, e3⟩ => ⟨g, cur, e1, by rw [← hh g (by simp [e1])]; exact e2, e3⟩⟩⟩

theorem slOk.owns {e : TypeId} {sz : Nat} {a : Option Addr} {n cap : Nat} {xs : List Value} {w : World} (h : slOk e sz a n cap xs (fun b => w.heap[b]?)) : w.ownsRow 0 e sz (.slice a n cap) n xs := by
  obtain ⟨h1, h2⟩ := h
  refine ⟨h1, ?_⟩
  rcases h2 with ⟨rfl, rfl, rfl⟩ | ⟨g, cur, rfl, e2, e3, e4, e5, e6⟩
  · exact .inl ⟨rfl, rfl⟩
  · exact .inr ⟨g, cap, cur, rfl, Nat.zero_le _, e2, e3, e4, e5, e6⟩
theorem slOk.of {e : TypeId} {sz : Nat} {v : Value} {n : Nat} {xs : List Value} {w : World} (h : w.ownsRow 0 e sz v n xs) : ∃ a cap, v = .slice a n cap ∧ slOk e sz a n cap xs (fun b => w.heap[b]?) := by
  obtain ⟨h1, h2⟩ := h
  rcases h2 with ⟨rfl, rfl⟩ | ⟨g, cap, cur, rfl, _, e2, e3, e4, e5, e6⟩
  · exact ⟨none, 0, rfl, h1, .inl ⟨rfl, rfl, rfl⟩⟩
  · exact ⟨_, cap, rfl, h1, .inr ⟨g, cur, rfl, e2, e3, e4, e5, e6⟩⟩

theorem addr_add (b off j : Nat) : (⟨b, off, none⟩ : Addr).add j = ⟨b, off + j, none⟩ := by
  by_cases h : j = 0
  · subst h; simp [Addr.add]
  · simp [Addr.add, h]

theorem Rd.sl {E : Env} {L : List Res} {e : TypeId} {sz : Nat} {a : Option Addr} {n cap : Nat} {xs : List Value} (hm : Res.sl e sz a n cap xs ∈ L) (hl : xs.length = n * sz) : Rd E L sz a n xs := ⟨hl, fun w hw => by
  obtain ⟨_, h2⟩ := hw.own _ hm
  rcases h2 with ⟨rfl, _, rfl⟩ | ⟨g, cur, rfl, e2, _, _, e5, e6⟩
  · exact .inl ⟨rfl, rfl⟩
  · refine .inr ⟨_, rfl, .inl rfl, fun j v hj => ?_⟩
    rw [addr_add]
    have hj' : cur.toList[j]? = some v := by
      rw [← e6] at hj
      rw [List.getElem?_take] at hj
      split at hj
      · exact hj
      · cases hj
    simp only [World.cell?]
    simp only at e2
    rw [e2]
    simpa using hj'⟩
theorem Rd.blk {E : Env} {L : List Res} {sz b off : Nat} {cs : Array Value} {T : TypeId} {fz : Nat × Nat} {n : Nat} {vals : List Value} (hm : Res.blk b (.cells cs T fz) ∈ L) (hl : vals.length = n * sz) (hv : ∀ j v, vals[j]? = some v → cs[off + j]? = some v) :
    Rd E L sz (some ⟨b, off, none⟩) n vals := ⟨hl, fun w hw => .inr ⟨_, rfl, .inl rfl, fun j v hj => Cells.at (E := E) hm hv w hw j v hj⟩⟩
/-- A block whole, as a slice. -/
theorem Rd.lit {E : Env} {L : List Res} {b : Nat} {l : List Value} {T : TypeId} {fz : Nat × Nat} {n sz : Nat} (hm : Res.blk b (.cells l.toArray T fz) ∈ L) (hl : l.length = n * sz) : Rd E L sz (some ⟨b, 0, none⟩) n l :=
  Rd.blk hm hl fun j v hj => by simpa using hj

/-- The address of cell k of a slice. -/
def elemAt (a : Option Addr) (k : Nat) : Addr := (a.getD default).add k

theorem Rd.cell {E : Env} {L : List Res} {sz : Nat} {a : Option Addr} {n : Nat} {vals : List Value} (h : Rd E L sz a n vals) {k : Nat} {v : Value} (hv : vals[k]? = some v) : Cell E L (elemAt a k) v := fun w hw => by
  rcases h.2 w hw with ⟨_, rfl⟩ | ⟨p, rfl, _, h3⟩
  · have := h.1; simp at this; subst this; simp at hv
  · exact h3 k v hv
theorem Rd.cells {E : Env} {L : List Res} {sz : Nat} {a : Option Addr} {n : Nat} {vals : List Value} (h : Rd E L sz a n vals) {k : Nat} {vs : List Value} (hv : ∀ j v, vs[j]? = some v → vals[k + j]? = some v) : Cells E L (elemAt a k) vs := fun w hw j v hj => by
  rcases h.2 w hw with ⟨_, rfl⟩ | ⟨p, rfl, hp, h3⟩
  · have h1 := h.1; simp at h1; subst h1; have := hv j v hj; simp at this
  · have := h3 (k + j) v (hv j v hj)
    obtain ⟨b, off, sp⟩ := p
    rcases hp with hp | hp
    case inr => have h1 := h.1; subst hp; simp at h1; subst h1; have := hv j v hj; simp at this
    simp only at hp
    subst hp
    simp only [elemAt, Option.getD_some, addr_add] at this ⊢
    rw [Nat.add_assoc]; exact this

section rules
variable {P : Program} {ro : Option Nat} {n : Nat} {ds : List Deferred} {fs : List (Nat × Value)} {E : Env} {L : List Res} {ops : Array Oper} {Q : Exit → Act → World → Prop} {rest : List Oper} {o : Oper}

theorem V_lenS {x : Operand} {t : TypeId} {e : TypeId} {sz : Nat} {ag : Bool} [ht : Ty P t (.slice e) sz ag] {a : Option Addr} {m c : Nat} (ho : o.op = .call { callee := .builtin .len, args := #[x], argTypes := #[t] })
    (hx : ev fs x = some (.slice a m c)) : Val P o fs E L (.int .i64 m) :=
  ⟨(by rw [ho]; intro c h; cases h), fun n ds a' w ha _ => by simp [execOp, ho, ha.eval hx, resolve, invoke, builtin, Builtin.len_, ht.run, goInt]⟩

theorem V_idxAddr {x y : Operand} {t e : TypeId} {d : TypeDesc} {sz sz' : Nat} {ag ag' : Bool} [ht : Ty P t (.slice e) sz' ag'] [he : Ty P e d sz ag] {a : Option Addr} {m c : Nat} {k : IntKind} {i : Int} {vals : List Value}
    (ho : o.op = .indexAddr t x y) (hx : ev fs x = some (.slice a m c)) (hy : ev fs y = some (.int k i)) (hr : Rd E L sz a m vals) (h0 : 0 ≤ i) (h1 : i < m) : Val P o fs E L (.pointer (some (elemAt a (i.toNat * sz)))) :=
  ⟨(by rw [ho]; intro c h; cases h), fun n ds a' w ha hw => by
    rcases hr.2 w hw with ⟨_, rfl⟩ | ⟨p, rfl, hp, _⟩
    · omega
    · simp [execOp, ho, ha.eval hx, ha.eval hy, Instr.indexAt, asIntOf, ht.run, h0, h1, he.size, elemAt]⟩

theorem V_loadS {t : TypeId} {x : Operand} {d : TypeDesc} {sz sz' : Nat} [ht : Ty P t d sz' false] {a : Option Addr} {k k' m : Nat} {vals : List Value} {v : Value} (ho : o.op = .load t x) (hx : ev fs x = some (.pointer (some (elemAt a k)))) (hr : Rd E L sz a m vals)
    (hv : vals[k']? = some v) (hk : k = k') : Val P o fs E L v := V_load ho hx (hr.cell (by rw [hk]; exact hv))

/-- A slice of one element, written out. -/
theorem G_lit1 {t e : TypeId} {td : TypeDesc} {sz : Nat} {ag ag' : Bool} [ht : Ty P t (.slice e) sz ag] [he : Ty P e td 1 ag'] {z : Value} {zc : Value} [hz : Zero P e z #[zc]] {x : Operand} {v : Value} {d : Nat}
    (ho : o.op = .buildSlice t 1 #[(0, x)]) (hx : ev fs x = some v) (hc : v.cells = #[v]) (hd : o.dst = some d) (hn : Nat.blt d n = true) (hg : Goes ops fs o)
    (h : ∀ b, G n ds ((d, .slice (some ⟨b, 0, none⟩) 1 1) :: fs) E (.blk b (.cells #[v] e (0, 0)) :: L) (wpListIn (Wd ro) 0 P ops Q rest)) : G n ds fs E L (wpListIn (Wd ro) 0 P ops Q (o :: rest)) :=
  G_any hg (by rw [ho]; intro c h; cases h) fun a w ha hw => by
    have e1 : (execOp a.eval o).run P w = .ok (.value (.slice (some ⟨w.heap.size, 0, none⟩) 1 1)) (w.alloc (.cells #[v] e)) := by
      simp [execOp, ho, ha.eval hx, Instr.buildSlice, ht.run, he.size, hz.zv, hz.zc, Result.andThen, Instr.fill, hc, newRow]
      rw [show Array.range 1 = #[0] by decide]
      simp
    rw [e1]
    simp only [Oper.uponIn_value, hd]
    exact h w.heap.size _ _ (ha.put hn _) (hw.alloc _)

end rules

class Inf (P : Program) (e : TypeId) (z : outParam Value) (sz : outParam Nat) (by' : outParam Nat) : Prop where
  inf : ∃ i, P.info? e = some i ∧ i.zero = some z ∧ i.size = sz ∧ i.bytes = by' ∧ z.cells.size = sz

/-- append onto a slice of the call's own, from a row of cells. -/
theorem run_append_sl {P : Program} {w : World} {t ty e : TypeId} {z : Value} {sz bytes : Nat} (ht : P.underlying t = some (.slice e)) (hi : Inf P e z sz bytes)
    {a : Option Addr} {k cap : Nat} {xs : List Value} (hok : slOk e sz a k cap xs (fun b => w.heap[b]?)) {p : Addr} {m c : Nat} {ys : List Value} (hl : ys.length = m * sz)
    (hy : ∀ j v, ys[j]? = some v → w.cell? (p.add j) = some v) (h1 : ∀ v, v ∈ ys → v.oneCell' = true) (hb : (k + m) * bytes ≤ 140737488355328) (h63 : k + m ≤ maxLen) :
    ∃ a' c' w', (Builtin.append_ #[t, t] ty #[.slice a k cap, .slice (some p) m c]).run P w = .ok (.slice a' (k + m) c') w' ∧ slOk e sz a' (k + m) c' (xs ++ ys) (fun b => w'.heap[b]?) ∧
      w.heap.size ≤ w'.heap.size ∧ w'.os = w.os ∧ w'.output = w.output ∧ w'.tape = w.tape ∧ (∀ b, some b ≠ a.map (·.block) → b < w.heap.size → w'.heap[b]? = w.heap[b]?) ∧
      (∀ p', a' = some p' → (some p'.block = a.map (·.block)) ∨ w.heap.size = p'.block) := by
  obtain ⟨i, hi1, hi2, rfl, rfl, hi5⟩ := hi.inf
  have hsmall : k + m ≤ 9223372036854775807 := by simp only [maxLen] at h63; omega
  have hlen : (xs ++ ys).length = (k + m) * i.size := by rw [List.length_append, hok.1, hl, Nat.add_mul]
  have fresh : ∀ old, old < k + m → slOk e i.size (some ⟨w.heap.size, 0, none⟩) (k + m) (grownCap w (k + m) old e) (xs ++ ys)
      (fun b => (w.drew.alloc (.cells (xs.toArray ++ ys.toArray ++ Builtin.zeroCells z.cells (grownCap w (k + m) old e - (k + m))) e)).heap[b]?) := fun old _ => by
    have hge := grownCap_ge w (k + m) old e
    refine ⟨hlen, .inr ⟨w.heap.size, _, rfl, World.alloc_heap_new w.drew _, hge, grownCap_le_maxLen w (k + m) old e h63, ?_, ?_⟩⟩
    · simp only [Array.size_append, List.size_toArray, size_zeroCells, hi5, hok.1, hl, ← Nat.add_mul]
      congr 1
      omega
    · simp only [Array.toList_append, List.append_assoc]
      rw [← List.append_assoc, ← hlen]
      exact List.take_left
  have keep : ∀ (o : Obj) (b : Nat), b < w.heap.size → (w.drew.alloc o).heap[b]? = w.heap[b]? := fun o b hb => Below.heap_alloc w.drew o b hb
  rcases hok.2 with ⟨rfl, rfl, rfl⟩ | ⟨g, cur, rfl, hg, hnc, hcm, hcs, htake⟩
  · have hx : xs = [] := List.eq_nil_of_length_eq_zero (by simpa using hok.1)
    subst hx
    by_cases hm : m = 0
    · subst hm
      have hn : ys = [] := List.eq_nil_of_length_eq_zero (by simpa using hl)
      subst hn
      refine ⟨none, 0, w, ?_, ⟨by simp, .inl ⟨rfl, rfl, rfl⟩⟩, Nat.le_refl _, rfl, rfl, rfl, fun _ _ _ => rfl, fun p' h => by cases h⟩
      simp [Builtin.append_, run_underlying ht, sizeOf, typeInfo, hi1, Builtin.lenOf, Builtin.firstCells, loadCells, loadCellsFrom]
    · have hr := run_append_nil (P := P) w t ty e i z ht hi1 hi2 p m c ys hl hy (by omega) (by omega) (by simp only [Nat.zero_add] at hb; omega)
      have hf := fresh 0 (by omega)
      simp only [Nat.zero_add, List.nil_append, Array.empty_append] at hf ⊢
      exact ⟨_, _, _, hr, hf, by simp, rfl, rfl, rfl, fun b _ hb => keep _ b hb, fun p' h => by cases h; exact .inr rfl⟩
  · by_cases hroom : k + m ≤ cap
    · have hfit : k * i.size + ys.length ≤ cur.size := by rw [hl, hcs, ← Nat.add_mul]; exact Nat.mul_le_mul_right _ hroom
      have hr := run_append_room (P := P) w t ty e i ht hi1 g k cap cur hg p m c ys hl hy h1 hroom hfit
      refine ⟨_, _, _, hr, ⟨hlen, .inr ⟨g, _, rfl, setRow_heap w g cur _ e _ hg, hroom, hcm, ?_, ?_⟩⟩, by simp, rfl, rfl, rfl, fun b hne _ => setRow_other w g b _ (fun e => hne (by simp [e])), fun p' h => by cases h; exact .inl rfl⟩
      · simp only [List.size_toArray, List.length_append, List.length_take, List.length_drop, Array.length_toList]
        omega
      · rw [htake, ← hlen]
        exact List.take_left
    · have holds : ∀ j u, xs[j]? = some u → w.cell? ((⟨g, 0, none⟩ : Addr).add j) = some u := hok.owns.cells (g := g) rfl
      have hr := run_append_grow (P := P) w t ty e i z ht hi1 hi2 ⟨g, 0, none⟩ k cap xs hok.1 holds p m c ys hl hy (by omega) (by omega) (growslice_fits (by omega) hb)
      exact ⟨_, _, _, hr, fresh cap (by omega), by simp, rfl, rfl, rfl, fun b _ hb => keep _ b hb, fun p' h => by cases h; exact .inr rfl⟩

theorem run_append_sl0 {P : Program} {w : World} {t ty e : TypeId} {z : Value} {sz bytes : Nat} (ht : P.underlying t = some (.slice e)) (hi : Inf P e z sz bytes)
    {a : Option Addr} {k cap : Nat} {xs : List Value} (hok : slOk e sz a k cap xs (fun b => w.heap[b]?)) {c : Nat} :
    (Builtin.append_ #[t, t] ty #[.slice a k cap, .slice none 0 c]).run P w = .ok (.slice a k cap) w := by
  obtain ⟨i, hi1, hi2, rfl, rfl, hi5⟩ := hi.inf
  rcases hok.2 with ⟨rfl, rfl, rfl⟩ | ⟨g, cur, rfl, _, hnc, _⟩
  · simp [Builtin.append_, run_underlying ht, sizeOf, typeInfo, hi1, Builtin.lenOf, Builtin.firstCells]
  · simp [Builtin.append_, run_underlying ht, sizeOf, typeInfo, hi1, Builtin.lenOf, Builtin.firstCells, hnc, storeCells]

section rules
variable {P : Program} {ro : Option Nat} {n : Nat} {ds : List Deferred} {fs : List (Nat × Value)} {E : Env} {L : List Res} {ops : Array Oper} {Q : Exit → Act → World → Prop} {rest : List Oper} {o : Oper}

/-- A nil slice is the call's own, if it likes. -/
theorem G.nilSl {X : Act → World → Prop} (e : TypeId) (sz : Nat) (h : G n ds fs E (.sl e sz none 0 0 [] :: L) X) : G n ds fs E L X := fun a w ha hw =>
  h a w ha ⟨hw.env, fun r hr => by
    rcases List.mem_cons.1 hr with rfl | hr
    · exact ⟨by simp, .inl ⟨rfl, rfl, rfl⟩⟩
    · exact hw.own r hr, by simpa [Res.sl] using hw.nodup, fun b hb => hw.apart b (by simpa [Res.sl] using hb), hw.os, hw.out, hw.tape⟩

/-- 'append(s, ys...)', s of the call's own. -/
theorem G_append {s x : Operand} {t e : TypeId} {d : Nat} {sz' : Nat} {ag' : Bool} {z : Value} {sz bytes : Nat} [ht : Ty P t (.slice e) sz' ag'] [hi : Inf P e z sz bytes] {a a2 : Option Addr} {k cap m c2 : Nat} {xs ys : List Value} {L' : Option Addr → Nat → List Res}
    (ho : o.op = .call { callee := .builtin .append, args := #[s, x], argTypes := #[t, t] }) (hs : ev fs s = some (.slice a k cap)) (hx : ev fs x = some (.slice a2 m c2)) (hr : Rd E L sz a2 m ys) (h1 : ∀ v, v ∈ ys → v.oneCell' = true)
    (hb : (k + m) * bytes ≤ 140737488355328) (h63 : k + m ≤ 9223372036854775807) (hd : o.dst = some d) (hn : Nat.blt d n = true) (hg : Goes ops fs o)
    (u : ∀ a' c', Upd L (.sl e sz a k cap xs) (.sl e sz a' (k + m) c' (xs ++ ys)) (L' a' c'))
    (h : ∀ a' c', G n ds ((d, .slice a' (k + m) c') :: fs) E (L' a' c') (wpListIn (Wd ro) 0 P ops Q rest)) : G n ds fs E L (wpListIn (Wd ro) 0 P ops Q (o :: rest)) :=
  G_any hg (by rw [ho]; intro c h; cases h) fun a0 w ha hw => by
    have hok : slOk e sz a k cap xs (fun b => w.heap[b]?) := hw.own _ (u none 0).mem
    have fin : ∀ a' c' w', (Builtin.append_ #[t, t] o.type #[.slice a k cap, .slice a2 m c2]).run P w = .ok (.slice a' (k + m) c') w' → slOk e sz a' (k + m) c' (xs ++ ys) (fun b => w'.heap[b]?) →
        w.heap.size ≤ w'.heap.size → w'.os = w.os → w'.output = w.output → w'.tape = w.tape → (∀ b, some b ≠ a.map (·.block) → b < w.heap.size → w'.heap[b]? = w.heap[b]?) →
        (∀ p', a' = some p' → (some p'.block = a.map (·.block)) ∨ w.heap.size = p'.block) →
        o.uponIn (Wd ro) 0 P a0 (wpListIn (Wd ro) 0 P ops Q rest) Q ((execOp a0.eval o).run P w) := by
      intro a' c' w' hrun hok' hsz hos hout htape hkeep hnew
      have e1 : (execOp a0.eval o).run P w = .ok (.value (.slice a' (k + m) c')) w' := by
        simp [execOp, ho, resolve, invoke, builtin, ha.eval hs, ha.eval hx, hrun, Result.andThen]
      rw [e1]
      simp only [Oper.uponIn_value, hd]
      refine h a' c' _ _ (ha.put hn _) (hw.update (u a' c') hsz (fun b hb' hlt => hkeep b (fun he => hb' ?_) hlt) hok' (fun b hb' => ?_) ?_ hos hout htape)
      · cases a with
        | none => simp at he
        | some p => simp at he; subst he; simp [Res.sl]
      · cases a' with
        | none => simp [Res.sl] at hb'
        | some p' =>
          simp [Res.sl] at hb'
          subst hb'
          have hlt : p'.block < w'.heap.size := by
            rcases hok'.2 with ⟨h, _⟩ | ⟨g, cur, h, hg', _⟩
            · cases h
            · cases h; exact (Array.getElem?_eq_some_iff.1 hg').1
          rcases hnew _ rfl with h' | h'
          · left
            cases a with
            | none => simp at h'
            | some p => simp at h'; exact ⟨by simp [Res.sl, h'], hlt⟩
          · exact .inr ⟨by omega, hlt⟩
      · cases a' <;> simp [Res.sl]
    rcases hr.2 w hw with ⟨rfl, rfl⟩ | ⟨p, rfl, _, hy⟩
    · have hys : ys = [] := List.eq_nil_of_length_eq_zero (by simpa using hr.1)
      subst hys
      refine fin a cap w (by simpa using run_append_sl0 (ty := o.type) ht.und hi hok) (by simpa using hok) (Nat.le_refl _) rfl rfl rfl (fun _ _ _ => rfl) (fun p' h => .inl (by simp [h]))
    · obtain ⟨a', c', w', r1, r2, r3, r4, r5, r6, r7, r8⟩ := run_append_sl (ty := o.type) ht.und hi hok (c := c2) hr.1 hy h1 hb (by simp only [maxLen]; omega)
      exact fin a' c' w' r1 r2 r3 r4 r5 r6 r7 r8

theorem push_foldl (ns : List UInt8) : ∀ (acc : ByteArray), (ns.map (fun b : UInt8 => (b.toNat : Int))).foldl (fun (r : ByteArray) n => r.push (UInt8.ofNat n.toNat)) acc = acc ++ S ns := by
  induction ns with
  | nil => intro acc; apply ByteArray.ext; simp [S]
  | cons b ns ih =>
    intro acc
    simp only [List.map_cons, List.foldl_cons, Int.toNat_natCast]
    rw [ih]
    apply ByteArray.ext
    rw [ByteArray.data_append, ByteArray.data_append]
    apply Array.ext'
    simp [S]

/-- 'string(bytes)'. -/
theorem V_b2s {x : Operand} {t t' e : TypeId} {sz sz' sz2 : Nat} {ag ag' ag2 : Bool} [ht : Ty P t (.slice e) sz ag] [ht' : Ty P t' .string sz' ag'] [he : Ty P e (.int .u8) sz2 ag2] {a : Option Addr} {m c : Nat} {l : List UInt8}
    (ho : o.op = .convert t t' x) (hx : ev fs x = some (.slice a m c)) (hr : Rd E L 1 a m (l.map fun b => .int .u8 b.toNat)) : Val P o fs E L (.string (S l)) :=
  ⟨(by rw [ho]; intro c h; cases h), fun n ds a' w ha hw => by
    have e1 : (Conv.bytesToString (.slice a m c)).run P w = .ok (.string (S l)) w := by
      rcases hr.2 w hw with ⟨rfl, rfl⟩ | ⟨p, rfl, _, h3⟩
      · have := hr.1; simp at this; subst this; rfl
      · have hm : m = l.length := by have := hr.1; simp at this; exact this.symm
        have hlc := run_loadCells_list (P := P) (w := w) p (l.map fun b => .int .u8 b.toNat) h3
        have := run_bytesToString (P := P) w p m c (l.map fun b : UInt8 => (b.toNat : Int)) (by rw [hm]; simpa [Function.comp_def] using hlc)
        rw [this, push_foldl]
        congr 2
    simp [execOp, ho, ha.eval hx, run_convert_bytes_string w t t' e a m c ht.und he.und ht'.und, e1, Result.andThen]⟩

end rules
end Go.Proofs.Ytaoinojdijbhaaa
