/-
  The layer's rules for memory: blocks that the call itself makes.
-/
import Derived.Test.YtaoinojdijbhaaaSep3
namespace Go.Proofs.Ytaoinojdijbhaaa
open Go.RowKit

section rules
variable {P : Program} {ro : Option Nat} {n : Nat} {ds : List Deferred} {fs : List (Nat × Value)} {E : Env} {L : List Res} {ops : Array Oper} {Q : Exit → Act → World → Prop} {rest : List Oper} {o : Oper}

/-- A cell that is known. -/
def Cell (E : Env) (L : List Res) (p : Addr) (v : Value) : Prop := ∀ w, St E L w → w.cell? p = some v
/-- A row of cells that is known. -/
def Cells (E : Env) (L : List Res) (p : Addr) (vs : List Value) : Prop := ∀ w, St E L w → ∀ j v, vs[j]? = some v → w.cell? (p.add j) = some v

theorem Cell.own {b off : Nat} {cs : Array Value} {T : TypeId} {fz : Nat × Nat} {v : Value} (hm : Res.blk b (.cells cs T fz) ∈ L) (hv : cs.toList[off]? = some v) : Cell E L ⟨b, off, none⟩ v := fun w hw => by
  have hv' : cs[off]? = some v := by simpa using hv
  have : w.heap[b]? = some (.cells cs T fz) := hw.own _ hm
  simp [World.cell?, this, hv']
theorem Cell.own1 {b : Nat} {T : TypeId} {fz : Nat × Nat} {v : Value} (hm : Res.blk b (.cells #[v] T fz) ∈ L) : Cell E L ⟨b, 0, none⟩ v := Cell.own hm rfl
theorem Cell.env {b off : Nat} {cs : Array Value} {T : TypeId} {fz : Nat × Nat} {v : Value} (hb : E.heap b = some (.cells cs T fz)) (hv : cs[off]? = some v) : Cell E L ⟨b, off, none⟩ v := fun w hw => by
  simp [World.cell?, hw.env _ _ hb, hv]
theorem Cells.own {b : Nat} {cs : Array Value} {T : TypeId} {fz : Nat × Nat} (hm : Res.blk b (.cells cs T fz) ∈ L) : Cells E L ⟨b, 0, none⟩ cs.toList := fun w hw j v hv => by
  have : w.heap[b]? = some (.cells cs T fz) := hw.own _ hm
  have hv' : cs[j]? = some v := by simpa using hv
  by_cases h : j = 0
  · subst h; simp [World.cell?, Addr.add, this, hv']
  · simp [World.cell?, Addr.add, h, this, hv']
theorem Cells.at {b off : Nat} {cs : Array Value} {T : TypeId} {fz : Nat × Nat} {vs : List Value} (hm : Res.blk b (.cells cs T fz) ∈ L) (hv : ∀ j v, vs[j]? = some v → cs[off + j]? = some v) : Cells E L ⟨b, off, none⟩ vs := fun w hw j v hj => by
  have : w.heap[b]? = some (.cells cs T fz) := hw.own _ hm
  have hv' := hv j v hj
  by_cases h : j = 0
  · subst h; simp at hv'; simp [World.cell?, Addr.add, this, hv']
  · simp [World.cell?, Addr.add, h, this, hv']

theorem run_loadVar1 {t : TypeId} {d : TypeDesc} {sz : Nat} [ht : Ty P t d sz false] {p : Addr} {v : Value} (hc : Cell E L p v) {w : World} (hw : St E L w) : (loadVar t p).run P w = .ok v w := by
  have := hc w hw
  simp [loadVar, ht.agg', Result.andThen, this]
theorem run_loadVarA {t : TypeId} {d : TypeDesc} {sz : Nat} [ht : Ty P t d sz true] {p : Addr} {vs : List Value} (hc : Cells E L p vs) (hs : vs.length = sz) {w : World} (hw : St E L w) : (loadVar t p).run P w = .ok (.agg vs.toArray) w := by
  have := run_loadCells_list (P := P) (w := w) p vs (hc w hw)
  simp only [loadVar, Sem.run_bind, ht.agg', Result.andThen, if_true, ht.size, ← hs, this, Sem.run_pure]

theorem V_load {t : TypeId} {x : Operand} {d : TypeDesc} {sz : Nat} [ht : Ty P t d sz false] {p : Addr} {v : Value} (ho : o.op = .load t x) (hx : ev fs x = some (.pointer (some p))) (hc : Cell E L p v) : Val P o fs E L v :=
  ⟨(by rw [ho]; intro c h; cases h), fun n ds a w ha hw => by simp [execOp, ho, ha.eval hx, Instr.loadAt, Instr.sureAddr, run_loadVar1 hc hw]⟩
theorem V_loadA {t : TypeId} {x : Operand} {d : TypeDesc} {sz : Nat} [ht : Ty P t d sz true] {p : Addr} {vs : List Value} (ho : o.op = .load t x) (hx : ev fs x = some (.pointer (some p))) (hc : Cells E L p vs) (hs : vs.length = sz) : Val P o fs E L (.agg vs.toArray) :=
  ⟨(by rw [ho]; intro c h; cases h), fun n ds a w ha hw => by simp [execOp, ho, ha.eval hx, Instr.loadAt, Instr.sureAddr, run_loadVarA hc hs hw]⟩

theorem Rv.cell1 {t : Nat} {ty : TypeId} {d : TypeDesc} {sz : Nat} [ht : Ty P ty d sz false] {p : Addr} {v : Value} (hx : look fs t = some (.pointer (some p))) (hc : Cell E L p v) : Rv P fs E L (.cell t ty) v :=
  ⟨p, hx, fun _ hw => run_loadVar1 hc hw⟩
theorem Rv.cellA {t : Nat} {ty : TypeId} {d : TypeDesc} {sz : Nat} [ht : Ty P ty d sz true] {p : Addr} {vs : List Value} (hx : look fs t = some (.pointer (some p))) (hc : Cells E L p vs) (hs : vs.length = sz) : Rv P fs E L (.cell t ty) (.agg vs.toArray) :=
  ⟨p, hx, fun _ hw => run_loadVarA hc hs hw⟩

/-- A new block. -/
theorem G_alloc {t : TypeId} {d : Nat} {z : Value} {cs : Array Value} [hz : Zero P t z cs] (ho : o.op = .alloc t) (hd : o.dst = some d) (hn : Nat.blt d n = true) (hg : Goes ops fs o)
    (h : ∀ b, G n ds ((d, .pointer (some ⟨b, 0, none⟩)) :: fs) E (.blk b (.cells cs t (0, 0)) :: L) (wpListIn (Wd ro) 0 P ops Q rest)) : G n ds fs E L (wpListIn (Wd ro) 0 P ops Q (o :: rest)) :=
  G_any hg (by rw [ho]; intro c h; cases h) fun a w ha hw => by
    have e : (execOp a.eval o).run P w = .ok (.value (.pointer (some ⟨w.heap.size, 0, none⟩))) (w.alloc (.cells cs t)) := by
      simp [execOp, ho, Instr.alloc, hz.zv, Result.andThen, newVar, newRow, hz.zc]
    rw [e]
    simp only [Oper.uponIn_value, hd]
    exact h w.heap.size _ _ (ha.put hn _) (hw.alloc _)

theorem G_box {t : TypeId} {x : Operand} {d : Nat} {v : Value} {cs : Array Value} (ho : o.op = .box t x) (hx : ev fs x = some v) (hc : v.cells = cs) (hd : o.dst = some d) (hn : Nat.blt d n = true) (hg : Goes ops fs o)
    (h : ∀ b, G n ds ((d, .pointer (some ⟨b, 0, none⟩)) :: fs) E (.blk b (.cells cs t (0, 0)) :: L) (wpListIn (Wd ro) 0 P ops Q rest)) : G n ds fs E L (wpListIn (Wd ro) 0 P ops Q (o :: rest)) :=
  G_any hg (by rw [ho]; intro c h; cases h) fun a w ha hw => by
    have e : (execOp a.eval o).run P w = .ok (.value (.pointer (some ⟨w.heap.size, 0, none⟩))) (w.alloc (.cells cs t)) := by
      simp [execOp, ho, ha.eval hx, Instr.box, newVar, newRow, hc]
    rw [e]
    simp only [Oper.uponIn_value, hd]
    exact h w.heap.size _ _ (ha.put hn _) (hw.alloc _)
theorem G_box1 {t : TypeId} {x : Operand} {d : Nat} {v : Value} (ho : o.op = .box t x) (hx : ev fs x = some v) (hc : v.cells = #[v]) (hd : o.dst = some d) (hn : Nat.blt d n = true) (hg : Goes ops fs o)
    (h : ∀ b, G n ds ((d, .pointer (some ⟨b, 0, none⟩)) :: fs) E (.blk b (.cells #[v] t (0, 0)) :: L) (wpListIn (Wd ro) 0 P ops Q rest)) : G n ds fs E L (wpListIn (Wd ro) 0 P ops Q (o :: rest)) :=
  G_box ho hx hc hd hn hg h
theorem G_boxA {t : TypeId} {x : Operand} {d : Nat} {cs : Array Value} (ho : o.op = .box t x) (hx : ev fs x = some (.agg cs)) (hd : o.dst = some d) (hn : Nat.blt d n = true) (hg : Goes ops fs o)
    (h : ∀ b, G n ds ((d, .pointer (some ⟨b, 0, none⟩)) :: fs) E (.blk b (.cells cs t (0, 0)) :: L) (wpListIn (Wd ro) 0 P ops Q rest)) : G n ds fs E L (wpListIn (Wd ro) 0 P ops Q (o :: rest)) :=
  G_box ho hx rfl hd hn hg h

/-- Stores into a row, one behind the other. -/
def putAll (cs : Array Value) (off : Nat) : List Value → Array Value
  | [] => cs
  | v :: vs => putAll (cs.setIfInBounds off v) (off + 1) vs

theorem setCell_putObj {w : World} {b off : Nat} {cs : Array Value} {T : TypeId} {fz : Nat × Nat} {v : Value} (h : w.heap[b]? = some (.cells cs T fz)) : w.setCell ⟨b, off, none⟩ v = w.putObj b (.cells (cs.setIfInBounds off v) T fz) := by
  obtain ⟨hlt, he⟩ := Array.getElem?_eq_some_iff.1 h
  unfold World.setCell World.putObj
  congr 1
  apply Array.ext
  · simp
  · intro i h1 h2
    by_cases e : b = i
    · subst e
      rw [Array.getElem_modify_self, Array.getElem_setIfInBounds_self, he]
      rfl
    · rw [Array.getElem_modify_of_ne e, Array.getElem_setIfInBounds_ne (by simpa using h1) e]

theorem putObj_putObj (w : World) (b : Nat) (o o' : Obj) : (w.putObj b o).putObj b o' = w.putObj b o' := by
  unfold World.putObj
  congr 1
  simp

theorem run_store1 {w : World} {b off : Nat} {cs : Array Value} {T : TypeId} {v : Value} (h : w.heap[b]? = some (.cells cs T (0, 0))) (hlt : off < cs.size) (hv : v.oneCell' = true) :
    (store ⟨b, off, none⟩ v).run P w = .ok () (w.putObj b (.cells (cs.setIfInBounds off v) T (0, 0))) := by
  rw [run_store P w _ v _ hv]
  have hc : w.cell? ⟨b, off, none⟩ = some cs[off] := by simp [World.cell?, h, hlt]
  have hf : w.frozen? ⟨b, off, none⟩ = false := by simp [World.frozen?, h]
  simp [hc, hf, setCell_putObj h]

theorem run_storeCells {b off : Nat} {T : TypeId} : ∀ (vs : List Value) (cs : Array Value) (i : Nat) (w : World), w.heap[b]? = some (.cells cs T (0, 0)) → off + i + vs.length ≤ cs.size → (∀ v, v ∈ vs → v.oneCell' = true) →
    (storeCells ⟨b, off, none⟩ vs i).run P w = .ok () (w.putObj b (.cells (putAll cs (off + i) vs) T (0, 0))) := by
  intro vs
  induction vs with
  | nil =>
    intro cs i w h _ _
    have : w.putObj b (.cells cs T (0, 0)) = w := by
      unfold World.putObj
      obtain ⟨hlt, he⟩ := Array.getElem?_eq_some_iff.1 h
      congr 1
      apply Array.ext
      · simp
      · intro j h1 h2
        by_cases e : b = j
        · subst e; rw [Array.getElem_setIfInBounds_self, he]
        · rw [Array.getElem_setIfInBounds_ne (by simpa using h1) e]
    rw [putAll, this]; rfl
  | cons v vs ih =>
    intro cs i w h hl hv
    simp only [List.length_cons] at hl
    have ea : (⟨b, off, none⟩ : Addr).add i = ⟨b, off + i, none⟩ := by
      by_cases e : i = 0
      · subst e; simp [Addr.add]
      · simp [Addr.add, e]
    have hlt := (Array.getElem?_eq_some_iff.1 h).1
    have hst := run_store1 (P := P) (off := off + i) (v := v) h (by omega) (hv v (.head _))
    simp only [storeCells, Sem.run_bind, ea, hst, Result.andThen]
    rw [ih (cs.setIfInBounds (off + i) v) (i + 1) _ (World.putObj_heap_same hlt) (by simp; omega) (fun u hu => hv u (.tail _ hu)), putObj_putObj]
    rfl

theorem G_storeAll {t : TypeId} {x y : Operand} {b off : Nat} {v : Value} {vs : List Value} {d : TypeDesc} {ag : Bool} {T : TypeId} {cs cs' : Array Value} {L' : List Res} {sz : Nat} [ht : Ty P t d sz ag]
    (ho : o.op = .store t x y) (hx : ev fs x = some (.pointer (some ⟨b, off, none⟩))) (hy : ev fs y = some v) (hc : v.cells = vs.toArray) (hs : vs.length = sz) (hone : ∀ v, v ∈ vs → v.oneCell' = true)
    (hd : o.dst = none) (hg : Goes ops fs o) (u : Upd L (.blk b (.cells cs T (0, 0))) (.blk b (.cells cs' T (0, 0))) L') (hl : off + vs.length ≤ cs.size) (hcs : putAll cs off vs = cs')
    (h : G n ds fs E L' (wpListIn (Wd ro) 0 P ops Q rest)) : G n ds fs E L (wpListIn (Wd ro) 0 P ops Q (o :: rest)) :=
  G_any hg (by rw [ho]; intro c h; cases h) fun a w ha hw => by
    have hb : w.heap[b]? = some (.cells cs T (0, 0)) := hw.own _ u.mem
    have e : (execOp a.eval o).run P w = .ok .skip (w.putObj b (.cells cs' T (0, 0))) := by
      have := run_storeCells (P := P) (b := b) (off := off) (T := T) vs cs 0 w hb (by simpa using hl) hone
      simp only [Nat.add_zero, hcs] at this
      simp [execOp, ho, ha.eval hx, ha.eval hy, Instr.storeAt, Instr.sureAddr, storeVar, ht.size, Result.andThen, hc, hs, this]
    rw [e]
    simp only [Oper.uponIn_skip, hd]
    exact h _ _ ha (hw.put u)

/-- A store of a whole variable of one cell. -/
theorem G_store1 {t : TypeId} {x y : Operand} {b : Nat} {v u : Value} {d : TypeDesc} {T : TypeId} {L' : List Res} {ag : Bool} [ht : Ty P t d 1 ag]
    (ho : o.op = .store t x y) (hx : ev fs x = some (.pointer (some ⟨b, 0, none⟩))) (hy : ev fs y = some v) (hc : v.cells = #[v]) (hone : v.oneCell' = true)
    (hd : o.dst = none) (hg : Goes ops fs o) (hu : Upd L (.blk b (.cells #[u] T (0, 0))) (.blk b (.cells #[v] T (0, 0))) L')
    (h : G n ds fs E L' (wpListIn (Wd ro) 0 P ops Q rest)) : G n ds fs E L (wpListIn (Wd ro) 0 P ops Q (o :: rest)) :=
  G_storeAll (vs := [v]) ho hx hy hc rfl (by simpa using hone) hd hg hu (by simp) (by simp [putAll]) h
/-- A store of one cell into a row. -/
theorem G_storeAt {t : TypeId} {x y : Operand} {b off : Nat} {v : Value} {d : TypeDesc} {T : TypeId} {cs cs' : Array Value} {L' : List Res} {ag : Bool} [ht : Ty P t d 1 ag]
    (ho : o.op = .store t x y) (hx : ev fs x = some (.pointer (some ⟨b, off, none⟩))) (hy : ev fs y = some v) (hc : v.cells = #[v]) (hone : v.oneCell' = true)
    (hd : o.dst = none) (hg : Goes ops fs o) (hu : Upd L (.blk b (.cells cs T (0, 0))) (.blk b (.cells cs' T (0, 0))) L') (hl : off < cs.size) (hcs : cs.setIfInBounds off v = cs')
    (h : G n ds fs E L' (wpListIn (Wd ro) 0 P ops Q rest)) : G n ds fs E L (wpListIn (Wd ro) 0 P ops Q (o :: rest)) :=
  G_storeAll (vs := [v]) ho hx hy hc rfl (by simpa using hone) hd hg hu (by simpa using Nat.succ_le_of_lt hl) (by simp [putAll, hcs]) h

theorem putAll_toList (vs : List Value) : ∀ (cs : Array Value) (off : Nat), off + vs.length ≤ cs.size → (putAll cs off vs).toList = cs.toList.take off ++ vs ++ cs.toList.drop (off + vs.length) := by
  induction vs with
  | nil => intro cs off _; simp [putAll]
  | cons v vs ih =>
    intro cs off hl
    simp only [List.length_cons] at hl
    simp only [putAll]
    rw [ih _ _ (by simp; omega)]
    simp only [Array.toList_setIfInBounds, List.length_cons]
    rw [List.take_succ_eq_append_getElem (by simp; omega), List.take_set_of_le (by omega), List.drop_set_of_lt (by omega)]
    simp [show off + 1 + vs.length = off + (vs.length + 1) by omega]
/-- A store of a whole struct. -/
theorem G_storeA {t : TypeId} {x y : Operand} {b : Nat} {vs : List Value} {d : TypeDesc} {T : TypeId} {cs : Array Value} {L' : List Res} {sz : Nat} {ag : Bool} [ht : Ty P t d sz ag]
    (ho : o.op = .store t x y) (hx : ev fs x = some (.pointer (some ⟨b, 0, none⟩))) (hy : ev fs y = some (.agg vs.toArray)) (hs : vs.length = sz) (hone : ∀ v, v ∈ vs → v.oneCell' = true)
    (hd : o.dst = none) (hg : Goes ops fs o) (hu : Upd L (.blk b (.cells cs T (0, 0))) (.blk b (.cells vs.toArray T (0, 0))) L') (hl : cs.size = vs.length)
    (h : G n ds fs E L' (wpListIn (Wd ro) 0 P ops Q rest)) : G n ds fs E L (wpListIn (Wd ro) 0 P ops Q (o :: rest)) :=
  G_storeAll ho hx hy rfl hs hone hd hg hu (by omega) (by
    apply Array.toList_inj.1
    rw [putAll_toList _ _ _ (by omega)]
    simp [show cs.toList.drop vs.length = [] from by apply List.drop_of_length_le; simp; omega]) h

end rules
end Go.Proofs.Ytaoinojdijbhaaa
