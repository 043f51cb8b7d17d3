/-
  Rules and contracts, packed: Sep19, Sep20, Sep21, Sep22, Sep23, Sep24, Sep35.
-/
import Derived.Laws.Cover3
import Derived.Maps.RangeRun
import Derived.Laws.MakeOwn
import Derived.Laws.RangeAny
import Derived.Test.YtjhehanknkonnaaGreatDoorQ2
set_option maxHeartbeats 1000000
set_option linter.unusedSimpArgs false
set_option linter.unusedVariables false
namespace Go.Proofs.YtjhehanknkonnaaGreatDoor
open Go.RowKit

theorem SlE.pre {E : Env} {b : Nat} {l r : List Value} {T : TypeId} {fz : Nat × Nat} {n sz : Nat} (h : (Res.blk b (.cells (l.toArray ++ r.toArray) T fz)).ok E.heap) (hl : l.length = n * sz) : SlE E sz (some ⟨b, 0, none⟩) n l :=
  ⟨hl, .inr ⟨_, rfl, .inl rfl, fun j v hj => by
    have hb : E.heap b = some (.cells (l.toArray ++ r.toArray) T fz) := h
    have hj1 := (List.getElem?_eq_some_iff.1 hj).1
    have hc : (l.toArray ++ r.toArray)[j]? = some v := by
      rw [Array.getElem?_append_left (by simpa using hj1)]
      simpa using hj
    by_cases e : j = 0
    · subst e; simpa [Env.cell, Addr.add, hb] using hc
    · simpa [Env.cell, Addr.add, e, hb] using hc⟩⟩

/-- Where the rest of a slice begins. -/
def tailAt (a : Option Addr) (l c sz : Nat) : Option Addr := if c = l then a else a.map (·.add (l * sz))
theorem SlE.tail {E : Env} {sz : Nat} {a : Option Addr} {n : Nat} {vals : List Value} (h : SlE E sz a n vals) {l c : Nat} (hl : l ≤ n) (hc : n ≤ c) : SlE E sz (tailAt a l c sz) (n - l) (vals.drop (l * sz)) := by
  obtain ⟨h1, h2⟩ := h
  refine ⟨by rw [List.length_drop, h1, Nat.sub_mul], ?_⟩
  unfold tailAt
  split
  · rename_i e
    have hn : n - l = 0 := by omega
    have hd : vals.drop (l * sz) = [] := List.drop_eq_nil_of_le (by rw [h1]; exact Nat.mul_le_mul_right _ (by omega))
    rw [hn, hd]
    rcases h2 with ⟨h3, _⟩ | ⟨p, h3, _, _⟩
    · exact .inl ⟨h3, rfl⟩
    · exact .inr ⟨p, h3, .inr rfl, fun j v hj => by cases hj⟩
  · rcases h2 with ⟨rfl, h4⟩ | ⟨p, rfl, h4, h5⟩
    · exact .inl ⟨rfl, by omega⟩
    · refine .inr ⟨p.add (l * sz), rfl, ?_, fun j v hj => ?_⟩
      · rcases h4 with h4 | h4
        · left
          unfold Addr.add
          split
          · exact h4
          · rfl
        · right; omega
      · rw [Addr.add_add]
        exact h5 _ _ (by rwa [List.getElem?_drop] at hj)
theorem SlE.head {E : Env} {sz : Nat} {a : Option Addr} {n : Nat} {vals : List Value} (h : SlE E sz a n vals) {i : Nat} (hi : i ≤ n) : SlE E sz a i (vals.take (i * sz)) := by
  obtain ⟨h1, h2⟩ := h
  refine ⟨by rw [List.length_take, h1]; exact Nat.min_eq_left (Nat.mul_le_mul_right _ hi), ?_⟩
  rcases h2 with ⟨h3, h4⟩ | ⟨p, h3, h4, h5⟩
  · exact .inl ⟨h3, by omega⟩
  · refine .inr ⟨p, h3, h4.imp id (fun h => by omega), fun j v hj => h5 j v ?_⟩
    rw [List.getElem?_take] at hj
    split at hj
    · exact hj
    · cases hj

section
variable {P : Program} {ro : Option Nat} {n : Nat} {ds : List Deferred} {fs : List (Nat × Value)} {E : Env} {L : List Res} {o : Oper}
theorem V_slTail {t e : TypeId} {sz : Nat} {ag : Bool} {d : TypeDesc} {sz' : Nat} {ag' : Bool} [ht : Ty P t (.slice e) sz ag] [he : Ty P e d sz' ag'] {x y : Operand} {a : Option Addr} {m c : Nat} {i : Int}
    (ho : o.op = .slice t x (some y) none none) (hx : ev fs x = some (.slice a m c)) (hy : ev fs y = some (.int .i64 i)) (h0 : 0 ≤ i) (h1 : i ≤ m) : Val P o fs E L (.slice (tailAt a i.toNat c sz') (m - i.toNat) (c - i.toNat)) :=
  ⟨(by rw [ho]; intro c h; cases h), fun n ds a' w ha _ => by
    simp [execOp, ho, ha.eval hx, ha.eval hy, Instr.sliceAt, Instr.slice, Instr.sliceBounds, Instr.sliceBound, ht.run, he.size, Result.andThen, asIntOf, h0, h1, tailAt]⟩
theorem V_slTail1 {t e : TypeId} {sz : Nat} {ag : Bool} {d : TypeDesc} {sz' : Nat} {ag' : Bool} [ht : Ty P t (.slice e) sz ag] [he : Ty P e d sz' ag'] {x y : Operand} {a : Option Addr} {m c : Nat}
    (ho : o.op = .slice t x (some y) none none) (hx : ev fs x = some (.slice a m c)) (hy : ev fs y = some (.int .i64 1)) (h1 : 1 ≤ m) : Val P o fs E L (.slice (tailAt a 1 c sz') (m - 1) (c - 1)) :=
  V_slTail ho hx hy (by omega) (by omega)
theorem V_slHead {t e : TypeId} {sz : Nat} {ag : Bool} {d : TypeDesc} {sz' : Nat} {ag' : Bool} [ht : Ty P t (.slice e) sz ag] [he : Ty P e d sz' ag'] {x y : Operand} {a : Option Addr} {m c : Nat} {i : Int}
    (ho : o.op = .slice t x none (some y) none) (hx : ev fs x = some (.slice a m c)) (hy : ev fs y = some (.int .i64 i)) (h0 : 0 ≤ i) (h1 : i ≤ c) : Val P o fs E L (.slice a i.toNat c) :=
  ⟨(by rw [ho]; intro c h; cases h), fun n ds a' w ha _ => by
    have hm : (a.map fun x => x.add 0) = a := by cases a <;> simp [Addr.add]
    simp [execOp, ho, ha.eval hx, ha.eval hy, Instr.sliceAt, Instr.slice, Instr.sliceBounds, Instr.sliceBound, ht.run, he.size, Result.andThen, asIntOf, h0, h1, hm]⟩
theorem V_fieldAddrE {t ft : TypeId} {x : Operand} {i off sz' : Nat} {d : TypeDesc} {sz : Nat} {ag : Bool} [hf : Fld P t i off ft] [hft : Ty P ft d sz ag] {a : Option Addr} {k m : Nat} {vals : List Value} (ho : o.op = .fieldAddr t x i) (hx : ev fs x = some (.pointer (some (elemAt a k)))) (hr : SlE E sz' a m vals) (hm : 0 < m) (hs : sz ≠ 0) :
    Val P o fs E L (.pointer (some (elemAt a (k + off)))) := by
  rcases hr.2 with ⟨_, h0⟩ | ⟨⟨b, o', sp⟩, rfl, h1, _⟩
  · omega
  · rcases h1 with h1 | h1
    · simp only at h1
      subst h1
      have e1 : elemAt (some ⟨b, o', none⟩) k = ⟨b, o' + k, none⟩ := addr_add b o' k
      have e2 : elemAt (some ⟨b, o', none⟩) (k + off) = ⟨b, o' + k + off, none⟩ := by rw [elemAt, Option.getD_some, addr_add, Nat.add_assoc]
      rw [e1] at hx
      rw [e2]
      exact V_fieldAddr ho hx hs
    · omega
theorem V_eqlN {t e : TypeId} {u : TypeId} {sz : Nat} {ag : Bool} [ht : Ty P t (.slice e) sz ag] {x y : Operand} {a : Option Addr} {m c : Nat} (ho : o.op = .binOp .eql t x y u) (hx : ev fs x = some (.slice a m c)) (hy : ev fs y = some (.slice none 0 0)) : Val P o fs E L (.bool a.isNone) :=
  V_bin ho hx hy fun w => ⟨by simp [eqGuard], by simp [binOp, run_equal_slice_nil (P := P) w t e a m c ht.und]⟩
theorem V_loadAS {t : TypeId} {x : Operand} {d : TypeDesc} {sz sz' : Nat} [ht : Ty P t d sz' true] {a : Option Addr} {k k' m : Nat} {vals vs : List Value} (ho : o.op = .load t x) (hx : ev fs x = some (.pointer (some (elemAt a k)))) (hr : Rd E L sz a m vals)
    (hv : (vals.drop k').take sz' = vs) (hk : k = k') (hs : vs.length = sz') : Val P o fs E L (.agg vs.toArray) :=
  V_loadA ho hx (hr.cells fun j v hj => by
    subst hv
    rw [List.getElem?_take] at hj
    split at hj
    · rw [hk, ← List.getElem?_drop]; exact hj
    · cases hj) hs
end

/-- A slice of the call's own is shut for good. -/
theorem G.freezeSl {n : Nat} {ds : List Deferred} {fs : List (Nat × Value)} {E : Env} {L L' : List Res} {X : Act → World → Prop} {e : TypeId} {sz k c : Nat} {a : Option Addr} {xs : List Value} (d : Del L (.sl e sz a k c xs) L')
    (h : ∀ E', E.Le E' → SlE E' sz a k xs → k ≤ c → G n ds fs E' L' X) : G n ds fs E L X :=
  G.freeze d fun E' hE hok => h E' hE (SlE.sl hok) (by
    obtain ⟨_, h2⟩ := hok
    rcases h2 with ⟨_, _, h3⟩ | ⟨_, _, _, _, h3, _⟩
    · omega
    · exact h3)

section
variable {P : Program} {ro : Option Nat} {n : Nat} {ds : List Deferred} {fs : List (Nat × Value)} {E : Env} {L : List Res} {ops : Array Oper} {T : Act → Fam → Prop} {π : List (Nat × Nat)} {i : Nat} {o : Oper} {J : Nat → World → Prop}
end
section
variable {P : Program} {ro : Option Nat} {n : Nat} {ds : List Deferred} {fs : List (Nat × Value)} {E : Env} {L : List Res} {ops : Array Oper} {Q : Exit → Act → World → Prop} {rest : List Oper} {o : Oper}
theorem G_lit0z {t e : TypeId} {td : TypeDesc} {sz sz' : Nat} {ag ag' : Bool} [ht : Ty P t (.slice e) sz ag] [he : Ty P e td sz' ag'] {z : Value} {zc : Array Value} [hz : Zero P e z zc] {d : Nat}
    (ho : o.op = .buildSlice t 0 #[]) (hd : o.dst = some d) (hn : Nat.blt d n = true) (hg : Goes ops fs o)
    (h : ∀ b, G n ds ((d, .slice (some ⟨b, 0, none⟩) 0 0) :: fs) E (.sl e sz' (some ⟨b, 0, none⟩) 0 0 [] :: L) (wpListIn (Wd ro) 0 P ops Q rest)) : G n ds fs E L (wpListIn (Wd ro) 0 P ops Q (o :: rest)) :=
  G_any hg (by rw [ho]; intro c h; cases h) fun a w ha hw => by
    have e1 : (execOp a.eval o).run P w = .ok (.value (.slice (some ⟨w.heap.size, 0, none⟩) 0 0)) (w.alloc (.cells #[] e)) := by
      simp [execOp, ho, Instr.buildSlice, ht.run, he.size, hz.zv, hz.zc, Result.andThen, newRow]
      rw [show Array.range 0 = #[] by decide]
      simp [Instr.fill]
    rw [e1]
    simp only [Oper.uponIn_value, hd]
    have hb := hw.alloc (.cells #[] e)
    refine h w.heap.size _ _ (ha.put hn _) ⟨hb.env, fun r hr => ?_, hb.nodup, hb.apart, hb.os, hb.out, hb.tape⟩
    rcases List.mem_cons.1 hr with rfl | hr
    · have h0 : (w.alloc (.cells #[] e)).heap[w.heap.size]? = some (.cells #[] e) := World.alloc_heap_new w _
      exact ⟨by simp, .inr ⟨_, _, rfl, h0, Nat.le_refl _, Nat.zero_le _, by simp, by simp⟩⟩
    · exact hb.own r (List.mem_cons_of_mem _ hr)
end
end Go.Proofs.YtjhehanknkonnaaGreatDoor
set_option linter.unusedSimpArgs false
set_option linter.unusedVariables false
set_option linter.unusedSectionVars false
namespace Go.Proofs.YtjhehanknkonnaaGreatDoor
open Go.RowKit

section entries
variable {α : Type}
def ents (enc : α → Value) : List (α × Value) → Nat → List MapEntry
  | [], _ => []
  | (a, v) :: l, i => ⟨enc a, v, i⟩ :: ents enc l (i + 1)
def mobj (enc : α → Value) (kv : List (α × Value)) : Obj := .map (ents enc kv 0).toArray kv.length
theorem ents_get (enc : α → Value) : ∀ (kv : List (α × Value)) (i k : Nat), (ents enc kv i)[k]? = (kv[k]?).map (fun p => ⟨enc p.1, p.2, i + k⟩) := by
  intro kv
  induction kv with
  | nil => intro i k; simp [ents]
  | cons p l ih =>
    intro i k
    obtain ⟨a, v⟩ := p
    cases k with
    | zero => simp [ents]
    | succ k => simp only [ents, List.getElem?_cons_succ, ih]; rw [show i + 1 + k = i + (k + 1) by omega]
theorem ents_append (enc : α → Value) : ∀ (a b : List (α × Value)) i, ents enc (a ++ b) i = ents enc a i ++ ents enc b (i + a.length) := by
  intro a
  induction a with
  | nil => intro b i; simp [ents]
  | cons p l ih => intro b i; obtain ⟨x, v⟩ := p; simp only [List.cons_append, ents, ih, List.length_cons]; rw [show i + 1 + l.length = i + (l.length + 1) by omega]
end entries
section model
variable {α : Type} [DecidableEq α]
def mget : List (α × Value) → α → Option Value
  | [], _ => none
  | (b, v) :: l, a => if a = b then some v else mget l a
def mput : List (α × Value) → α → Value → List (α × Value)
  | [], a, v => [(a, v)]
  | (b, u) :: l, a, v => if a = b then (b, v) :: l else (b, u) :: mput l a v
def mfind : List (α × Value) → α → Nat → Option (Nat × Value)
  | [], _, _ => none
  | (b, v) :: l, a, i => if a = b then some (i, v) else mfind l a (i + 1)
theorem mfind_mget : ∀ (kv : List (α × Value)) a i, (mfind kv a i).map (·.2) = mget kv a := by
  intro kv
  induction kv with
  | nil => intro a i; rfl
  | cons p l ih => intro a i; obtain ⟨b, v⟩ := p; simp only [mfind, mget]; split; rfl; exact ih _ _
theorem mfind_none : ∀ (kv : List (α × Value)) a i v, mfind kv a i = none → mput kv a v = kv ++ [(a, v)] := by
  intro kv
  induction kv with
  | nil => intro a i v _; rfl
  | cons p l ih =>
    intro a i v h
    obtain ⟨b, u⟩ := p
    simp only [mfind, mput] at h ⊢
    split at h
    · cases h
    · rename_i hne
      rw [if_neg hne, ih a (i + 1) v h, List.cons_append]
theorem mfind_some (enc : α → Value) : ∀ (kv : List (α × Value)) a i v k u, mfind kv a i = some (k, u) → i ≤ k ∧ kv[k - i]? = some (a, u) ∧ (mput kv a v).length = kv.length ∧
    ents enc (mput kv a v) i = (ents enc kv i).modify (k - i) (fun e => { e with key := enc a, val := v }) := by
  intro kv
  induction kv with
  | nil => intro a i v k u h; cases h
  | cons p l ih =>
    intro a i v k u h
    obtain ⟨b, x⟩ := p
    simp only [mfind] at h
    split at h
    · rename_i hab
      subst hab
      simp only [Option.some.injEq, Prod.mk.injEq] at h
      obtain ⟨rfl, rfl⟩ := h
      simp [mput, ents]
    · rename_i hne
      obtain ⟨h1, h2, h3, h4⟩ := ih a (i + 1) v k u h
      have e : k - i = (k - (i + 1)) + 1 := by omega
      refine ⟨by omega, ?_, ?_, ?_⟩
      · rw [e, List.getElem?_cons_succ]; exact h2
      · simp only [mput, if_neg hne, List.length_cons, h3]
      · simp only [mput, if_neg hne, ents]
        rw [e, List.modify_succ_cons, h4]
end model

/-- How the keys of type t are written: they are compared at once. -/
class KeyT {α : Type} [DecidableEq α] (P : Program) (t : TypeId) (enc : α → Value) : Prop where
  chk : ∀ a b w, (Instr.checkKey b 10000 t (enc a)).run P w = .ok () w
  find : ∀ a kv w, (Instr.findKey t (enc a) (ents enc kv 0)).run P w = .ok (mfind kv a 0) w
  bits : ∀ a, Instr.sameBits 10000 (enc a) (enc a) = true

abbrev kI (n : Int) : Value := .int .i64 n
abbrev kS (s : List UInt8) : Value := .string (S s)

theorem find_now {α : Type} [DecidableEq α] {enc : α → Value} {kind : TypeDesc} (h : ∀ a b, Instr.sameNow kind (enc a) (enc b) = some (decide (a = b))) (a : α) : ∀ (kv : List (α × Value)) (j i : Nat), Instr.findNow kind (enc a) (ents enc kv j) i = some (mfind kv a i) := by
  intro kv
  induction kv with
  | nil => intro j i; rfl
  | cons p l ih =>
    intro j i
    obtain ⟨b, v⟩ := p
    simp only [ents, Instr.findNow, h, mfind]
    by_cases e : a = b
    · simp [e]
    · simp [e, ih]

theorem checkKey_plain {P : Program} {t : TypeId} {d : TypeDesc} {sz : Nat} {ag : Bool} (ht : Ty P t d sz ag) (hd : d = .int .i64 ∨ d = .string) (v : Value) (b : Bool) (w : World) : (Instr.checkKey b 10000 t v).run P w = .ok () w := by
  rw [show (10000 : Nat) = 9999 + 1 from rfl]
  unfold Instr.checkKey
  simp only [Sem.run_bind, ht.run, Result.andThen]
  rcases hd with rfl | rfl <;> rfl
theorem S_beq (a b : List UInt8) : (S a == S b) = decide (a = b) := by
  have e : (S a == S b) = ((S a).data == (S b).data) := rfl
  rw [e, Bool.eq_iff_iff, decide_eq_true_eq]
  simp [S]
instance keyI {P : Program} {t : TypeId} {sz : Nat} {ag : Bool} [ht : Ty P t (.int .i64) sz ag] : KeyT P t kI where
  chk a b w := checkKey_plain ht (.inl rfl) _ b w
  find a kv w := by
    simp only [Instr.findKey, Sem.run_bind, ht.run, Result.andThen]
    rw [find_now (enc := kI) (fun a b => by simp [Instr.sameNow, kI]; rfl)]
    rfl
  bits a := by simp [Instr.sameBits]
instance keyS {P : Program} {t : TypeId} {sz : Nat} {ag : Bool} [ht : Ty P t .string sz ag] : KeyT P t kS where
  chk a b w := checkKey_plain ht (.inr rfl) _ b w
  find a kv w := by
    simp only [Instr.findKey, Sem.run_bind, ht.run, Result.andThen]
    rw [find_now (enc := kS) (fun a b => by simp only [Instr.sameNow, kS, S_beq])]
    rfl
  bits a := by simp only [kS, Instr.sameBits, S_beq, decide_true]

section rules
variable {P : Program} {ro : Option Nat} {n : Nat} {ds : List Deferred} {fs : List (Nat × Value)} {E : Env} {L L' : List Res} {ops : Array Oper} {Q : Exit → Act → World → Prop} {o : Oper} {rest : List Oper}
variable {α : Type} [DecidableEq α] {enc : α → Value}

theorem G_makeMap {t key elem : TypeId} {sz : Nat} {ag : Bool} [ht : Ty P t (.map key elem) sz ag] {d : Nat} (enc : α → Value) [hk : KeyT P key enc] (ho : o.op = .makeMap t none) (hd : o.dst = some d) (hn : Nat.blt d n = true) (hg : Goes ops fs o)
    (h : ∀ b, G n ds ((d, .map (some b)) :: fs) E (.blk b (mobj enc []) :: L) (wpListIn (Wd ro) 0 P ops Q rest)) : G n ds fs E L (wpListIn (Wd ro) 0 P ops Q (o :: rest)) :=
  G_any hg (by rw [ho]; intro c h; cases h) fun a w ha hw => by
    have e : (execOp a.eval o).run P w = .ok (.value (.map (some w.heap.size))) (w.alloc (mobj enc [])) := by
      simp [execOp, ho, Instr.makeMap, Result.andThen, mobj, ents]
    rw [e]
    simp only [Oper.uponIn_value, hd]
    exact h w.heap.size _ _ (ha.put hn _) (hw.alloc _)

theorem V_lookup {t key elem : TypeId} {sz : Nat} {ag : Bool} [ht : Ty P t (.map key elem) sz ag] (enc : α → Value) [hk : KeyT P key enc] {z : Value} {zc : Array Value} [hz : Zero P elem z zc] {x y : Operand} {b : Nat} {kv : List (α × Value)} (a : α)
    (ho : o.op = .lookup t x y false) (hx : ev fs x = some (.map (some b))) (hy : ev fs y = some (enc a)) (hm : Res.blk b (mobj enc kv) ∈ L) : Val P o fs E L ((mget kv a).getD z) :=
  ⟨(by rw [ho]; intro c h; cases h), fun n ds a' w ha hw => by
    have hb : w.heap[b]? = some (mobj enc kv) := hw.own _ hm
    have hg : (getObj b).run P w = .ok (mobj enc kv) w := by simp [getObj, Sem.run, hb, mobj]
    have e1 : (ents enc kv 0).toArray.toList = ents enc kv 0 := by simp
    have e2 := hk.find a kv w
    rw [← mfind_mget kv a 0]
    simp only [execOp, ho, ha.eval hx, ha.eval hy, Instr.lookup, Sem.run_bind, ht.run, Result.andThen, hg, mobj, Sem.run_pure, hk.chk, e1, e2]
    cases mfind kv a 0 with
    | none => simp [hz.zv, Result.andThen]
    | some p => obtain ⟨i, v⟩ := p; simp⟩
theorem run_mapUpdate {t key elem : TypeId} {sz : Nat} {ag : Bool} [ht : Ty P t (.map key elem) sz ag] [hk : KeyT P key enc] {b : Nat} {kv : List (α × Value)} (a : α) (v : Value) {w : World} (hb : w.heap[b]? = some (mobj enc kv)) :
    (Instr.mapUpdate t (.map (some b)) (enc a) v).run P w = .ok () (w.putObj b (mobj enc (mput kv a v))) := by
  have hg : (getObj b).run P w = .ok (mobj enc kv) w := by simp [getObj, Sem.run, hb, mobj]
  have hs : ∀ o' : Obj, (setObj b o').run P w = .ok () (w.putObj b o') := fun o' => by simp [setObj, Sem.run, hb, mobj, World.putObj]
  have e1 : (ents enc kv 0).toArray.toList = ents enc kv 0 := by simp
  have e2 := hk.find a kv w
  simp only [Instr.mapUpdate, Sem.run_bind, ht.run, Result.andThen, hg, mobj, hk.chk, e1, e2]
  cases hf : mfind kv a 0 with
  | none =>
    have h1 := mfind_none kv a 0 v hf
    have h2 : (ents enc kv 0).toArray.push ⟨enc a, v, kv.length⟩ = (ents enc (mput kv a v) 0).toArray := by
      rw [h1, ents_append]; simp [ents]
    simp only [hs, h2, h1, List.length_append, List.length_singleton]
  | some p =>
    obtain ⟨i, u⟩ := p
    obtain ⟨_, h2, h3, h4⟩ := mfind_some enc kv a 0 v i u hf
    rw [Nat.sub_zero] at h2 h4
    have hkey : (((ents enc kv 0).toArray[i]?).map (·.key)).getD (enc a) = enc a := by simp [ents_get, h2]
    have hmod : (ents enc kv 0).toArray.modify i (fun e => { e with key := enc a, val := v }) = (ents enc (mput kv a v) 0).toArray := by
      rw [h4]; apply Array.ext'; simp
    simp only [hkey, Instr.keyThatStays, hk.bits, if_true, Sem.run_bind, Sem.run_pure, Result.andThen, hs, hmod, h3]
theorem G_mapUpdate {t key elem : TypeId} {sz : Nat} {ag : Bool} [ht : Ty P t (.map key elem) sz ag] (enc : α → Value) [hk : KeyT P key enc] {x y z : Operand} {b : Nat} {kv : List (α × Value)} (a : α) {v : Value}
    (ho : o.op = .mapUpdate t x y z ∨ o.op = .insert t x y z) (hx : ev fs x = some (.map (some b))) (hy : ev fs y = some (enc a)) (hz : ev fs z = some v) (hd : o.dst = none) (hg : Goes ops fs o)
    (u : Upd L (.blk b (mobj enc kv)) (.blk b (mobj enc (mput kv a v))) L')
    (h : G n ds fs E L' (wpListIn (Wd ro) 0 P ops Q rest)) : G n ds fs E L (wpListIn (Wd ro) 0 P ops Q (o :: rest)) :=
  G_any hg (by rcases ho with ho | ho <;> (rw [ho]; intro c h; cases h)) fun a' w ha hw => by
    have hb : w.heap[b]? = some (mobj enc kv) := hw.own _ u.mem
    have e : (execOp a'.eval o).run P w = .ok .skip (w.putObj b (mobj enc (mput kv a v))) := by
      rcases ho with ho | ho <;> simp [execOp, ho, ha.eval hx, ha.eval hy, ha.eval hz, run_mapUpdate (t := t) (key := key) (elem := elem) a v hb, Result.andThen]
    rw [e]
    simp only [Oper.uponIn_skip, hd]
    exact h _ _ ha (hw.put u)
/-! ### The loop over a map -/
end rules
end Go.Proofs.YtjhehanknkonnaaGreatDoor
set_option linter.unusedSimpArgs false
set_option linter.unusedVariables false
set_option linter.unusedSectionVars false
namespace Go.Proofs.YtjhehanknkonnaaGreatDoor
open Go.RowKit

section rules
variable {P : Program} {ro : Option Nat} {n : Nat} {ds : List Deferred} {fs : List (Nat × Value)} {E : Env} {L L' : List Res} {ops : Array Oper} {Q : Exit → Act → World → Prop} {o : Oper} {rest : List Oper} {X : Act → World → Prop}
variable {T : Act → Fam → Prop} {π : List (Nat × Nat)} {i : Nat} {js js' : List JI}

theorem madeCells_one (zc : Value) (n : Nat) : madeCells #[zc] n = (List.replicate n zc).toArray := by
  apply Array.ext'
  simp [madeCells]
  apply List.ext_getElem
  · simp
  · intro i h1 h2
    simp [Nat.mod_one]
/-- make([]T, m). -/
theorem G_makeSlice {t e : TypeId} {sz : Nat} {ag : Bool} [ht : Ty P t (.slice e) sz ag] {z zc : Value} {bytes : Nat} [hi : Inf P e z 1 bytes] [hz : Zero P e z #[zc]] {x y : Operand} {m : Int} {d : Nat}
    (ho : o.op = .makeSlice t x y) (hx : ev fs x = some (.int .i64 m)) (hy : ev fs y = some (.int .i64 m)) (h0 : 0 ≤ m) (h1 : bytes * m ≤ 281474976710656) (h2 : m ≤ 9223372036854775807) (hd : o.dst = some d) (hn : Nat.blt d n = true) (hg : Goes ops fs o)
    (h : ∀ b, G n ds ((d, .slice (some ⟨b, 0, none⟩) m.toNat m.toNat) :: fs) E (.blk b (.cells (List.replicate m.toNat zc).toArray e (0, 0)) :: L) (wpListIn (Wd ro) 0 P ops Q rest)) : G n ds fs E L (wpListIn (Wd ro) 0 P ops Q (o :: rest)) :=
  G_any hg (by rw [ho]; intro c h; cases h) fun a w ha hw => by
    obtain ⟨inf, hi1, hi2, hi3, hi4, hi5⟩ := hi.inf
    have hzc : z.cells = #[zc] := hz.zc
    have hr := run_make (P := P) (w := w) t e inf z ht.und hi1 hi2 .i64 .i64 m m h0 (Int.le_refl _) (by rw [hi4]; exact h1) h2
    rw [hi3, hzc, Nat.mul_one, madeCells_one] at hr
    have e : (execOp a.eval o).run P w = .ok (.value (.slice (some ⟨w.heap.size, 0, none⟩) m.toNat m.toNat)) (w.alloc (.cells (List.replicate m.toNat zc).toArray e)) := by
      simp [execOp, ho, ha.eval hx, ha.eval hy, hr, Result.andThen]
    rw [e]
    simp only [Oper.uponIn_value, hd]
    exact h w.heap.size _ _ (ha.put hn _) (hw.alloc _)
theorem V_idxB {x y : Operand} {t e : TypeId} {d : TypeDesc} {sz sz' : Nat} {ag ag' : Bool} [ht : Ty P t (.slice e) sz' ag'] [he : Ty P e d sz ag] {b m c : Nat} {k : IntKind} {i : Int}
    (ho : o.op = .indexAddr t x y) (hx : ev fs x = some (.slice (some ⟨b, 0, none⟩) m c)) (hy : ev fs y = some (.int k i)) (h0 : 0 ≤ i) (h1 : i < m) : Val P o fs E L (.pointer (some ⟨b, i.toNat * sz, none⟩)) :=
  ⟨(by rw [ho]; intro c h; cases h), fun n ds a' w ha hw => by
    have hl : i.toNat < m := by omega
    have hni : ¬ i < 0 := by omega
    have e2 := addr_add b 0 (i.toNat * sz)
    rw [Nat.zero_add] at e2
    simp [execOp, ho, ha.eval hx, ha.eval hy, Instr.indexAt, asIntOf, ht.run, he.size, Result.andThen, h0, h1, e2]⟩
theorem V_idxB1 {x y : Operand} {t e : TypeId} {d : TypeDesc} {sz' : Nat} {ag ag' : Bool} [ht : Ty P t (.slice e) sz' ag'] [he : Ty P e d 1 ag] {b m c : Nat} {k : IntKind} {i : Int}
    (ho : o.op = .indexAddr t x y) (hx : ev fs x = some (.slice (some ⟨b, 0, none⟩) m c)) (hy : ev fs y = some (.int k i)) (h0 : 0 ≤ i) (h1 : i < m) : Val P o fs E L (.pointer (some ⟨b, i.toNat, none⟩)) := by
  have := V_idxB (P := P) (E := E) (L := L) (ht := ht) (he := he) ho hx hy h0 h1
  rwa [Nat.mul_one] at this
theorem V_idxB1n {x y : Operand} {t e : TypeId} {d : TypeDesc} {sz' : Nat} {ag ag' : Bool} [ht : Ty P t (.slice e) sz' ag'] [he : Ty P e d 1 ag] {b m c : Nat} {k : IntKind} {i : Nat}
    (ho : o.op = .indexAddr t x y) (hx : ev fs x = some (.slice (some ⟨b, 0, none⟩) m c)) (hy : ev fs y = some (.int k (i : Int))) (h1 : i < m) : Val P o fs E L (.pointer (some ⟨b, i, none⟩)) :=
  V_idxB1 (ht := ht) (he := he) ho hx hy (by omega) (by omega)
/-- A store of one cell anywhere. -/
theorem G_storeB {t : TypeId} {x y : Operand} {b off : Nat} {v : Value} {d : TypeDesc} {TT : TypeId} {l : List Value} {ag : Bool} [ht : Ty P t d 1 ag]
    (ho : o.op = .store t x y) (hx : ev fs x = some (.pointer (some ⟨b, off, none⟩))) (hy : ev fs y = some v) (hc : v.cells = #[v]) (hone : v.oneCell' = true)
    (hd : o.dst = none) (hg : Goes ops fs o) (hu : Upd L (.blk b (.cells l.toArray TT (0, 0))) (.blk b (.cells (l.set off v).toArray TT (0, 0))) L') (hl : off < l.length)
    (h : G n ds fs E L' (wpListIn (Wd ro) 0 P ops Q rest)) : G n ds fs E L (wpListIn (Wd ro) 0 P ops Q (o :: rest)) :=
  G_storeAt ho hx hy hc hone hd hg hu (by simpa using hl) (by simp) h
theorem F_storeB {t : TypeId} {x y : Operand} {b off : Nat} {v : Value} {d : TypeDesc} {TT : TypeId} {l : List Value} {ag : Bool} [ht : Ty P t d 1 ag]
    (h0 : ops[i]? = some o) (ho : o.op = .store t x y) (hx : ev fs x = some (.pointer (some ⟨b, off, none⟩))) (hy : ev fs y = some v) (hc : v.cells = #[v]) (hone : v.oneCell' = true)
    (hd : o.dst = none) (hg : Goes ops fs o) (hu : Upd L (.blk b (.cells l.toArray TT (0, 0))) (.blk b (.cells (l.set off v).toArray TT (0, 0))) L') (hl : off < l.length) (hj : Jok ops i js js' E L')
    (h : GF n ds fs E L' (wpF P ops T (JL js') π)) : GF n ds fs E L (wpF P ops T (JL js) ((i, 4) :: π)) :=
  F_storeAt h0 ho hx hy hc hone hd hg hu (by simpa using hl) (by simp) hj h
/-- An array is shut for good: it is a slice that may be read. -/
theorem G.freezeB {b k sz : Nat} {TT : TypeId} {l : List Value} (d : Del L (.blk b (.cells l.toArray TT (0, 0))) L') (hl : l.length = k * sz) (h : ∀ E', E.Le E' → SlE E' sz (some ⟨b, 0, none⟩) k l → G n ds fs E' L' X) : G n ds fs E L X :=
  G.freeze d fun E' hE hok => h E' hE (SlE.lit hok hl)

/-! ### The loop over a string -/
end rules
end Go.Proofs.YtjhehanknkonnaaGreatDoor
set_option linter.unusedSimpArgs false
set_option linter.unusedVariables false
set_option linter.unusedSectionVars false
namespace Go.Proofs.YtjhehanknkonnaaGreatDoor
open Go.RowKit

section rules
variable {P : Program} {ro : Option Nat} {n : Nat} {ds : List Deferred} {fs : List (Nat × Value)} {E : Env} {L L' : List Res} {ops : Array Oper} {Q : Exit → Act → World → Prop} {o : Oper} {rest : List Oper} {X : Act → World → Prop}

/-- An array in memory, its first elements. -/
theorem V_slArrTo {t e : TypeId} {m sz szt : Nat} {ag ag' : Bool} {td : TypeDesc} [ht : Ty P t (.array m e) szt ag] [he : Ty P e td sz ag'] {x y : Operand} {p : Addr} {k : IntKind} {i : Int}
    (ho : o.op = .slice t x none (some y) none) (hx : ev fs x = some (.pointer (some p))) (hy : ev fs y = some (.int k i)) (h0 : 0 ≤ i) (h1 : i ≤ m) : Val P o fs E L (.slice (some p) i.toNat m) :=
  ⟨(by rw [ho]; intro c h; cases h), fun n ds a w ha _ => by
    have : p.add 0 = p := by simp [Addr.add]
    simp [execOp, ho, ha.eval hx, ha.eval hy, Instr.sliceAt, Instr.sureAddr, Instr.sliceBounds, Instr.sliceBound, asIntOf, h0, h1, ht.run, he.size, Result.andThen, this]⟩
/-- The place of an element of an array in memory. -/
theorem V_idxAddrArr {x y : Operand} {t e : TypeId} {d : TypeDesc} {m sz sz' : Nat} {ag ag' : Bool} [ht : Ty P t (.array m e) sz' ag'] [he : Ty P e d sz ag] {b off : Nat} {k : IntKind} {i : Int}
    (ho : o.op = .indexAddr t x y) (hx : ev fs x = some (.pointer (some ⟨b, off, none⟩))) (hy : ev fs y = some (.int k i)) (h0 : 0 ≤ i) (h1 : i < m) : Val P o fs E L (.pointer (some ⟨b, off + i.toNat * sz, none⟩)) :=
  ⟨(by rw [ho]; intro c h; cases h), fun n ds a' w ha hw => by
    have hl : i.toNat < m := by omega
    have hni : ¬ i < 0 := by omega
    have e2 := addr_add b off (i.toNat * sz)
    simp [execOp, ho, ha.eval hx, ha.eval hy, Instr.indexAt, Instr.sureAddr, asIntOf, ht.run, he.size, Result.andThen, h0, h1, e2]⟩
end rules
end Go.Proofs.YtjhehanknkonnaaGreatDoor
set_option linter.unusedSimpArgs false
set_option linter.unusedVariables false
set_option linter.unusedSectionVars false
namespace Go.Proofs.YtjhehanknkonnaaGreatDoor
open Go.RowKit

theorem St.conv {E : Env} {L : List Res} {r r' : Res} {w : World} (h : St E (r :: L) w) (hi : r'.ids = r.ids) (hok : r'.ok (fun b => w.heap[b]?)) : St E (r' :: L) w :=
  ⟨h.env, fun x hx => by rcases List.mem_cons.1 hx with rfl | hx; exact hok; exact h.own x (.tail _ hx), by simpa [hi] using h.nodup, fun b hb => h.apart b (by simpa [hi] using hb), h.os, h.out, h.tape⟩

theorem slOk.fresh {w : World} {e : TypeId} {sz k c : Nat} {xs r : List Value} (hl : xs.length = k * sz) (hk : k ≤ c) (hc : c ≤ maxLen) (hr : r.length = (c - k) * sz) :
    slOk e sz (some ⟨w.heap.size, 0, none⟩) k c xs (fun b => (w.alloc (.cells (xs ++ r).toArray e)).heap[b]?) :=
  ⟨hl, .inr ⟨w.heap.size, _, rfl, World.alloc_heap_new w _, hk, hc, by simp only [List.size_toArray, List.length_append, hl, hr, ← Nat.add_mul]; congr 1; omega, by simp [← hl]⟩⟩

section
variable {P : Program} {ro : Option Nat} {n : Nat} {ds : List Deferred} {fs : List (Nat × Value)} {E : Env} {L : List Res} {ops : Array Oper} {T : Act → Fam → Prop} {π : List (Nat × Nat)} {i : Nat} {o : Oper} {J : Nat → World → Prop}
end
section
variable {P : Program} {ro : Option Nat} {n : Nat} {ds : List Deferred} {fs : List (Nat × Value)} {E : Env} {L : List Res} {ops : Array Oper} {Q : Exit → Act → World → Prop} {rest : List Oper} {o : Oper}
end
end Go.Proofs.YtjhehanknkonnaaGreatDoor
set_option linter.unusedSimpArgs false
set_option linter.unusedVariables false
set_option linter.unusedSectionVars false
namespace Go.Proofs.YtjhehanknkonnaaGreatDoor
open Go.RowKit
section
variable {P : Program} {ro : Option Nat} {n : Nat} {ds : List Deferred} {fs : List (Nat × Value)} {E : Env} {L : List Res} {ops : Array Oper} {T : Act → Fam → Prop} {π : List (Nat × Nat)} {i : Nat} {o : Oper} {J : Nat → World → Prop}
end
section
variable {P : Program} {fs : List (Nat × Value)} {E E0 : Env} {L : List Res} {o : Oper}
end
end Go.Proofs.YtjhehanknkonnaaGreatDoor
namespace Go.Proofs.YtjhehanknkonnaaGreatDoor
open Go.RowKit
section rules
variable {P : Program} {fs : List (Nat × Value)} {E : Env} {L : List Res} {o : Oper}
end rules
end Go.Proofs.YtjhehanknkonnaaGreatDoor
