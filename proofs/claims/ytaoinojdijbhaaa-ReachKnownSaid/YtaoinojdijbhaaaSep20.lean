/-
  Maps that are owned: entries in the order in which they came in; look-up, store, and the loop over a map.
-/
import Derived.Test.YtaoinojdijbhaaaSep19
import Derived.Maps.RangeRun
set_option linter.unusedSimpArgs false
set_option linter.unusedVariables false
set_option linter.unusedSectionVars false
namespace Go.Proofs.Ytaoinojdijbhaaa
open Go.RowKit

section entries
variable {α : Type}
def ents (enc : α → Value) : List (α × Value) → Nat → List MapEntry
  | [], _ => []
  | (a, v) :: l, i => ⟨enc a, v, i⟩ :: ents enc l (i + 1)
def mobj (enc : α → Value) (kv : List (α × Value)) : Obj := .map (ents enc kv 0).toArray kv.length
theorem ents_len (enc : α → Value) : ∀ (kv : List (α × Value)) i, (ents enc kv i).length = kv.length := by
  intro kv
  induction kv with
  | nil => intro i; rfl
  | cons p l ih => intro i; obtain ⟨a, v⟩ := p; simp [ents, ih]
theorem ents_get (enc : α → Value) : ∀ (kv : List (α × Value)) (i k : Nat), (ents enc kv i)[k]? = (kv[k]?).map (fun p => ⟨enc p.1, p.2, i + k⟩) := by
  intro kv
  induction kv with
  | nil => intro i k; simp [ents]
  | cons p l ih =>
    intro i k
    obtain ⟨a, v⟩ := p
    cases k with
    | zero => simp [ents]
    | succ k => simp only [ents, List.getElem?_cons_succ, ih]; rw [show i + 1 + k = i + (k + 1) by omega]
theorem ents_append (enc : α → Value) : ∀ (a b : List (α × Value)) i, ents enc (a ++ b) i = ents enc a i ++ ents enc b (i + a.length) := by
  intro a
  induction a with
  | nil => intro b i; simp [ents]
  | cons p l ih => intro b i; obtain ⟨x, v⟩ := p; simp only [List.cons_append, ents, ih, List.length_cons]; rw [show i + 1 + l.length = i + (l.length + 1) by omega]
theorem ents_born (enc : α → Value) : ∀ (kv : List (α × Value)) (i : Nat) (e : MapEntry), e ∈ ents enc kv i → ∃ k p, kv[k]? = some p ∧ e = ⟨enc p.1, p.2, i + k⟩ := by
  intro kv i e he
  obtain ⟨k, hk⟩ := List.mem_iff_getElem?.1 he
  rw [ents_get, Option.map_eq_some_iff] at hk
  obtain ⟨p, h1, h2⟩ := hk
  exact ⟨k, p, h1, h2.symm⟩
theorem ents_borns (enc : α → Value) : ∀ (kv : List (α × Value)) (i : Nat), (ents enc kv i).map (·.born) = List.range' i kv.length := by
  intro kv
  induction kv with
  | nil => intro i; rfl
  | cons p l ih => intro i; obtain ⟨a, v⟩ := p; simp only [ents, List.map_cons, ih, List.length_cons, List.range'_succ]
end entries
section model
variable {α : Type} [DecidableEq α]
def mget : List (α × Value) → α → Option Value
  | [], _ => none
  | (b, v) :: l, a => if a = b then some v else mget l a
def mput : List (α × Value) → α → Value → List (α × Value)
  | [], a, v => [(a, v)]
  | (b, u) :: l, a, v => if a = b then (b, v) :: l else (b, u) :: mput l a v
def mfind : List (α × Value) → α → Nat → Option (Nat × Value)
  | [], _, _ => none
  | (b, v) :: l, a, i => if a = b then some (i, v) else mfind l a (i + 1)
theorem mfind_mget : ∀ (kv : List (α × Value)) a i, (mfind kv a i).map (·.2) = mget kv a := by
  intro kv
  induction kv with
  | nil => intro a i; rfl
  | cons p l ih => intro a i; obtain ⟨b, v⟩ := p; simp only [mfind, mget]; split; rfl; exact ih _ _
theorem mfind_none : ∀ (kv : List (α × Value)) a i v, mfind kv a i = none → mput kv a v = kv ++ [(a, v)] := by
  intro kv
  induction kv with
  | nil => intro a i v _; rfl
  | cons p l ih =>
    intro a i v h
    obtain ⟨b, u⟩ := p
    simp only [mfind, mput] at h ⊢
    split at h
    · cases h
    · rename_i hne
      rw [if_neg hne, ih a (i + 1) v h, List.cons_append]
theorem mfind_some (enc : α → Value) : ∀ (kv : List (α × Value)) a i v k u, mfind kv a i = some (k, u) → i ≤ k ∧ kv[k - i]? = some (a, u) ∧ (mput kv a v).length = kv.length ∧
    ents enc (mput kv a v) i = (ents enc kv i).modify (k - i) (fun e => { e with key := enc a, val := v }) := by
  intro kv
  induction kv with
  | nil => intro a i v k u h; cases h
  | cons p l ih =>
    intro a i v k u h
    obtain ⟨b, x⟩ := p
    simp only [mfind] at h
    split at h
    · rename_i hab
      subst hab
      simp only [Option.some.injEq, Prod.mk.injEq] at h
      obtain ⟨rfl, rfl⟩ := h
      simp [mput, ents]
    · rename_i hne
      obtain ⟨h1, h2, h3, h4⟩ := ih a (i + 1) v k u h
      have e : k - i = (k - (i + 1)) + 1 := by omega
      refine ⟨by omega, ?_, ?_, ?_⟩
      · rw [e, List.getElem?_cons_succ]; exact h2
      · simp only [mput, if_neg hne, List.length_cons, h3]
      · simp only [mput, if_neg hne, ents]
        rw [e, List.modify_succ_cons, h4]
theorem mget_mput (kv : List (α × Value)) (a : α) (v : Value) (b : α) : mget (mput kv a v) b = if b = a then some v else mget kv b := by
  induction kv with
  | nil => simp only [mput, mget]
  | cons p l ih =>
    obtain ⟨c, u⟩ := p
    simp only [mput]
    split
    · rename_i h
      subst h
      simp only [mget]
      split <;> rfl
    · rename_i h
      simp only [mget, ih]
      split
      · rename_i h2
        subst h2
        rw [if_neg (fun e => h e.symm)]
      · rfl
end model

/-- How the keys of type t are written: they are compared at once. -/
class KeyT {α : Type} [DecidableEq α] (P : Program) (t : TypeId) (enc : α → Value) : Prop where
  chk : ∀ a b w, (Instr.checkKey b 10000 t (enc a)).run P w = .ok () w
  find : ∀ a kv w, (Instr.findKey t (enc a) (ents enc kv 0)).run P w = .ok (mfind kv a 0) w
  bits : ∀ a, Instr.sameBits 10000 (enc a) (enc a) = true

abbrev kI (n : Int) : Value := .int .i64 n
abbrev kS (s : List UInt8) : Value := .string (S s)

theorem find_now {α : Type} [DecidableEq α] {enc : α → Value} {kind : TypeDesc} (h : ∀ a b, Instr.sameNow kind (enc a) (enc b) = some (decide (a = b))) (a : α) : ∀ (kv : List (α × Value)) (j i : Nat), Instr.findNow kind (enc a) (ents enc kv j) i = some (mfind kv a i) := by
  intro kv
  induction kv with
  | nil => intro j i; rfl
  | cons p l ih =>
    intro j i
    obtain ⟨b, v⟩ := p
    simp only [ents, Instr.findNow, h, mfind]
    by_cases e : a = b
    · simp [e]
    · simp [e, ih]

theorem checkKey_plain {P : Program} {t : TypeId} {d : TypeDesc} {sz : Nat} {ag : Bool} (ht : Ty P t d sz ag) (hd : d = .int .i64 ∨ d = .string) (v : Value) (b : Bool) (w : World) : (Instr.checkKey b 10000 t v).run P w = .ok () w := by
  rw [show (10000 : Nat) = 9999 + 1 from rfl]
  unfold Instr.checkKey
  simp only [Sem.run_bind, ht.run, Result.andThen]
  rcases hd with rfl | rfl <;> rfl
theorem S_beq (a b : List UInt8) : (S a == S b) = decide (a = b) := by
  have e : (S a == S b) = ((S a).data == (S b).data) := rfl
  rw [e, Bool.eq_iff_iff, decide_eq_true_eq]
  simp [S]
instance keyI {P : Program} {t : TypeId} {sz : Nat} {ag : Bool} [ht : Ty P t (.int .i64) sz ag] : KeyT P t kI where
  chk a b w := checkKey_plain ht (.inl rfl) _ b w
  find a kv w := by
    simp only [Instr.findKey, Sem.run_bind, ht.run, Result.andThen]
    rw [find_now (enc := kI) (fun a b => by simp [Instr.sameNow, kI]; rfl)]
    rfl
  bits a := by simp [Instr.sameBits]
instance keyS {P : Program} {t : TypeId} {sz : Nat} {ag : Bool} [ht : Ty P t .string sz ag] : KeyT P t kS where
  chk a b w := checkKey_plain ht (.inr rfl) _ b w
  find a kv w := by
    simp only [Instr.findKey, Sem.run_bind, ht.run, Result.andThen]
    rw [find_now (enc := kS) (fun a b => by simp only [Instr.sameNow, kS, S_beq])]
    rfl
  bits a := by simp only [kS, Instr.sameBits, S_beq, decide_true]

section rules
variable {P : Program} {ro : Option Nat} {n : Nat} {ds : List Deferred} {fs : List (Nat × Value)} {E : Env} {L L' : List Res} {ops : Array Oper} {Q : Exit → Act → World → Prop} {o : Oper} {rest : List Oper}
variable {α : Type} [DecidableEq α] {enc : α → Value}

theorem G_makeMap {t key elem : TypeId} {sz : Nat} {ag : Bool} [ht : Ty P t (.map key elem) sz ag] {d : Nat} (enc : α → Value) [hk : KeyT P key enc] (ho : o.op = .makeMap t none) (hd : o.dst = some d) (hn : Nat.blt d n = true) (hg : Goes ops fs o)
    (h : ∀ b, G n ds ((d, .map (some b)) :: fs) E (.blk b (mobj enc []) :: L) (wpListIn (Wd ro) 0 P ops Q rest)) : G n ds fs E L (wpListIn (Wd ro) 0 P ops Q (o :: rest)) :=
  G_any hg (by rw [ho]; intro c h; cases h) fun a w ha hw => by
    have e : (execOp a.eval o).run P w = .ok (.value (.map (some w.heap.size))) (w.alloc (mobj enc [])) := by
      simp [execOp, ho, Instr.makeMap, Result.andThen, mobj, ents]
    rw [e]
    simp only [Oper.uponIn_value, hd]
    exact h w.heap.size _ _ (ha.put hn _) (hw.alloc _)

theorem V_lookup {t key elem : TypeId} {sz : Nat} {ag : Bool} [ht : Ty P t (.map key elem) sz ag] (enc : α → Value) [hk : KeyT P key enc] {z : Value} {zc : Array Value} [hz : Zero P elem z zc] {x y : Operand} {b : Nat} {kv : List (α × Value)} (a : α)
    (ho : o.op = .lookup t x y false) (hx : ev fs x = some (.map (some b))) (hy : ev fs y = some (enc a)) (hm : Res.blk b (mobj enc kv) ∈ L) : Val P o fs E L ((mget kv a).getD z) :=
  ⟨(by rw [ho]; intro c h; cases h), fun n ds a' w ha hw => by
    have hb : w.heap[b]? = some (mobj enc kv) := hw.own _ hm
    have hg : (getObj b).run P w = .ok (mobj enc kv) w := by simp [getObj, Sem.run, hb, mobj]
    have e1 : (ents enc kv 0).toArray.toList = ents enc kv 0 := by simp
    have e2 := hk.find a kv w
    rw [← mfind_mget kv a 0]
    simp only [execOp, ho, ha.eval hx, ha.eval hy, Instr.lookup, Sem.run_bind, ht.run, Result.andThen, hg, mobj, Sem.run_pure, hk.chk, e1, e2]
    cases mfind kv a 0 with
    | none => simp [hz.zv, Result.andThen]
    | some p => obtain ⟨i, v⟩ := p; simp⟩
theorem V_lookupOk {t key elem : TypeId} {sz : Nat} {ag : Bool} [ht : Ty P t (.map key elem) sz ag] (enc : α → Value) [hk : KeyT P key enc] {z : Value} {zc : Array Value} [hz : Zero P elem z zc] {x y : Operand} {b : Nat} {kv : List (α × Value)} (a : α)
    (ho : o.op = .lookup t x y true) (hx : ev fs x = some (.map (some b))) (hy : ev fs y = some (enc a)) (hm : Res.blk b (mobj enc kv) ∈ L) : Val P o fs E L (.tuple #[(mget kv a).getD z, .bool (mget kv a).isSome]) :=
  ⟨(by rw [ho]; intro c h; cases h), fun n ds a' w ha hw => by
    have hb : w.heap[b]? = some (mobj enc kv) := hw.own _ hm
    have hg : (getObj b).run P w = .ok (mobj enc kv) w := by simp [getObj, Sem.run, hb, mobj]
    have e1 : (ents enc kv 0).toArray.toList = ents enc kv 0 := by simp
    have e2 := hk.find a kv w
    rw [← mfind_mget kv a 0]
    simp only [execOp, ho, ha.eval hx, ha.eval hy, Instr.lookup, Sem.run_bind, ht.run, Result.andThen, hg, mobj, Sem.run_pure, hk.chk, e1, e2]
    cases mfind kv a 0 with
    | none => simp [hz.zv, Result.andThen]
    | some p => obtain ⟨i, v⟩ := p; simp⟩

theorem run_mapUpdate {t key elem : TypeId} {sz : Nat} {ag : Bool} [ht : Ty P t (.map key elem) sz ag] [hk : KeyT P key enc] {b : Nat} {kv : List (α × Value)} (a : α) (v : Value) {w : World} (hb : w.heap[b]? = some (mobj enc kv)) :
    (Instr.mapUpdate t (.map (some b)) (enc a) v).run P w = .ok () (w.putObj b (mobj enc (mput kv a v))) := by
  have hg : (getObj b).run P w = .ok (mobj enc kv) w := by simp [getObj, Sem.run, hb, mobj]
  have hs : ∀ o' : Obj, (setObj b o').run P w = .ok () (w.putObj b o') := fun o' => by simp [setObj, Sem.run, hb, mobj, World.putObj]
  have e1 : (ents enc kv 0).toArray.toList = ents enc kv 0 := by simp
  have e2 := hk.find a kv w
  simp only [Instr.mapUpdate, Sem.run_bind, ht.run, Result.andThen, hg, mobj, hk.chk, e1, e2]
  cases hf : mfind kv a 0 with
  | none =>
    have h1 := mfind_none kv a 0 v hf
    have h2 : (ents enc kv 0).toArray.push ⟨enc a, v, kv.length⟩ = (ents enc (mput kv a v) 0).toArray := by
      rw [h1, ents_append]; simp [ents]
    simp only [hs, h2, h1, List.length_append, List.length_singleton]
  | some p =>
    obtain ⟨i, u⟩ := p
    obtain ⟨_, h2, h3, h4⟩ := mfind_some enc kv a 0 v i u hf
    rw [Nat.sub_zero] at h2 h4
    have hkey : (((ents enc kv 0).toArray[i]?).map (·.key)).getD (enc a) = enc a := by simp [ents_get, h2]
    have hmod : (ents enc kv 0).toArray.modify i (fun e => { e with key := enc a, val := v }) = (ents enc (mput kv a v) 0).toArray := by
      rw [h4]; apply Array.ext'; simp
    simp only [hkey, Instr.keyThatStays, hk.bits, if_true, Sem.run_bind, Sem.run_pure, Result.andThen, hs, hmod, h3]
theorem G_mapUpdate {t key elem : TypeId} {sz : Nat} {ag : Bool} [ht : Ty P t (.map key elem) sz ag] (enc : α → Value) [hk : KeyT P key enc] {x y z : Operand} {b : Nat} {kv : List (α × Value)} (a : α) {v : Value}
    (ho : o.op = .mapUpdate t x y z ∨ o.op = .insert t x y z) (hx : ev fs x = some (.map (some b))) (hy : ev fs y = some (enc a)) (hz : ev fs z = some v) (hd : o.dst = none) (hg : Goes ops fs o)
    (u : Upd L (.blk b (mobj enc kv)) (.blk b (mobj enc (mput kv a v))) L')
    (h : G n ds fs E L' (wpListIn (Wd ro) 0 P ops Q rest)) : G n ds fs E L (wpListIn (Wd ro) 0 P ops Q (o :: rest)) :=
  G_any hg (by rcases ho with ho | ho <;> (rw [ho]; intro c h; cases h)) fun a' w ha hw => by
    have hb : w.heap[b]? = some (mobj enc kv) := hw.own _ u.mem
    have e : (execOp a'.eval o).run P w = .ok .skip (w.putObj b (mobj enc (mput kv a v))) := by
      rcases ho with ho | ho <;> simp [execOp, ho, ha.eval hx, ha.eval hy, ha.eval hz, run_mapUpdate (t := t) (key := key) (elem := elem) a v hb, Result.andThen]
    rw [e]
    simp only [Oper.uponIn_skip, hd]
    exact h _ _ ha (hw.put u)
theorem V_lenM {x : Operand} {t : TypeId} {key elem : TypeId} {sz : Nat} {ag : Bool} [ht : Ty P t (.map key elem) sz ag] {b : Nat} (enc : α → Value) {kv : List (α × Value)} (ho : o.op = .call { callee := .builtin .len, args := #[x], argTypes := #[t] })
    (hx : ev fs x = some (.map (some b))) (hm : Res.blk b (mobj enc kv) ∈ L) (hl : kv.length ≤ 9223372036854775807) : Val P o fs E L (.int .i64 kv.length) :=
  ⟨(by rw [ho]; intro c h; cases h), fun n ds a' w ha hw => by
    have hb : w.heap[b]? = some (mobj enc kv) := hw.own _ hm
    have hg : (getObj b).run P w = .ok (mobj enc kv) w := by simp [getObj, Sem.run, hb, mobj]
    rw [mobj] at hg
    simp [execOp, ho, resolve, invoke, builtin, ha.eval hx, Builtin.len_, ht.run, hg, Result.andThen, ents_len, goInt]⟩

/-! ### The loop over a map -/
/-- An iterator over the map in block m; these entries have been handed out. -/
def miter (m k : Nat) (seen : List Nat) (c : Nat) : Obj := .mapIter (some m) k seen.toArray c
theorem G_rangeM {t key elem : TypeId} {sz : Nat} {ag : Bool} [ht : Ty P t (.map key elem) sz ag] (enc : α → Value) {x : Operand} {m : Nat} {kv : List (α × Value)} {d : Nat} (ho : o.op = .range t x) (hx : ev fs x = some (.map (some m)))
    (hm : Res.blk m (mobj enc kv) ∈ L) (hd : o.dst = some d) (hn : Nat.blt d n = true) (hg : Goes ops fs o)
    (h : ∀ b, G n ds ((d, .pointer (some ⟨b, 0, none⟩)) :: fs) E (.blk b (miter m kv.length [] kv.length) :: L) (wpListIn (Wd ro) 0 P ops Q rest)) : G n ds fs E L (wpListIn (Wd ro) 0 P ops Q (o :: rest)) :=
  G_any hg (by rw [ho]; intro c h; cases h) fun a w ha hw => by
    have hb : w.heap[m]? = some (mobj enc kv) := hw.own _ hm
    have hgo : (getObj m).run P w = .ok (mobj enc kv) w := by simp [getObj, Sem.run, hb, mobj]
    have e : (execOp a.eval o).run P w = .ok (.value (.pointer (some ⟨w.heap.size, 0, none⟩))) (w.alloc (miter m kv.length [] kv.length)) := by
      simp [execOp, ho, ha.eval hx, Instr.range, ht.run, hgo, mobj, miter, Result.andThen]
    rw [e]
    simp only [Oper.uponIn_value, hd]
    exact h w.heap.size _ _ (ha.put hn _) (hw.alloc _)
/-- The next entry, whichever it is: or all have been handed out. -/
theorem G_nextM {LL : Nat → List Res} (enc : α → Value) {x : Operand} {b m c d : Nat} {kv : List (α × Value)} {seen : List Nat} (ho : o.op = .next x false) (hx : ev fs x = some (.pointer (some ⟨b, 0, none⟩)))
    (hm : Res.blk m (mobj enc kv) ∈ L) (hc : kv.length ≤ c) (hd : o.dst = some d) (hn : Nat.blt d n = true) (hg : Goes ops fs o)
    (u : ∀ i, Upd L (.blk b (miter m kv.length seen c)) (.blk b (miter m kv.length (seen ++ [i]) kv.length)) (LL i))
    (h1 : (∀ i, i < kv.length → i ∈ seen) → G n ds ((d, .tuple #[.bool false]) :: fs) E L (wpListIn (Wd ro) 0 P ops Q rest))
    (h2 : ∀ i p, i ∉ seen → kv[i]? = some p → G n ds ((d, .tuple #[.bool true, enc p.1, p.2]) :: fs) E (LL i) (wpListIn (Wd ro) 0 P ops Q rest)) : G n ds fs E L (wpListIn (Wd ro) 0 P ops Q (o :: rest)) :=
  G_any hg (by rw [ho]; intro c h; cases h) fun a w ha hw => by
    have hb : w.heap[m]? = some (.map (ents enc kv 0).toArray kv.length) := hw.own _ hm
    have hr : w.heap[b]? = some (.mapIter (some m) kv.length seen.toArray c) := hw.own _ (u 0).mem
    have hold : ∀ e, e ∈ (ents enc kv 0).toArray.toList → e.born < kv.length := by
      intro e he
      obtain ⟨k, p, h1, rfl⟩ := ents_born enc kv 0 e (by simpa using he)
      have := (List.getElem?_eq_some_iff.1 h1).1
      simpa using this
    have hmem : ∀ e, e ∈ (leftOf (ents enc kv 0).toArray seen.toArray).toList ↔ e ∈ ents enc kv 0 ∧ e.born ∉ seen := by
      intro e
      simp [leftOf]
    rcases run_next_at (P := P) w o.type b m kv.length c seen.toArray _ _ hr hb hold hc with ⟨h0, hrun⟩ | ⟨e, he, w1, hw1, hrun⟩
    · have e : (execOp a.eval o).run P w = .ok (.value (.tuple #[.bool false])) w := by simp [execOp, ho, ha.eval hx, hrun, Result.andThen]
      rw [e]
      simp only [Oper.uponIn_value, hd]
      refine h1 ?_ _ _ (ha.put hn _) hw
      intro i hi
      refine Decidable.byContradiction fun hni => ?_
      have hmm := (hmem ⟨enc kv[i].1, kv[i].2, i⟩).2 ⟨List.mem_iff_getElem?.2 ⟨i, by rw [ents_get, List.getElem?_eq_getElem hi]; simp⟩, hni⟩
      have hz : (leftOf (ents enc kv 0).toArray seen.toArray).toList = [] := List.eq_nil_of_length_eq_zero (by simpa using h0)
      rw [hz] at hmm
      cases hmm
    · obtain ⟨he1, he2⟩ := (hmem e).1 he
      obtain ⟨k, p, hk, rfl⟩ := ents_born enc kv 0 e he1
      simp only [Nat.zero_add] at he2 hrun
      have e : (execOp a.eval o).run P w = .ok (.value (.tuple #[.bool true, enc p.1, p.2])) (ChangeMaps.setBlock w1 b (.mapIter (some m) kv.length (seen.toArray.push k) kv.length)) := by simp [execOp, ho, ha.eval hx, hrun, Result.andThen]
      rw [e]
      simp only [Oper.uponIn_value, hd]
      have hset : ChangeMaps.setBlock w1 b (.mapIter (some m) kv.length (seen.toArray.push k) kv.length) = w1.putObj b (miter m kv.length (seen ++ [k]) kv.length) := by
        simp [ChangeMaps.setBlock, World.putObj, miter]
      rw [hset]
      have hw' : St E L w1 := by rcases hw1 with rfl | rfl; exact hw; exact hw.drew _
      exact h2 k p he2 hk _ _ (ha.put hn _) (hw'.put (u k))
theorem V_entryM (enc : α → Value) {x : Operand} {b m i : Nat} {kv : List (α × Value)} {seen : List Nat} {p : α × Value} (ho : o.op = .entry x) (hx : ev fs x = some (.pointer (some ⟨b, 0, none⟩)))
    (hb : Res.blk b (miter m kv.length (seen ++ [i]) kv.length) ∈ L) (hm : Res.blk m (mobj enc kv) ∈ L) (hp : kv[i]? = some p) : Val P o fs E L (.tuple #[enc p.1, p.2]) :=
  ⟨(by rw [ho]; intro c h; cases h), fun n ds a w ha hw => by
    have h1 : w.heap[m]? = some (.map (ents enc kv 0).toArray kv.length) := hw.own _ hm
    have h2 : w.heap[b]? = some (.mapIter (some m) kv.length (seen.toArray.push i) kv.length) := by
      have := hw.own _ hb
      simpa [Res.blk, miter] using this
    have h3 : (⟨enc p.1, p.2, i⟩ : MapEntry) ∈ (ents enc kv 0).toArray.toList := by
      simp only [List.mem_iff_getElem?]
      exact ⟨i, by simp [ents_get, hp]⟩
    have h4 : (((ents enc kv 0).toArray.toList).map (·.born)).Nodup := by
      simp only [ents_borns]
      exact List.nodup_range'
    have hrun := run_entry_at (P := P) w b m kv.length seen.toArray _ _ ⟨enc p.1, p.2, i⟩ h2 h1 h3 h4
    simp [execOp, ho, ha.eval hx, hrun, Result.andThen]⟩
end rules
end Go.Proofs.Ytaoinojdijbhaaa
