/-
  Rules and contracts, packed: Sep20, Sep21, Sep22, Sep23, Sep24, Sep35, Sep30, Inst, Sep25.
-/
import Derived.Maps.RangeRun
import Derived.Laws.MakeOwn
import Derived.Laws.RangeAny
import Derived.ChangeKeysEq
import Derived.Test.YtaibabmladgldaaDoorProg
import Derived.Test.YtaibabmladgldaaDoorQ2
set_option maxHeartbeats 1000000
set_option linter.unusedSimpArgs false
set_option linter.unusedVariables false
set_option linter.unusedSectionVars false
namespace Go.Proofs.YtaibabmladgldaaDoor
open Go.RowKit

section entries
variable {α : Type}
def ents (enc : α → Value) : List (α × Value) → Nat → List MapEntry
  | [], _ => []
  | (a, v) :: l, i => ⟨enc a, v, i⟩ :: ents enc l (i + 1)
def mobj (enc : α → Value) (kv : List (α × Value)) : Obj := .map (ents enc kv 0).toArray kv.length
theorem ents_get (enc : α → Value) : ∀ (kv : List (α × Value)) (i k : Nat), (ents enc kv i)[k]? = (kv[k]?).map (fun p => ⟨enc p.1, p.2, i + k⟩) := by
  intro kv
  induction kv with
  | nil => intro i k; simp [ents]
  | cons p l ih =>
    intro i k
    obtain ⟨a, v⟩ := p
    cases k with
    | zero => simp [ents]
    | succ k => simp only [ents, List.getElem?_cons_succ, ih]; rw [show i + 1 + k = i + (k + 1) by omega]
theorem ents_append (enc : α → Value) : ∀ (a b : List (α × Value)) i, ents enc (a ++ b) i = ents enc a i ++ ents enc b (i + a.length) := by
  intro a
  induction a with
  | nil => intro b i; simp [ents]
  | cons p l ih => intro b i; obtain ⟨x, v⟩ := p; simp only [List.cons_append, ents, ih, List.length_cons]; rw [show i + 1 + l.length = i + (l.length + 1) by omega]
end entries
section model
variable {α : Type} [DecidableEq α]
def mget : List (α × Value) → α → Option Value
  | [], _ => none
  | (b, v) :: l, a => if a = b then some v else mget l a
def mput : List (α × Value) → α → Value → List (α × Value)
  | [], a, v => [(a, v)]
  | (b, u) :: l, a, v => if a = b then (b, v) :: l else (b, u) :: mput l a v
def mfind : List (α × Value) → α → Nat → Option (Nat × Value)
  | [], _, _ => none
  | (b, v) :: l, a, i => if a = b then some (i, v) else mfind l a (i + 1)
theorem mfind_mget : ∀ (kv : List (α × Value)) a i, (mfind kv a i).map (·.2) = mget kv a := by
  intro kv
  induction kv with
  | nil => intro a i; rfl
  | cons p l ih => intro a i; obtain ⟨b, v⟩ := p; simp only [mfind, mget]; split; rfl; exact ih _ _
theorem mfind_none : ∀ (kv : List (α × Value)) a i v, mfind kv a i = none → mput kv a v = kv ++ [(a, v)] := by
  intro kv
  induction kv with
  | nil => intro a i v _; rfl
  | cons p l ih =>
    intro a i v h
    obtain ⟨b, u⟩ := p
    simp only [mfind, mput] at h ⊢
    split at h
    · cases h
    · rename_i hne
      rw [if_neg hne, ih a (i + 1) v h, List.cons_append]
theorem mfind_some (enc : α → Value) : ∀ (kv : List (α × Value)) a i v k u, mfind kv a i = some (k, u) → i ≤ k ∧ kv[k - i]? = some (a, u) ∧ (mput kv a v).length = kv.length ∧
    ents enc (mput kv a v) i = (ents enc kv i).modify (k - i) (fun e => { e with key := enc a, val := v }) := by
  intro kv
  induction kv with
  | nil => intro a i v k u h; cases h
  | cons p l ih =>
    intro a i v k u h
    obtain ⟨b, x⟩ := p
    simp only [mfind] at h
    split at h
    · rename_i hab
      subst hab
      simp only [Option.some.injEq, Prod.mk.injEq] at h
      obtain ⟨rfl, rfl⟩ := h
      simp [mput, ents]
    · rename_i hne
      obtain ⟨h1, h2, h3, h4⟩ := ih a (i + 1) v k u h
      have e : k - i = (k - (i + 1)) + 1 := by omega
      refine ⟨by omega, ?_, ?_, ?_⟩
      · rw [e, List.getElem?_cons_succ]; exact h2
      · simp only [mput, if_neg hne, List.length_cons, h3]
      · simp only [mput, if_neg hne, ents]
        rw [e, List.modify_succ_cons, h4]
end model

/-- How the keys of type t are written: they are compared at once. -/
class KeyT {α : Type} [DecidableEq α] (P : Program) (t : TypeId) (enc : α → Value) : Prop where
  chk : ∀ a b w, (Instr.checkKey b 10000 t (enc a)).run P w = .ok () w
  find : ∀ a kv w, (Instr.findKey t (enc a) (ents enc kv 0)).run P w = .ok (mfind kv a 0) w
  bits : ∀ a, Instr.sameBits 10000 (enc a) (enc a) = true

abbrev kI (n : Int) : Value := .int .i64 n
abbrev kS (s : List UInt8) : Value := .string (S s)

theorem find_now {α : Type} [DecidableEq α] {enc : α → Value} {kind : TypeDesc} (h : ∀ a b, Instr.sameNow kind (enc a) (enc b) = some (decide (a = b))) (a : α) : ∀ (kv : List (α × Value)) (j i : Nat), Instr.findNow kind (enc a) (ents enc kv j) i = some (mfind kv a i) := by
  intro kv
  induction kv with
  | nil => intro j i; rfl
  | cons p l ih =>
    intro j i
    obtain ⟨b, v⟩ := p
    simp only [ents, Instr.findNow, h, mfind]
    by_cases e : a = b
    · simp [e]
    · simp [e, ih]

theorem checkKey_plain {P : Program} {t : TypeId} {d : TypeDesc} {sz : Nat} {ag : Bool} (ht : Ty P t d sz ag) (hd : d = .int .i64 ∨ d = .string) (v : Value) (b : Bool) (w : World) : (Instr.checkKey b 10000 t v).run P w = .ok () w := by
  rw [show (10000 : Nat) = 9999 + 1 from rfl]
  unfold Instr.checkKey
  simp only [Sem.run_bind, ht.run, Result.andThen]
  rcases hd with rfl | rfl <;> rfl
theorem S_beq (a b : List UInt8) : (S a == S b) = decide (a = b) := by
  have e : (S a == S b) = ((S a).data == (S b).data) := rfl
  rw [e, Bool.eq_iff_iff, decide_eq_true_eq]
  simp [S]
instance keyI {P : Program} {t : TypeId} {sz : Nat} {ag : Bool} [ht : Ty P t (.int .i64) sz ag] : KeyT P t kI where
  chk a b w := checkKey_plain ht (.inl rfl) _ b w
  find a kv w := by
    simp only [Instr.findKey, Sem.run_bind, ht.run, Result.andThen]
    rw [find_now (enc := kI) (fun a b => by simp [Instr.sameNow, kI]; rfl)]
    rfl
  bits a := by simp [Instr.sameBits]
instance keyS {P : Program} {t : TypeId} {sz : Nat} {ag : Bool} [ht : Ty P t .string sz ag] : KeyT P t kS where
  chk a b w := checkKey_plain ht (.inr rfl) _ b w
  find a kv w := by
    simp only [Instr.findKey, Sem.run_bind, ht.run, Result.andThen]
    rw [find_now (enc := kS) (fun a b => by simp only [Instr.sameNow, kS, S_beq])]
    rfl
  bits a := by simp only [kS, Instr.sameBits, S_beq, decide_true]

section rules
variable {P : Program} {ro : Option Nat} {n : Nat} {ds : List Deferred} {fs : List (Nat × Value)} {E : Env} {L L' : List Res} {ops : Array Oper} {Q : Exit → Act → World → Prop} {o : Oper} {rest : List Oper}
variable {α : Type} [DecidableEq α] {enc : α → Value}

theorem G_makeMap {t key elem : TypeId} {sz : Nat} {ag : Bool} [ht : Ty P t (.map key elem) sz ag] {d : Nat} (enc : α → Value) [hk : KeyT P key enc] (ho : o.op = .makeMap t none) (hd : o.dst = some d) (hn : Nat.blt d n = true) (hg : Goes ops fs o)
    (h : ∀ b, G n ds ((d, .map (some b)) :: fs) E (.blk b (mobj enc []) :: L) (wpListIn (Wd ro) 0 P ops Q rest)) : G n ds fs E L (wpListIn (Wd ro) 0 P ops Q (o :: rest)) :=
  G_any hg (by rw [ho]; intro c h; cases h) fun a w ha hw => by
    have e : (execOp a.eval o).run P w = .ok (.value (.map (some w.heap.size))) (w.alloc (mobj enc [])) := by
      simp [execOp, ho, Instr.makeMap, Result.andThen, mobj, ents]
    rw [e]
    simp only [Oper.uponIn_value, hd]
    exact h w.heap.size _ _ (ha.put hn _) (hw.alloc _)

theorem V_lookup {t key elem : TypeId} {sz : Nat} {ag : Bool} [ht : Ty P t (.map key elem) sz ag] (enc : α → Value) [hk : KeyT P key enc] {z : Value} {zc : Array Value} [hz : Zero P elem z zc] {x y : Operand} {b : Nat} {kv : List (α × Value)} (a : α)
    (ho : o.op = .lookup t x y false) (hx : ev fs x = some (.map (some b))) (hy : ev fs y = some (enc a)) (hm : Res.blk b (mobj enc kv) ∈ L) : Val P o fs E L ((mget kv a).getD z) :=
  ⟨(by rw [ho]; intro c h; cases h), fun n ds a' w ha hw => by
    have hb : w.heap[b]? = some (mobj enc kv) := hw.own _ hm
    have hg : (getObj b).run P w = .ok (mobj enc kv) w := by simp [getObj, Sem.run, hb, mobj]
    have e1 : (ents enc kv 0).toArray.toList = ents enc kv 0 := by simp
    have e2 := hk.find a kv w
    rw [← mfind_mget kv a 0]
    simp only [execOp, ho, ha.eval hx, ha.eval hy, Instr.lookup, Sem.run_bind, ht.run, Result.andThen, hg, mobj, Sem.run_pure, hk.chk, e1, e2]
    cases mfind kv a 0 with
    | none => simp [hz.zv, Result.andThen]
    | some p => obtain ⟨i, v⟩ := p; simp⟩
theorem run_mapUpdate {t key elem : TypeId} {sz : Nat} {ag : Bool} [ht : Ty P t (.map key elem) sz ag] [hk : KeyT P key enc] {b : Nat} {kv : List (α × Value)} (a : α) (v : Value) {w : World} (hb : w.heap[b]? = some (mobj enc kv)) :
    (Instr.mapUpdate t (.map (some b)) (enc a) v).run P w = .ok () (w.putObj b (mobj enc (mput kv a v))) := by
  have hg : (getObj b).run P w = .ok (mobj enc kv) w := by simp [getObj, Sem.run, hb, mobj]
  have hs : ∀ o' : Obj, (setObj b o').run P w = .ok () (w.putObj b o') := fun o' => by simp [setObj, Sem.run, hb, mobj, World.putObj]
  have e1 : (ents enc kv 0).toArray.toList = ents enc kv 0 := by simp
  have e2 := hk.find a kv w
  simp only [Instr.mapUpdate, Sem.run_bind, ht.run, Result.andThen, hg, mobj, hk.chk, e1, e2]
  cases hf : mfind kv a 0 with
  | none =>
    have h1 := mfind_none kv a 0 v hf
    have h2 : (ents enc kv 0).toArray.push ⟨enc a, v, kv.length⟩ = (ents enc (mput kv a v) 0).toArray := by
      rw [h1, ents_append]; simp [ents]
    simp only [hs, h2, h1, List.length_append, List.length_singleton]
  | some p =>
    obtain ⟨i, u⟩ := p
    obtain ⟨_, h2, h3, h4⟩ := mfind_some enc kv a 0 v i u hf
    rw [Nat.sub_zero] at h2 h4
    have hkey : (((ents enc kv 0).toArray[i]?).map (·.key)).getD (enc a) = enc a := by simp [ents_get, h2]
    have hmod : (ents enc kv 0).toArray.modify i (fun e => { e with key := enc a, val := v }) = (ents enc (mput kv a v) 0).toArray := by
      rw [h4]; apply Array.ext'; simp
    simp only [hkey, Instr.keyThatStays, hk.bits, if_true, Sem.run_bind, Sem.run_pure, Result.andThen, hs, hmod, h3]
theorem G_mapUpdate {t key elem : TypeId} {sz : Nat} {ag : Bool} [ht : Ty P t (.map key elem) sz ag] (enc : α → Value) [hk : KeyT P key enc] {x y z : Operand} {b : Nat} {kv : List (α × Value)} (a : α) {v : Value}
    (ho : o.op = .mapUpdate t x y z ∨ o.op = .insert t x y z) (hx : ev fs x = some (.map (some b))) (hy : ev fs y = some (enc a)) (hz : ev fs z = some v) (hd : o.dst = none) (hg : Goes ops fs o)
    (u : Upd L (.blk b (mobj enc kv)) (.blk b (mobj enc (mput kv a v))) L')
    (h : G n ds fs E L' (wpListIn (Wd ro) 0 P ops Q rest)) : G n ds fs E L (wpListIn (Wd ro) 0 P ops Q (o :: rest)) :=
  G_any hg (by rcases ho with ho | ho <;> (rw [ho]; intro c h; cases h)) fun a' w ha hw => by
    have hb : w.heap[b]? = some (mobj enc kv) := hw.own _ u.mem
    have e : (execOp a'.eval o).run P w = .ok .skip (w.putObj b (mobj enc (mput kv a v))) := by
      rcases ho with ho | ho <;> simp [execOp, ho, ha.eval hx, ha.eval hy, ha.eval hz, run_mapUpdate (t := t) (key := key) (elem := elem) a v hb, Result.andThen]
    rw [e]
    simp only [Oper.uponIn_skip, hd]
    exact h _ _ ha (hw.put u)
/-! ### The loop over a map -/
end rules
end Go.Proofs.YtaibabmladgldaaDoor
set_option linter.unusedSimpArgs false
set_option linter.unusedVariables false
set_option linter.unusedSectionVars false
namespace Go.Proofs.YtaibabmladgldaaDoor
open Go.RowKit

section rules
variable {P : Program} {ro : Option Nat} {n : Nat} {ds : List Deferred} {fs : List (Nat × Value)} {E : Env} {L L' : List Res} {ops : Array Oper} {Q : Exit → Act → World → Prop} {o : Oper} {rest : List Oper} {X : Act → World → Prop}
variable {T : Act → Fam → Prop} {π : List (Nat × Nat)} {i : Nat} {js js' : List JI}

theorem V_idxB {x y : Operand} {t e : TypeId} {d : TypeDesc} {sz sz' : Nat} {ag ag' : Bool} [ht : Ty P t (.slice e) sz' ag'] [he : Ty P e d sz ag] {b m c : Nat} {k : IntKind} {i : Int}
    (ho : o.op = .indexAddr t x y) (hx : ev fs x = some (.slice (some ⟨b, 0, none⟩) m c)) (hy : ev fs y = some (.int k i)) (h0 : 0 ≤ i) (h1 : i < m) : Val P o fs E L (.pointer (some ⟨b, i.toNat * sz, none⟩)) :=
  ⟨(by rw [ho]; intro c h; cases h), fun n ds a' w ha hw => by
    have hl : i.toNat < m := by omega
    have hni : ¬ i < 0 := by omega
    have e2 := addr_add b 0 (i.toNat * sz)
    rw [Nat.zero_add] at e2
    simp [execOp, ho, ha.eval hx, ha.eval hy, Instr.indexAt, asIntOf, ht.run, he.size, Result.andThen, h0, h1, e2]⟩
theorem V_idxB1 {x y : Operand} {t e : TypeId} {d : TypeDesc} {sz' : Nat} {ag ag' : Bool} [ht : Ty P t (.slice e) sz' ag'] [he : Ty P e d 1 ag] {b m c : Nat} {k : IntKind} {i : Int}
    (ho : o.op = .indexAddr t x y) (hx : ev fs x = some (.slice (some ⟨b, 0, none⟩) m c)) (hy : ev fs y = some (.int k i)) (h0 : 0 ≤ i) (h1 : i < m) : Val P o fs E L (.pointer (some ⟨b, i.toNat, none⟩)) := by
  have := V_idxB (P := P) (E := E) (L := L) (ht := ht) (he := he) ho hx hy h0 h1
  rwa [Nat.mul_one] at this
theorem V_idxB1n {x y : Operand} {t e : TypeId} {d : TypeDesc} {sz' : Nat} {ag ag' : Bool} [ht : Ty P t (.slice e) sz' ag'] [he : Ty P e d 1 ag] {b m c : Nat} {k : IntKind} {i : Nat}
    (ho : o.op = .indexAddr t x y) (hx : ev fs x = some (.slice (some ⟨b, 0, none⟩) m c)) (hy : ev fs y = some (.int k (i : Int))) (h1 : i < m) : Val P o fs E L (.pointer (some ⟨b, i, none⟩)) :=
  V_idxB1 (ht := ht) (he := he) ho hx hy (by omega) (by omega)
/-- A store of one cell anywhere. -/
theorem G_storeB {t : TypeId} {x y : Operand} {b off : Nat} {v : Value} {d : TypeDesc} {TT : TypeId} {l : List Value} {ag : Bool} [ht : Ty P t d 1 ag]
    (ho : o.op = .store t x y) (hx : ev fs x = some (.pointer (some ⟨b, off, none⟩))) (hy : ev fs y = some v) (hc : v.cells = #[v]) (hone : v.oneCell' = true)
    (hd : o.dst = none) (hg : Goes ops fs o) (hu : Upd L (.blk b (.cells l.toArray TT (0, 0))) (.blk b (.cells (l.set off v).toArray TT (0, 0))) L') (hl : off < l.length)
    (h : G n ds fs E L' (wpListIn (Wd ro) 0 P ops Q rest)) : G n ds fs E L (wpListIn (Wd ro) 0 P ops Q (o :: rest)) :=
  G_storeAt ho hx hy hc hone hd hg hu (by simpa using hl) (by simp) h
theorem F_storeB {t : TypeId} {x y : Operand} {b off : Nat} {v : Value} {d : TypeDesc} {TT : TypeId} {l : List Value} {ag : Bool} [ht : Ty P t d 1 ag]
    (h0 : ops[i]? = some o) (ho : o.op = .store t x y) (hx : ev fs x = some (.pointer (some ⟨b, off, none⟩))) (hy : ev fs y = some v) (hc : v.cells = #[v]) (hone : v.oneCell' = true)
    (hd : o.dst = none) (hg : Goes ops fs o) (hu : Upd L (.blk b (.cells l.toArray TT (0, 0))) (.blk b (.cells (l.set off v).toArray TT (0, 0))) L') (hl : off < l.length) (hj : Jok ops i js js' E L')
    (h : GF n ds fs E L' (wpF P ops T (JL js') π)) : GF n ds fs E L (wpF P ops T (JL js) ((i, 4) :: π)) :=
  F_storeAt h0 ho hx hy hc hone hd hg hu (by simpa using hl) (by simp) hj h
/-- An array is shut for good: it is a slice that may be read. -/
theorem G.freezeB {b k sz : Nat} {TT : TypeId} {l : List Value} (d : Del L (.blk b (.cells l.toArray TT (0, 0))) L') (hl : l.length = k * sz) (h : ∀ E', E.Le E' → SlE E' sz (some ⟨b, 0, none⟩) k l → G n ds fs E' L' X) : G n ds fs E L X :=
  G.freeze d fun E' hE hok => h E' hE (SlE.lit hok hl)

/-! ### The loop over a string -/
theorem G_rangeStr {t : TypeId} {sz : Nat} {ag : Bool} [ht : Ty P t .string sz ag] {x : Operand} {s : List UInt8} {d : Nat} (ho : o.op = .range t x) (hx : ev fs x = some (.string (S s))) (hd : o.dst = some d) (hn : Nat.blt d n = true) (hg : Goes ops fs o)
    (h : ∀ b, G n ds ((d, .pointer (some ⟨b, 0, none⟩)) :: fs) E (.blk b (.stringIter (S s) 0) :: L) (wpListIn (Wd ro) 0 P ops Q rest)) : G n ds fs E L (wpListIn (Wd ro) 0 P ops Q (o :: rest)) :=
  G_any hg (by rw [ho]; intro c h; cases h) fun a w ha hw => by
    have e : (execOp a.eval o).run P w = .ok (.value (.pointer (some ⟨w.heap.size, 0, none⟩))) (w.alloc (.stringIter (S s) 0)) := by
      simp [execOp, ho, ha.eval hx, Instr.range, ht.run, Result.andThen]
    rw [e]
    simp only [Oper.uponIn_value, hd]
    exact h w.heap.size _ _ (ha.put hn _) (hw.alloc _)
/-- The string's end. -/
theorem G_nextStrEnd {x : Operand} {b d pos : Nat} {s : List UInt8} (ho : o.op = .next x true) (hx : ev fs x = some (.pointer (some ⟨b, 0, none⟩))) (hm : Res.blk b (.stringIter (S s) pos) ∈ L) (hp : s.length ≤ pos) (hd : o.dst = some d) (hn : Nat.blt d n = true) (hg : Goes ops fs o)
    (h : G n ds ((d, .tuple #[.bool false]) :: fs) E L (wpListIn (Wd ro) 0 P ops Q rest)) : G n ds fs E L (wpListIn (Wd ro) 0 P ops Q (o :: rest)) :=
  G_any hg (by rw [ho]; intro c h; cases h) fun a w ha hw => by
    have hb : w.heap[b]? = some (.stringIter (S s) pos) := hw.own _ hm
    have hgo : (getObj b).run P w = .ok (.stringIter (S s) pos) w := by simp [getObj, Sem.run, hb]
    have hn' : ¬ pos < (S s).size := by rw [S_size]; omega
    have e : (execOp a.eval o).run P w = .ok (.value (.tuple #[.bool false])) w := by
      simp [execOp, ho, ha.eval hx, Instr.next, hgo, Result.andThen, hn']
    rw [e]
    simp only [Oper.uponIn_value, hd]
    exact h _ _ (ha.put hn _) hw
/-- The next rune of a string: a plain byte, or something that is none. -/
theorem G_nextStr {LL : Nat → List Res} {x : Operand} {b d pos : Nat} {s : List UInt8} (ho : o.op = .next x true) (hx : ev fs x = some (.pointer (some ⟨b, 0, none⟩))) (hp : pos < s.length) (hd : o.dst = some d) (hn : Nat.blt d n = true) (hg : Goes ops fs o)
    (u : ∀ q, Upd L (.blk b (.stringIter (S s) pos)) (.blk b (.stringIter (S s) q)) (LL q))
    (h1 : s[pos].toNat < 128 → G n ds ((d, .tuple #[.bool true, .int .i64 pos, .int .i32 s[pos].toNat]) :: fs) E (LL (pos + 1)) (wpListIn (Wd ro) 0 P ops Q rest))
    (h2 : 128 ≤ s[pos].toNat → ∀ c q, 128 ≤ c → c ≤ 2147483647 → pos < q → G n ds ((d, .tuple #[.bool true, .int .i64 pos, .int .i32 (c : Nat)]) :: fs) E (LL q) (wpListIn (Wd ro) 0 P ops Q rest)) : G n ds fs E L (wpListIn (Wd ro) 0 P ops Q (o :: rest)) :=
  G_any hg (by rw [ho]; intro c h; cases h) fun a w ha hw => by
    have hb : w.heap[b]? = some (.stringIter (S s) pos) := hw.own _ (u 0).mem
    have hgo : (getObj b).run P w = .ok (.stringIter (S s) pos) w := by simp [getObj, Sem.run, hb]
    have hs : ∀ q, (setObj b (.stringIter (S s) q)).run P w = .ok () (w.putObj b (.stringIter (S s) q)) := fun q => by simp [setObj, Sem.run, hb, World.putObj]
    have hps : pos < (S s).size := by rw [S_size]; exact hp
    have e : (execOp a.eval o).run P w = .ok (.value (.tuple #[.bool true, .int .i64 pos, .int .i32 ((Utf8.decode (S s) pos).1 : Nat)])) (w.putObj b (.stringIter (S s) (pos + (Utf8.decode (S s) pos).2))) := by
      simp [execOp, ho, ha.eval hx, Instr.next, hgo, Result.andThen, hps, hs, goInt]
    rw [e]
    simp only [Oper.uponIn_value, hd]
    have hget : ((S s)[pos]'hps) = s[pos] := by simp [S, ByteArray.getElem_eq_getElem_data]; rfl
    by_cases hlt : s[pos].toNat < 128
    · have hdec := decode_ascii (S s) pos hps (by rw [hget]; exact hlt)
      rw [hget] at hdec
      rw [hdec]
      exact h1 hlt _ _ (ha.put hn _) (hw.put (u _))
    · have hdec := decode_high (S s) pos hps (by rw [hget]; omega)
      exact h2 (by omega) _ _ hdec.1 (decode_le (S s) pos) (by omega) _ _ (ha.put hn _) (hw.put (u _))
end rules
end Go.Proofs.YtaibabmladgldaaDoor
set_option linter.unusedSimpArgs false
set_option linter.unusedVariables false
set_option linter.unusedSectionVars false
namespace Go.Proofs.YtaibabmladgldaaDoor
open Go.RowKit

section rules
variable {P : Program} {ro : Option Nat} {n : Nat} {ds : List Deferred} {fs : List (Nat × Value)} {E : Env} {L L' : List Res} {ops : Array Oper} {Q : Exit → Act → World → Prop} {o : Oper} {rest : List Oper} {X : Act → World → Prop}

theorem V_buildArr {t e : TypeId} {m sz szt : Nat} {ag ag' : Bool} {td : TypeDesc} [ht : Ty P t (.array m e) szt ag] [he : Ty P e td sz ag'] {zc : List Value} [hz : Zero P t (.agg zc.toArray) zc.toArray] {ps : List (Nat × Operand)} {vs : List (Nat × Value)} {cells : List Value} (ho : o.op = .build t ps.toArray)
    (hx : evps fs ps = some vs) (hf : fillS sz zc vs = some cells) : Val P o fs E L (.agg cells.toArray) :=
  ⟨(by rw [ho]; intro c h; cases h), fun n ds a w ha _ => by
    have e1 := evps_eval ha ps vs hx
    have e2 := fillS_of vs zc cells hf
    have e3 : ((ps.toArray.map fun (i, x) => (i, a.eval x)) : Array (Nat × Value)) = vs.toArray := by
      rw [← e1]; simp
    simp only [execOp, ho, e3]
    simp only [Instr.build, Sem.run_bind, hz.zv, Result.andThen, ht.run, he.size, hz.zc, e2, Sem.run_pure]⟩
/-- An array in memory, sliced whole. -/
theorem V_slArr {t e : TypeId} {m sz szt : Nat} {ag ag' : Bool} {td : TypeDesc} [ht : Ty P t (.array m e) szt ag] [he : Ty P e td sz ag'] {x : Operand} {p : Addr}
    (ho : o.op = .slice t x none none none) (hx : ev fs x = some (.pointer (some p))) : Val P o fs E L (.slice (some p) m m) :=
  ⟨(by rw [ho]; intro c h; cases h), fun n ds a w ha _ => by
    have : p.add 0 = p := by simp [Addr.add]
    simp [execOp, ho, ha.eval hx, Instr.sliceAt, Instr.sureAddr, Instr.sliceBounds, ht.run, he.size, Result.andThen, this]⟩
/-- An element of an array that is a value. -/
theorem V_idxArr {t e : TypeId} {m szt : Nat} {ag : Bool} {td : TypeDesc} [ht : Ty P t (.array m e) szt ag] [he : Ty P e td 1 false] {x y : Operand} {cs : List Value} {k : IntKind} {i : Int} {v : Value}
    (ho : o.op = .index t x y) (hx : ev fs x = some (.agg cs.toArray)) (hy : ev fs y = some (.int k i)) (h0 : 0 ≤ i) (h1 : i < m) (hv : cs[i.toNat]? = some v) : Val P o fs E L v :=
  ⟨(by rw [ho]; intro c h; cases h), fun n ds a w ha _ => by
    simp [execOp, ho, ha.eval hx, ha.eval hy, Instr.index, asIntOf, h0, h1, ht.run, he.size, part, he.agg', Result.andThen, hv]⟩
/-- The place of an element of an array in memory. -/
theorem V_idxAddrArr {x y : Operand} {t e : TypeId} {d : TypeDesc} {m sz sz' : Nat} {ag ag' : Bool} [ht : Ty P t (.array m e) sz' ag'] [he : Ty P e d sz ag] {b off : Nat} {k : IntKind} {i : Int}
    (ho : o.op = .indexAddr t x y) (hx : ev fs x = some (.pointer (some ⟨b, off, none⟩))) (hy : ev fs y = some (.int k i)) (h0 : 0 ≤ i) (h1 : i < m) : Val P o fs E L (.pointer (some ⟨b, off + i.toNat * sz, none⟩)) :=
  ⟨(by rw [ho]; intro c h; cases h), fun n ds a' w ha hw => by
    have hl : i.toNat < m := by omega
    have hni : ¬ i < 0 := by omega
    have e2 := addr_add b off (i.toNat * sz)
    simp [execOp, ho, ha.eval hx, ha.eval hy, Instr.indexAt, Instr.sureAddr, asIntOf, ht.run, he.size, Result.andThen, h0, h1, e2]⟩
end rules
end Go.Proofs.YtaibabmladgldaaDoor
set_option linter.unusedSimpArgs false
set_option linter.unusedVariables false
set_option linter.unusedSectionVars false
namespace Go.Proofs.YtaibabmladgldaaDoor
open Go.RowKit

theorem St.conv {E : Env} {L : List Res} {r r' : Res} {w : World} (h : St E (r :: L) w) (hi : r'.ids = r.ids) (hok : r'.ok (fun b => w.heap[b]?)) : St E (r' :: L) w :=
  ⟨h.env, fun x hx => by rcases List.mem_cons.1 hx with rfl | hx; exact hok; exact h.own x (.tail _ hx), by simpa [hi] using h.nodup, fun b hb => h.apart b (by simpa [hi] using hb), h.os, h.out, h.tape⟩

theorem slOk.fresh {w : World} {e : TypeId} {sz k c : Nat} {xs r : List Value} (hl : xs.length = k * sz) (hk : k ≤ c) (hc : c ≤ maxLen) (hr : r.length = (c - k) * sz) :
    slOk e sz (some ⟨w.heap.size, 0, none⟩) k c xs (fun b => (w.alloc (.cells (xs ++ r).toArray e)).heap[b]?) :=
  ⟨hl, .inr ⟨w.heap.size, _, rfl, World.alloc_heap_new w _, hk, hc, by simp only [List.size_toArray, List.length_append, hl, hr, ← Nat.add_mul]; congr 1; omega, by simp [← hl]⟩⟩

theorem run_append_own2 {P : Program} {w : World} {t ty e : TypeId} {z : Value} {sz bytes : Nat} (ht : P.underlying t = some (.slice e)) (hi : Inf P e z sz bytes)
    {g k cap : Nat} {xs : List Value} (hok : slOk e sz (some ⟨g, 0, none⟩) k cap xs (fun b => w.heap[b]?)) {a2 : Option Addr} {m c : Nat} {ys : List Value} (hl : ys.length = m * sz)
    (hy : (a2 = none ∧ m = 0) ∨ ∃ p, a2 = some p ∧ ∀ j v, ys[j]? = some v → w.cell? (p.add j) = some v) (h1 : ∀ v, v ∈ ys → v.oneCell' = true) (hb : (k + m) * bytes ≤ 140737488355328) (h63 : k + m ≤ 9223372036854775807) :
    (∃ c' w', (Builtin.append_ #[t, t] ty #[.slice (some ⟨g, 0, none⟩) k cap, .slice a2 m c]).run P w = .ok (.slice (some ⟨g, 0, none⟩) (k + m) c') w' ∧ slOk e sz (some ⟨g, 0, none⟩) (k + m) c' (xs ++ ys) (fun b => w'.heap[b]?) ∧ c' = cap ∧
      w.heap.size ≤ w'.heap.size ∧ w'.os = w.os ∧ w'.output = w.output ∧ w'.tape = w.tape ∧ (∀ b, b ≠ g → b < w.heap.size → w'.heap[b]? = w.heap[b]?)) ∨
    (∃ c' o, (Builtin.append_ #[t, t] ty #[.slice (some ⟨g, 0, none⟩) k cap, .slice a2 m c]).run P w = .ok (.slice (some ⟨w.heap.size, 0, none⟩) (k + m) c') (w.drew.alloc o) ∧
      slOk e sz (some ⟨w.heap.size, 0, none⟩) (k + m) c' (xs ++ ys) (fun b => (w.drew.alloc o).heap[b]?)) := by
  obtain ⟨i, hi1, hi2, rfl, rfl, hi5⟩ := hi.inf
  have hok0 := hok
  obtain ⟨hl0, h | ⟨g', cur, hg', hg, hnc, hcm, hcs, htake⟩⟩ := hok
  · cases h.1
  cases hg'
  have hlen : (xs ++ ys).length = (k + m) * i.size := by rw [List.length_append, hl0, hl, Nat.add_mul]
  rcases hy with ⟨rfl, rfl⟩ | ⟨p, rfl, hy⟩
  · have hys : ys = [] := List.eq_nil_of_length_eq_zero (by simpa using hl)
    subst hys
    refine .inl ⟨cap, w, ?_, by simpa using hok0, rfl, Nat.le_refl _, rfl, rfl, rfl, fun _ _ _ => rfl⟩
    have := run_append_sl0 (P := P) (w := w) (t := t) (ty := ty) (c := c) ht hi hok0
    simpa using this
  · by_cases hroom : k + m ≤ cap
    · left
      have hfit : k * i.size + ys.length ≤ cur.size := by rw [hl, hcs, ← Nat.add_mul]; exact Nat.mul_le_mul_right _ hroom
      have hr := run_append_room (P := P) w t ty e i ht hi1 g k cap cur hg p m c ys hl hy h1 hroom hfit
      refine ⟨cap, _, hr, ⟨hlen, .inr ⟨g, _, rfl, setRow_heap w g cur _ e _ hg, hroom, hcm, ?_, ?_⟩⟩, rfl, by simp, rfl, rfl, rfl, fun b hne _ => setRow_other w g b _ hne⟩
      · simp only [List.size_toArray, List.length_append, List.length_take, List.length_drop, Array.length_toList]
        omega
      · rw [htake, ← hlen]
        exact List.take_left
    · right
      have holds : ∀ j u, xs[j]? = some u → w.cell? ((⟨g, 0, none⟩ : Addr).add j) = some u := hok0.owns.cells (g := g) rfl
      have hr := run_append_grow (P := P) w t ty e i z ht hi1 hi2 ⟨g, 0, none⟩ k cap xs hl0 holds p m c ys hl hy (by omega) (by omega) (growslice_fits (by omega) hb)
      have hge := grownCap_ge w (k + m) cap e
      refine ⟨_, _, hr, ⟨hlen, .inr ⟨_, _, rfl, World.alloc_heap_new w.drew _, hge, grownCap_le_maxLen w (k + m) cap e (by simp only [maxLen]; omega), ?_, ?_⟩⟩⟩
      · simp only [Array.size_append, List.size_toArray, size_zeroCells, hi5, hl0, hl, ← Nat.add_mul]
        congr 1
        omega
      · simp only [Array.toList_append, List.append_assoc]
        rw [← List.append_assoc, ← hlen]
        exact List.take_left
section
variable {P : Program} {ro : Option Nat} {n : Nat} {ds : List Deferred} {fs : List (Nat × Value)} {E : Env} {L : List Res} {ops : Array Oper} {T : Act → Fam → Prop} {π : List (Nat × Nat)} {i : Nat} {o : Oper} {J : Nat → World → Prop}
/-- The empty slice written out, in a region that draws its order. -/
theorem F_lit0Z {t e : TypeId} {td : TypeDesc} {sz sz' : Nat} {ag ag' : Bool} [ht : Ty P t (.slice e) sz' ag'] [he : Ty P e td sz ag] {z : Value} {zc : Array Value} [hz : Zero P e z zc] {d : Nat}
    (h0 : ops[i]? = some o) (ho : o.op = .buildSlice t 0 #[]) (hd : o.dst = some d) (hn : Nat.blt d n = true) (hg : Goes ops fs o)
    (h : ∀ b E', E.Le E' → SlE E' sz (some ⟨b, 0, none⟩) 0 [] → GF n ds ((d, .slice (some ⟨b, 0, none⟩) 0 0) :: fs) E' L (wpF P ops T J π)) : GF n ds fs E L (wpF P ops T J ((i, 2) :: π)) :=
  F_mk (val := fun b => .slice (some ⟨b, 0, none⟩) 0 0) (obj := .cells #[] e) h0 (fun a ha w => by
    simp [execOp, ho, Instr.buildSlice, ht.run, he.size, hz.zv, hz.zc, Result.andThen, newRow]
    rw [show Array.range 0 = #[] by decide]
    simp [Instr.fill]) hd hn hg fun b hb => by
    have := h b (E.blk b (.cells #[] e)) (Env.blk_le hb) ⟨by simp, .inr ⟨_, rfl, .inr rfl, fun j v hj => by simp at hj⟩⟩
    unfold GF at this ⊢
    rw [Fam.shut hb]
    exact this
/-- append onto a full slice; what comes out is the call's own. -/
theorem F_appendO {s x : Operand} {t e : TypeId} {d : Nat} {sz' : Nat} {ag' : Bool} {z : Value} {sz bytes : Nat} [ht : Ty P t (.slice e) sz' ag'] [hi : Inf P e z sz bytes] {a a2 : Option Addr} {k m c2 : Nat} {xs ys : List Value}
    (h0 : ops[i]? = some o) (ho : o.op = .call { callee := .builtin .append, args := #[s, x], argTypes := #[t, t] }) (hs : ev fs s = some (.slice a k k)) (hx : ev fs x = some (.slice a2 m c2)) (hr1 : SlE E sz a k xs) (hr2 : SlE E sz a2 m ys)
    (hm : 0 < m) (hb : (k + m) * bytes ≤ 140737488355328) (h63 : k + m ≤ 9223372036854775807) (hd : o.dst = some d) (hn : Nat.blt d n = true) (hg : Goes ops fs o)
    (h : ∀ b c', GF n ds ((d, .slice (some ⟨b, 0, none⟩) (k + m) c') :: fs) E (.sl e sz (some ⟨b, 0, none⟩) (k + m) c' (xs ++ ys) :: L) (wpF P ops T J π)) : GF n ds fs E L (wpF P ops T J ((i, 3) :: π)) := fun a0 ha =>
  ⟨o, h0, by
    rw [if_pos (hg.wanted ha)]
    intro M w hw
    obtain ⟨p, rfl, hy⟩ : ∃ p, a2 = some p ∧ ∀ j v, ys[j]? = some v → w.cell? (p.add j) = some v := by
      rcases hr2.2 with ⟨_, h3⟩ | ⟨p, h3, _, h5⟩
      · omega
      · exact ⟨p, h3, fun j v hj => Env.cell_st (h5 j v hj) hw⟩
    obtain ⟨i', hi1, hi2, rfl, rfl, hi5⟩ := hi.inf
    have key : ∃ c', k + m ≤ c' ∧ c' ≤ maxLen ∧ (Builtin.append_ #[t, t] o.type #[.slice a k k, .slice (some p) m c2]).run P w = .ok (.slice (some ⟨w.heap.size, 0, none⟩) (k + m) c') (w.drew.alloc (.cells ((xs ++ ys) ++ (Builtin.zeroCells z.cells (c' - (k + m))).toList).toArray e)) := by
      rcases hr1.2 with ⟨rfl, rfl⟩ | ⟨q, rfl, _, hq⟩
      · have hx0 : xs = [] := List.eq_nil_of_length_eq_zero (by simpa using hr1.1)
        subst hx0
        have hr := run_append_nil (P := P) w t o.type e i' z ht.und hi1 hi2 p m c2 ys hr2.1 hy (by omega) (by omega) (by simp only [Nat.zero_add] at hb; omega)
        have hge := grownCap_ge w m 0 e
        refine ⟨grownCap w m 0 e, by omega, grownCap_le_maxLen w m 0 e (by simp only [maxLen]; omega), ?_⟩
        rw [hr]
        simp
        congr 2
        apply Array.ext'
        simp
      · have hr := run_append_grow (P := P) w t o.type e i' z ht.und hi1 hi2 q k k xs hr1.1 (fun j v hj => Env.cell_st (hq j v hj) hw) p m c2 ys hr2.1 hy (by omega) (by omega) (growslice_fits (by omega) hb)
        have hge := grownCap_ge w (k + m) k e
        refine ⟨grownCap w (k + m) k e, hge, grownCap_le_maxLen w (k + m) k e (by simp only [maxLen]; omega), ?_⟩
        rw [hr]
        simp
        congr 2
        apply Array.ext'
        simp
    obtain ⟨c', hc1, hc2, hrun⟩ := key
    unfold Steps
    have e1 : (execOp a0.eval o).run P w = .ok (.value (.slice (some ⟨w.heap.size, 0, none⟩) (k + m) c')) (w.drew.alloc (.cells ((xs ++ ys) ++ (Builtin.zeroCells z.cells (c' - (k + m))).toList).toArray e)) := by
      simp only [execOp, ho, resolve, invoke, builtin, ha.eval hs, ha.eval hx, hrun, Result.andThen, Sem.run_bind, Sem.run_pure, List.map_toArray, List.map_cons, List.map_nil]
    rw [e1]
    have s1 := (hw.drew (w.drawn + 1)).alloc (.cells ((xs ++ ys) ++ (Builtin.zeroCells z.cells (c' - (k + m))).toList).toArray e)
    have hok := slOk.fresh (w := w.drew) (e := e) (sz := i'.size) (k := k + m) (c := c') (xs := xs ++ ys) (r := (Builtin.zeroCells z.cells (c' - (k + m))).toList) (by rw [List.length_append, hr1.1, hr2.1, Nat.add_mul]) hc1 hc2 (by simp [size_zeroCells, hi5])
    have s2 : St E (.sl e i'.size (some ⟨w.heap.size, 0, none⟩) (k + m) c' (xs ++ ys) :: (M ++ L)) (w.drew.alloc (.cells ((xs ++ ys) ++ (Builtin.zeroCells z.cells (c' - (k + m))).toList).toArray e)) := s1.conv rfl hok
    refine ⟨Fam.st E (.sl e i'.size (some ⟨w.heap.size, 0, none⟩) (k + m) c' (xs ++ ys) :: L), fun w' ⟨M', h'⟩ => ⟨M' ++ [_], by show St E ((M' ++ [_]) ++ L) w'; rw [List.append_assoc]; exact h'⟩, s2.perm List.perm_middle.symm, ?_⟩
    rw [hd]
    exact h _ c' _ (ha.put hn _)⟩
/-- append onto a slice of the call's own; where it does not grow it is the same block. -/
theorem F_append2 {s x : Operand} {t e : TypeId} {d : Nat} {sz' : Nat} {ag' : Bool} {z : Value} {sz bytes : Nat} [ht : Ty P t (.slice e) sz' ag'] [hi : Inf P e z sz bytes] {g : Nat} {a2 : Option Addr} {k cap m c2 : Nat} {xs ys : List Value} {L' : Nat → Nat → List Res}
    (h0 : ops[i]? = some o) (ho : o.op = .call { callee := .builtin .append, args := #[s, x], argTypes := #[t, t] }) (hs : ev fs s = some (.slice (some ⟨g, 0, none⟩) k cap)) (hx : ev fs x = some (.slice a2 m c2)) (hr2 : SlE E sz a2 m ys) (h1 : ∀ v, v ∈ ys → v.oneCell' = true)
    (hb : (k + m) * bytes ≤ 140737488355328) (h63 : k + m ≤ 9223372036854775807) (hd : o.dst = some d) (hn : Nat.blt d n = true) (hg : Goes ops fs o)
    (u : ∀ b' c', Upd L (.sl e sz (some ⟨g, 0, none⟩) k cap xs) (.sl e sz (some ⟨b', 0, none⟩) (k + m) c' (xs ++ ys)) (L' b' c'))
    (h : ∀ b c' N, GF n ds ((d, .slice (some ⟨b, 0, none⟩) (k + m) c') :: fs) E (L' b c' ++ N) (wpF P ops T J π)) : GF n ds fs E L (wpF P ops T J ((i, 3) :: π)) := fun a0 ha =>
  ⟨o, h0, by
    rw [if_pos (hg.wanted ha)]
    intro M w hw
    have hok : slOk e sz (some ⟨g, 0, none⟩) k cap xs (fun b => w.heap[b]?) := hw.own _ (List.mem_append.2 (.inr (u g cap).mem))
    have hy : (a2 = none ∧ m = 0) ∨ ∃ p, a2 = some p ∧ ∀ j v, ys[j]? = some v → w.cell? (p.add j) = some v := by
      rcases hr2.2 with h3 | ⟨p, h3, _, h5⟩
      · exact .inl h3
      · exact .inr ⟨p, h3, fun j v hj => Env.cell_st (h5 j v hj) hw⟩
    have hruns := run_append_own2 (P := P) (w := w) (ty := o.type) ht.und hi hok (c := c2) hr2.1 hy h1 hb h63
    have hmap : ∀ (r : Value) w', (Builtin.append_ #[t, t] o.type #[.slice (some ⟨g, 0, none⟩) k cap, .slice a2 m c2]).run P w = .ok r w' → (execOp a0.eval o).run P w = .ok (.value r) w' := fun r w' hrun => by
      simp [execOp, ho, resolve, invoke, builtin, ha.eval hs, ha.eval hx, hrun, Result.andThen]
    unfold Steps
    rcases hruns with ⟨c', w', hrun, hok', rfl, hsz, hos, hout, htape, hkeep⟩ | ⟨c', ob, hrun, hok'⟩
    · rw [hmap _ _ hrun]
      obtain ⟨M1, p1, p2⟩ := (u g c').perm
      have hback : ∀ h, slOk e sz (some ⟨g, 0, none⟩) (k + m) c' (xs ++ ys) h → slOk e sz (some ⟨g, 0, none⟩) k c' xs h := by
        rintro hh ⟨q1, q2 | ⟨g', cur, q2, q3, q4, q5, q6, q7⟩⟩
        · cases q2.1
        · cases q2
          refine ⟨hok.1, .inr ⟨g, cur, rfl, q3, by omega, q5, q6, ?_⟩⟩
          have : (cur.toList.take ((k + m) * sz)).take (k * sz) = (xs ++ ys).take (k * sz) := by rw [q7]
          rw [List.take_take, Nat.min_eq_left (Nat.mul_le_mul_right _ (by omega)), ← hok.1, List.take_left] at this
          rw [← hok.1]; exact this
      refine ⟨Fam.st E (L' g c'), fun w2 ⟨M', h'⟩ => ⟨M', ?_⟩, ?_, ?_⟩
      · have h2 : St E (.sl e sz (some ⟨g, 0, none⟩) (k + m) c' (xs ++ ys) :: (M' ++ M1)) w2 := h'.perm ((p2.append_left M').trans List.perm_middle)
        have h3 : St E (.sl e sz (some ⟨g, 0, none⟩) k c' xs :: (M' ++ M1)) w2 := h2.conv rfl (hback _ (h2.own _ (.head _)))
        exact h3.perm (List.perm_middle.symm.trans (p1.symm.append_left M'))
      · refine hw.update (Upd.app M (u g c')) hsz (fun b hb' hlt => hkeep b (fun he => hb' (by simp [Res.sl, he])) hlt) hok' (fun b hb' => ?_) (by simp [Res.sl]) hos hout htape
        simp only [Res.sl, Option.map_some, Option.toList_some, List.mem_singleton] at hb' ⊢
        subst hb'
        refine .inl ⟨rfl, ?_⟩
        obtain ⟨_, q | ⟨g', cur, q2, q3, _⟩⟩ := hok'
        · cases q.1
        · cases q2; exact (Array.getElem?_eq_some_iff.1 q3).1
      · rw [hd]
        have := h g c' [] _ (ha.put hn _)
        rwa [List.append_nil] at this
    · rw [hmap _ _ hrun]
      obtain ⟨M1, p1, p2⟩ := (u w.heap.size c').perm
      have s1 := (hw.drew (w.drawn + 1)).alloc ob
      have s2 : St E (.sl e sz (some ⟨w.heap.size, 0, none⟩) (k + m) c' (xs ++ ys) :: (M ++ L)) (w.drew.alloc ob) := s1.conv rfl hok'
      refine ⟨Fam.st E (L' w.heap.size c' ++ [.sl e sz (some ⟨g, 0, none⟩) k cap xs]), fun w2 ⟨M', h'⟩ => ⟨.sl e sz (some ⟨w.heap.size, 0, none⟩) (k + m) c' (xs ++ ys) :: M', ?_⟩, ?_, ?_⟩
      · show St E ((_ :: M') ++ L) w2
        refine h'.perm ?_
        refine (((p2.append_right _).append_left M').trans ?_)
        refine List.perm_middle.trans ?_
        refine List.Perm.cons _ (List.Perm.append_left M' ?_)
        exact List.perm_append_comm.trans p1.symm
      · show St E (M ++ (L' w.heap.size c' ++ _)) _
        refine s2.perm ?_
        refine (List.Perm.cons _ (p1.append_left M)).trans ?_
        refine List.perm_middle.symm.trans (List.Perm.append_left M ?_)
        have hq : (.sl e sz (some ⟨w.heap.size, 0, none⟩) (k + m) c' (xs ++ ys) :: .sl e sz (some ⟨g, 0, none⟩) k cap xs :: M1 : List Res).Perm (.sl e sz (some ⟨w.heap.size, 0, none⟩) (k + m) c' (xs ++ ys) :: (M1 ++ [.sl e sz (some ⟨g, 0, none⟩) k cap xs])) := List.Perm.cons _ (List.perm_append_comm (l₁ := [_]) (l₂ := M1))
        exact hq.trans (p2.symm.append_right _)
      · rw [hd]
        exact h _ c' _ _ (ha.put hn _)⟩
end
section
variable {P : Program} {ro : Option Nat} {n : Nat} {ds : List Deferred} {fs : List (Nat × Value)} {E : Env} {L : List Res} {ops : Array Oper} {Q : Exit → Act → World → Prop} {rest : List Oper} {o : Oper}
/-- append onto a full slice, in order; it may be that nothing is added. -/
theorem G_appendZ {s x : Operand} {t e : TypeId} {d : Nat} {sz' : Nat} {ag' : Bool} {z : Value} {sz bytes : Nat} [ht : Ty P t (.slice e) sz' ag'] [hi : Inf P e z sz bytes] {a a2 : Option Addr} {k m c2 : Nat} {xs ys : List Value}
    (ho : o.op = .call { callee := .builtin .append, args := #[s, x], argTypes := #[t, t] }) (hs : ev fs s = some (.slice a k k)) (hx : ev fs x = some (.slice a2 m c2)) (hr1 : SlE E sz a k xs) (hr2 : SlE E sz a2 m ys)
    (hb : (k + m) * bytes ≤ 140737488355328) (h63 : k + m ≤ 9223372036854775807) (hd : o.dst = some d) (hn : Nat.blt d n = true) (hg : Goes ops fs o)
    (h : ∀ a' c' E', E.Le E' → SlE E' sz a' (k + m) (xs ++ ys) → k + m ≤ c' → G n ds ((d, .slice a' (k + m) c') :: fs) E' L (wpListIn (Wd ro) 0 P ops Q rest)) : G n ds fs E L (wpListIn (Wd ro) 0 P ops Q (o :: rest)) :=
  G_any hg (by rw [ho]; intro c h; cases h) fun a0 w ha hw => by
    by_cases hm : m = 0
    · subst hm
      have hys : ys = [] := List.eq_nil_of_length_eq_zero (by simpa using hr2.1)
      subst hys
      obtain ⟨i, hi1, hi2, rfl, rfl, hi5⟩ := hi.inf
      have hrun : (Builtin.append_ #[t, t] o.type #[.slice a k k, .slice a2 0 c2]).run P w = .ok (.slice a k k) w := by
        rcases hr1.2 with ⟨rfl, rfl⟩ | ⟨q, rfl, _, _⟩ <;> rcases hr2.2 with ⟨rfl, _⟩ | ⟨q2, rfl, _, _⟩ <;>
          simp [Builtin.append_, run_underlying ht.und, sizeOf, typeInfo, hi1, Builtin.lenOf, Builtin.firstCells, storeCells, loadCells, loadCellsFrom, Result.andThen]
      have e1 : (execOp a0.eval o).run P w = .ok (.value (.slice a k k)) w := by
        simp [execOp, ho, resolve, invoke, builtin, ha.eval hs, ha.eval hx, hrun, Result.andThen]
      rw [e1]
      simp only [Oper.uponIn_value, hd]
      exact h a k E (.refl _) (by simpa using hr1) (Nat.le_refl _) _ _ (ha.put hn _) hw
    · have q1 : ∃ p, a2 = some p ∧ ∀ j v, ys[j]? = some v → w.cell? (p.add j) = some v := by
        rcases hr2.2 with ⟨_, h3⟩ | ⟨p, h3, _, h5⟩
        · omega
        · exact ⟨p, h3, fun j v hj => Env.cell_st (h5 j v hj) hw⟩
      obtain ⟨p, rfl, hy⟩ := q1
      have q2 : (a = none ∧ k = 0) ∨ ∃ p, a = some p ∧ ∀ j v, xs[j]? = some v → w.cell? (p.add j) = some v := by
        rcases hr1.2 with h3 | ⟨p, h3, _, h5⟩
        · exact .inl h3
        · exact .inr ⟨p, h3, fun j v hj => Env.cell_st (h5 j v hj) hw⟩
      obtain ⟨c', r, hc', hrun⟩ := run_append_fresh (P := P) (w := w) (ty := o.type) ht.und hi hr1.1 q2 (c := c2) hr2.1 hy (by omega) hb h63
      have e1 : (execOp a0.eval o).run P w = .ok (.value (.slice (some ⟨w.heap.size, 0, none⟩) (k + m) c')) (w.drew.alloc (.cells ((xs ++ ys).toArray ++ r) e)) := by
        simp [execOp, ho, resolve, invoke, builtin, ha.eval hs, ha.eval hx, hrun, Result.andThen]
      rw [e1]
      simp only [Oper.uponIn_value, hd]
      have s1 := (hw.drew (w.drawn + 1)).alloc (.cells ((xs ++ ys).toArray ++ r) e)
      obtain ⟨E', g1, g2, g3⟩ := s1.freeze
      have g4 : SlE E' sz (some ⟨w.heap.size, 0, none⟩) (k + m) (xs ++ ys) := SlE.pre (r := r.toList) (T := e) (fz := (0, 0)) (by simpa using g3) (by rw [List.length_append, hr1.1, hr2.1, Nat.add_mul])
      exact h _ c' E' g1 g4 hc' _ _ (ha.put hn _) g2
end
end Go.Proofs.YtaibabmladgldaaDoor
set_option linter.unusedSimpArgs false
set_option linter.unusedVariables false
set_option linter.unusedSectionVars false
namespace Go.Proofs.YtaibabmladgldaaDoor
open Go.RowKit
section
variable {P : Program} {ro : Option Nat} {n : Nat} {ds : List Deferred} {fs : List (Nat × Value)} {E : Env} {L : List Res} {ops : Array Oper} {T : Act → Fam → Prop} {π : List (Nat × Nat)} {i : Nat} {o : Oper} {J : Nat → World → Prop}
end
section
variable {P : Program} {fs : List (Nat × Value)} {E E0 : Env} {L : List Res} {o : Oper}
theorem V_fieldAddrX {t ft : TypeId} {x : Operand} {i off sz' : Nat} {d : TypeDesc} {sz : Nat} {ag : Bool} [hf : Fld P t i off ft] [hft : Ty P ft d sz ag] {a : Option Addr} {k m : Nat} {vals : List Value} (ho : o.op = .fieldAddr t x i) (hx : ev fs x = some (.pointer (some (elemAt a k)))) (hr : SlE E0 sz' a m vals) (hm : 0 < m) (hs : sz ≠ 0) :
    Val P o fs E L (.pointer (some (elemAt a (k + off)))) := by
  rcases hr.2 with ⟨_, h0⟩ | ⟨⟨b, o', sp⟩, rfl, h1, _⟩
  · omega
  · rcases h1 with h1 | h1
    · simp only at h1
      subst h1
      have e1 : elemAt (some ⟨b, o', none⟩) k = ⟨b, o' + k, none⟩ := addr_add b o' k
      have e2 : elemAt (some ⟨b, o', none⟩) (k + off) = ⟨b, o' + k + off, none⟩ := by rw [elemAt, Option.getD_some, addr_add, Nat.add_assoc]
      rw [e1] at hx
      rw [e2]
      exact V_fieldAddr ho hx hs
    · omega
end
end Go.Proofs.YtaibabmladgldaaDoor
namespace Go.Proofs.YtaibabmladgldaaDoor
open Go.RowKit
section rules
variable {P : Program} {fs : List (Nat × Value)} {E : Env} {L : List Res} {o : Oper}
end rules
end Go.Proofs.YtaibabmladgldaaDoor
namespace Go.Proofs.YtaibabmladgldaaDoor
open Go.RowKit
end Go.Proofs.YtaibabmladgldaaDoor
set_option linter.unusedSimpArgs false
set_option linter.unusedVariables false
set_option maxRecDepth 20000
namespace Go.Proofs.YtaibabmladgldaaDoor
open Go.Proofs Go.RowKit
instance ty0 : Ty Tryd.prog 0 (Go.TypeDesc.tuple #[]) 1 false := ⟨Tryd.underlying0, Tryd.isAgg0, Tryd.sizeOf0⟩
instance zero0 : Zero Tryd.prog 0 (Go.Value.tuple #[]) #[Go.Value.tuple #[]] := ⟨Tryd.zeroValue0, rfl⟩
instance ty1 : Ty Tryd.prog 1 (Go.TypeDesc.func #[] #[] false) 1 false := ⟨Tryd.underlying1, Tryd.isAgg1, Tryd.sizeOf1⟩
instance zero1 : Zero Tryd.prog 1 (Go.Value.nilFunc) #[Go.Value.nilFunc] := ⟨Tryd.zeroValue1, rfl⟩
instance ty2 : Ty Tryd.prog 2 (Go.TypeDesc.int Go.IntKind.i64) 1 false := ⟨Tryd.underlying2, Tryd.isAgg2, Tryd.sizeOf2⟩
instance zero2 : Zero Tryd.prog 2 (Go.Value.int Go.IntKind.i64 0) #[Go.Value.int Go.IntKind.i64 0] := ⟨Tryd.zeroValue2, rfl⟩
instance ty3 : Ty Tryd.prog 3 (Go.TypeDesc.int Go.IntKind.i64) 1 false := ⟨Tryd.underlying3, Tryd.isAgg3, Tryd.sizeOf3⟩
instance zero3 : Zero Tryd.prog 3 (Go.Value.int Go.IntKind.i64 0) #[Go.Value.int Go.IntKind.i64 0] := ⟨Tryd.zeroValue3, rfl⟩
instance ty4 : Ty Tryd.prog 4 (Go.TypeDesc.bool) 1 false := ⟨Tryd.underlying4, Tryd.isAgg4, Tryd.sizeOf4⟩
instance zero4 : Zero Tryd.prog 4 (Go.Value.bool false) #[Go.Value.bool false] := ⟨Tryd.zeroValue4, rfl⟩
instance ty5 : Ty Tryd.prog 5 (Go.TypeDesc.int Go.IntKind.u8) 1 false := ⟨Tryd.underlying5, Tryd.isAgg5, Tryd.sizeOf5⟩
instance zero5 : Zero Tryd.prog 5 (Go.Value.int Go.IntKind.u8 0) #[Go.Value.int Go.IntKind.u8 0] := ⟨Tryd.zeroValue5, rfl⟩
instance ty6 : Ty Tryd.prog 6 (Go.TypeDesc.int Go.IntKind.u8) 1 false := ⟨Tryd.underlying6, Tryd.isAgg6, Tryd.sizeOf6⟩
instance zero6 : Zero Tryd.prog 6 (Go.Value.int Go.IntKind.u8 0) #[Go.Value.int Go.IntKind.u8 0] := ⟨Tryd.zeroValue6, rfl⟩
instance ty7 : Ty Tryd.prog 7 (Go.TypeDesc.struct #[{ name := "x", type := 2, offset := 0, embedded := false, tag := "", pkgPath := "runtime", byteOffset := 0 }, { name := "y", type := 3, offset := 1, embedded := false, tag := "", pkgPath := "runtime", byteOffset := 8 }, { name := "signed", type := 4, offset := 2, embedded := false, tag := "", pkgPath := "runtime", byteOffset := 16 }, { name := "code", type := 6, offset := 3, embedded := false, tag := "", pkgPath := "runtime", byteOffset := 17 }]) 4 true := ⟨Tryd.underlying7, Tryd.isAgg7, Tryd.sizeOf7⟩
instance zero7 : Zero Tryd.prog 7 (Go.Value.agg #[Go.Value.int Go.IntKind.i64 0, Go.Value.int Go.IntKind.i64 0, Go.Value.bool false, Go.Value.int Go.IntKind.u8 0]) #[Go.Value.int Go.IntKind.i64 0, Go.Value.int Go.IntKind.i64 0, Go.Value.bool false, Go.Value.int Go.IntKind.u8 0] := ⟨Tryd.zeroValue7, rfl⟩
instance ty8 : Ty Tryd.prog 8 (Go.TypeDesc.struct #[{ name := "x", type := 2, offset := 0, embedded := false, tag := "", pkgPath := "runtime", byteOffset := 0 }, { name := "y", type := 3, offset := 1, embedded := false, tag := "", pkgPath := "runtime", byteOffset := 8 }, { name := "signed", type := 4, offset := 2, embedded := false, tag := "", pkgPath := "runtime", byteOffset := 16 }, { name := "code", type := 6, offset := 3, embedded := false, tag := "", pkgPath := "runtime", byteOffset := 17 }]) 4 true := ⟨Tryd.underlying8, Tryd.isAgg8, Tryd.sizeOf8⟩
instance zero8 : Zero Tryd.prog 8 (Go.Value.agg #[Go.Value.int Go.IntKind.i64 0, Go.Value.int Go.IntKind.i64 0, Go.Value.bool false, Go.Value.int Go.IntKind.u8 0]) #[Go.Value.int Go.IntKind.i64 0, Go.Value.int Go.IntKind.i64 0, Go.Value.bool false, Go.Value.int Go.IntKind.u8 0] := ⟨Tryd.zeroValue8, rfl⟩
instance ty9 : Ty Tryd.prog 9 (Go.TypeDesc.string) 1 false := ⟨Tryd.underlying9, Tryd.isAgg9, Tryd.sizeOf9⟩
instance zero9 : Zero Tryd.prog 9 (Go.Value.string { data := #[] }) #[Go.Value.string { data := #[] }] := ⟨Tryd.zeroValue9, rfl⟩
instance ty10 : Ty Tryd.prog 10 (Go.TypeDesc.string) 1 false := ⟨Tryd.underlying10, Tryd.isAgg10, Tryd.sizeOf10⟩
instance zero10 : Zero Tryd.prog 10 (Go.Value.string { data := #[] }) #[Go.Value.string { data := #[] }] := ⟨Tryd.zeroValue10, rfl⟩
instance ty11 : Ty Tryd.prog 11 (Go.TypeDesc.string) 1 false := ⟨Tryd.underlying11, Tryd.isAgg11, Tryd.sizeOf11⟩
instance zero11 : Zero Tryd.prog 11 (Go.Value.string { data := #[] }) #[Go.Value.string { data := #[] }] := ⟨Tryd.zeroValue11, rfl⟩
instance ty12 : Ty Tryd.prog 12 (Go.TypeDesc.int Go.IntKind.u64) 1 false := ⟨Tryd.underlying12, Tryd.isAgg12, Tryd.sizeOf12⟩
instance zero12 : Zero Tryd.prog 12 (Go.Value.int Go.IntKind.u64 0) #[Go.Value.int Go.IntKind.u64 0] := ⟨Tryd.zeroValue12, rfl⟩
instance ty13 : Ty Tryd.prog 13 (Go.TypeDesc.struct #[{ name := "msg", type := 9, offset := 0, embedded := false, tag := "", pkgPath := "runtime", byteOffset := 0 }, { name := "addr", type := 12, offset := 1, embedded := false, tag := "", pkgPath := "runtime", byteOffset := 16 }]) 2 true := ⟨Tryd.underlying13, Tryd.isAgg13, Tryd.sizeOf13⟩
instance zero13 : Zero Tryd.prog 13 (Go.Value.agg #[Go.Value.string { data := #[] }, Go.Value.int Go.IntKind.u64 0]) #[Go.Value.string { data := #[] }, Go.Value.int Go.IntKind.u64 0] := ⟨Tryd.zeroValue13, rfl⟩
instance ty14 : Ty Tryd.prog 14 (Go.TypeDesc.struct #[{ name := "msg", type := 9, offset := 0, embedded := false, tag := "", pkgPath := "runtime", byteOffset := 0 }, { name := "addr", type := 12, offset := 1, embedded := false, tag := "", pkgPath := "runtime", byteOffset := 16 }]) 2 true := ⟨Tryd.underlying14, Tryd.isAgg14, Tryd.sizeOf14⟩
instance zero14 : Zero Tryd.prog 14 (Go.Value.agg #[Go.Value.string { data := #[] }, Go.Value.int Go.IntKind.u64 0]) #[Go.Value.string { data := #[] }, Go.Value.int Go.IntKind.u64 0] := ⟨Tryd.zeroValue14, rfl⟩
instance ty15 : Ty Tryd.prog 15 (Go.TypeDesc.pointer 124) 1 false := ⟨Tryd.underlying15, Tryd.isAgg15, Tryd.sizeOf15⟩
instance zero15 : Zero Tryd.prog 15 (Go.Value.pointer none) #[Go.Value.pointer none] := ⟨Tryd.zeroValue15, rfl⟩
instance ty16 : Ty Tryd.prog 16 (Go.TypeDesc.pointer 127) 1 false := ⟨Tryd.underlying16, Tryd.isAgg16, Tryd.sizeOf16⟩
instance zero16 : Zero Tryd.prog 16 (Go.Value.pointer none) #[Go.Value.pointer none] := ⟨Tryd.zeroValue16, rfl⟩
instance ty17 : Ty Tryd.prog 17 (Go.TypeDesc.pointer 134) 1 false := ⟨Tryd.underlying17, Tryd.isAgg17, Tryd.sizeOf17⟩
instance zero17 : Zero Tryd.prog 17 (Go.Value.pointer none) #[Go.Value.pointer none] := ⟨Tryd.zeroValue17, rfl⟩
instance ty18 : Ty Tryd.prog 18 (Go.TypeDesc.struct #[{ name := "typ", type := 17, offset := 0, embedded := false, tag := "", pkgPath := "internal/runtime/maps", byteOffset := 0 }]) 1 true := ⟨Tryd.underlying18, Tryd.isAgg18, Tryd.sizeOf18⟩
instance zero18 : Zero Tryd.prog 18 (Go.Value.agg #[Go.Value.pointer none]) #[Go.Value.pointer none] := ⟨Tryd.zeroValue18, rfl⟩
instance ty19 : Ty Tryd.prog 19 (Go.TypeDesc.struct #[{ name := "typ", type := 17, offset := 0, embedded := false, tag := "", pkgPath := "internal/runtime/maps", byteOffset := 0 }]) 1 true := ⟨Tryd.underlying19, Tryd.isAgg19, Tryd.sizeOf19⟩
instance zero19 : Zero Tryd.prog 19 (Go.Value.agg #[Go.Value.pointer none]) #[Go.Value.pointer none] := ⟨Tryd.zeroValue19, rfl⟩
instance ty20 : Ty Tryd.prog 20 (Go.TypeDesc.interface #[]) 1 false := ⟨Tryd.underlying20, Tryd.isAgg20, Tryd.sizeOf20⟩
instance zero20 : Zero Tryd.prog 20 (Go.Value.nilIface) #[Go.Value.nilIface] := ⟨Tryd.zeroValue20, rfl⟩
instance ty21 : Ty Tryd.prog 21 (Go.TypeDesc.int Go.IntKind.i32) 1 false := ⟨Tryd.underlying21, Tryd.isAgg21, Tryd.sizeOf21⟩
instance zero21 : Zero Tryd.prog 21 (Go.Value.int Go.IntKind.i32 0) #[Go.Value.int Go.IntKind.i32 0] := ⟨Tryd.zeroValue21, rfl⟩
instance ty22 : Ty Tryd.prog 22 (Go.TypeDesc.slice 9) 1 false := ⟨Tryd.underlying22, Tryd.isAgg22, Tryd.sizeOf22⟩
instance zero22 : Zero Tryd.prog 22 (Go.Value.slice none 0 0) #[Go.Value.slice none 0 0] := ⟨Tryd.zeroValue22, rfl⟩
instance ty23 : Ty Tryd.prog 23 (Go.TypeDesc.slice 43) 1 false := ⟨Tryd.underlying23, Tryd.isAgg23, Tryd.sizeOf23⟩
instance zero23 : Zero Tryd.prog 23 (Go.Value.slice none 0 0) #[Go.Value.slice none 0 0] := ⟨Tryd.zeroValue23, rfl⟩
instance ty24 : Ty Tryd.prog 24 (Go.TypeDesc.struct #[{ name := "K", type := 3, offset := 0, embedded := false, tag := "", pkgPath := "", byteOffset := 0 }, { name := "Tokens", type := 22, offset := 1, embedded := false, tag := "", pkgPath := "", byteOffset := 8 }, { name := "Sep", type := 9, offset := 2, embedded := false, tag := "", pkgPath := "", byteOffset := 32 }, { name := "Names", type := 22, offset := 3, embedded := false, tag := "", pkgPath := "", byteOffset := 48 }, { name := "Start", type := 3, offset := 4, embedded := false, tag := "", pkgPath := "", byteOffset := 72 }, { name := "Prods", type := 23, offset := 5, embedded := false, tag := "", pkgPath := "", byteOffset := 80 }]) 6 true := ⟨Tryd.underlying24, Tryd.isAgg24, Tryd.sizeOf24⟩
instance zero24 : Zero Tryd.prog 24 (Go.Value.agg #[Go.Value.int Go.IntKind.i64 0, Go.Value.slice none 0 0, Go.Value.string { data := #[] }, Go.Value.slice none 0 0, Go.Value.int Go.IntKind.i64 0, Go.Value.slice none 0 0]) #[Go.Value.int Go.IntKind.i64 0, Go.Value.slice none 0 0, Go.Value.string { data := #[] }, Go.Value.slice none 0 0, Go.Value.int Go.IntKind.i64 0, Go.Value.slice none 0 0] := ⟨Tryd.zeroValue24, rfl⟩
instance ty25 : Ty Tryd.prog 25 (Go.TypeDesc.struct #[{ name := "K", type := 3, offset := 0, embedded := false, tag := "", pkgPath := "", byteOffset := 0 }, { name := "Tokens", type := 22, offset := 1, embedded := false, tag := "", pkgPath := "", byteOffset := 8 }, { name := "Sep", type := 9, offset := 2, embedded := false, tag := "", pkgPath := "", byteOffset := 32 }, { name := "Names", type := 22, offset := 3, embedded := false, tag := "", pkgPath := "", byteOffset := 48 }, { name := "Start", type := 3, offset := 4, embedded := false, tag := "", pkgPath := "", byteOffset := 72 }, { name := "Prods", type := 23, offset := 5, embedded := false, tag := "", pkgPath := "", byteOffset := 80 }]) 6 true := ⟨Tryd.underlying25, Tryd.isAgg25, Tryd.sizeOf25⟩
instance zero25 : Zero Tryd.prog 25 (Go.Value.agg #[Go.Value.int Go.IntKind.i64 0, Go.Value.slice none 0 0, Go.Value.string { data := #[] }, Go.Value.slice none 0 0, Go.Value.int Go.IntKind.i64 0, Go.Value.slice none 0 0]) #[Go.Value.int Go.IntKind.i64 0, Go.Value.slice none 0 0, Go.Value.string { data := #[] }, Go.Value.slice none 0 0, Go.Value.int Go.IntKind.i64 0, Go.Value.slice none 0 0] := ⟨Tryd.zeroValue25, rfl⟩
instance ty26 : Ty Tryd.prog 26 (Go.TypeDesc.slice 57) 1 false := ⟨Tryd.underlying26, Tryd.isAgg26, Tryd.sizeOf26⟩
instance zero26 : Zero Tryd.prog 26 (Go.Value.slice none 0 0) #[Go.Value.slice none 0 0] := ⟨Tryd.zeroValue26, rfl⟩
instance ty27 : Ty Tryd.prog 27 (Go.TypeDesc.func #[25] #[4] false) 1 false := ⟨Tryd.underlying27, Tryd.isAgg27, Tryd.sizeOf27⟩
instance zero27 : Zero Tryd.prog 27 (Go.Value.nilFunc) #[Go.Value.nilFunc] := ⟨Tryd.zeroValue27, rfl⟩
instance ty28 : Ty Tryd.prog 28 (Go.TypeDesc.func #[26] #[4] false) 1 false := ⟨Tryd.underlying28, Tryd.isAgg28, Tryd.sizeOf28⟩
instance zero28 : Zero Tryd.prog 28 (Go.Value.nilFunc) #[Go.Value.nilFunc] := ⟨Tryd.zeroValue28, rfl⟩
instance ty29 : Ty Tryd.prog 29 (Go.TypeDesc.func #[] #[4] false) 1 false := ⟨Tryd.underlying29, Tryd.isAgg29, Tryd.sizeOf29⟩
instance zero29 : Zero Tryd.prog 29 (Go.Value.nilFunc) #[Go.Value.nilFunc] := ⟨Tryd.zeroValue29, rfl⟩
instance ty30 : Ty Tryd.prog 30 (Go.TypeDesc.func #[25] #[25] false) 1 false := ⟨Tryd.underlying30, Tryd.isAgg30, Tryd.sizeOf30⟩
instance zero30 : Zero Tryd.prog 30 (Go.Value.nilFunc) #[Go.Value.nilFunc] := ⟨Tryd.zeroValue30, rfl⟩
instance ty31 : Ty Tryd.prog 31 (Go.TypeDesc.func #[26] #[26] false) 1 false := ⟨Tryd.underlying31, Tryd.isAgg31, Tryd.sizeOf31⟩
instance zero31 : Zero Tryd.prog 31 (Go.Value.nilFunc) #[Go.Value.nilFunc] := ⟨Tryd.zeroValue31, rfl⟩
instance ty32 : Ty Tryd.prog 32 (Go.TypeDesc.slice 3) 1 false := ⟨Tryd.underlying32, Tryd.isAgg32, Tryd.sizeOf32⟩
instance zero32 : Zero Tryd.prog 32 (Go.Value.slice none 0 0) #[Go.Value.slice none 0 0] := ⟨Tryd.zeroValue32, rfl⟩
instance ty33 : Ty Tryd.prog 33 (Go.TypeDesc.int Go.IntKind.i64) 1 false := ⟨Tryd.underlying33, Tryd.isAgg33, Tryd.sizeOf33⟩
instance zero33 : Zero Tryd.prog 33 (Go.Value.int Go.IntKind.i64 0) #[Go.Value.int Go.IntKind.i64 0] := ⟨Tryd.zeroValue33, rfl⟩
instance ty34 : Ty Tryd.prog 34 (Go.TypeDesc.tuple #[32, 33]) 1 false := ⟨Tryd.underlying34, Tryd.isAgg34, Tryd.sizeOf34⟩
instance zero34 : Zero Tryd.prog 34 (Go.Value.tuple #[Go.Value.slice none 0 0, Go.Value.int Go.IntKind.i64 0]) #[Go.Value.tuple #[Go.Value.slice none 0 0, Go.Value.int Go.IntKind.i64 0]] := ⟨Tryd.zeroValue34, rfl⟩
instance ty35 : Ty Tryd.prog 35 (Go.TypeDesc.func #[25, 26] #[32, 33] false) 1 false := ⟨Tryd.underlying35, Tryd.isAgg35, Tryd.sizeOf35⟩
instance zero35 : Zero Tryd.prog 35 (Go.Value.nilFunc) #[Go.Value.nilFunc] := ⟨Tryd.zeroValue35, rfl⟩
instance ty36 : Ty Tryd.prog 36 (Go.TypeDesc.tuple #[9, 33]) 1 false := ⟨Tryd.underlying36, Tryd.isAgg36, Tryd.sizeOf36⟩
instance zero36 : Zero Tryd.prog 36 (Go.Value.tuple #[Go.Value.string { data := #[] }, Go.Value.int Go.IntKind.i64 0]) #[Go.Value.tuple #[Go.Value.string { data := #[] }, Go.Value.int Go.IntKind.i64 0]] := ⟨Tryd.zeroValue36, rfl⟩
instance ty37 : Ty Tryd.prog 37 (Go.TypeDesc.func #[26] #[9, 33] false) 1 false := ⟨Tryd.underlying37, Tryd.isAgg37, Tryd.sizeOf37⟩
instance zero37 : Zero Tryd.prog 37 (Go.Value.nilFunc) #[Go.Value.nilFunc] := ⟨Tryd.zeroValue37, rfl⟩
instance ty38 : Ty Tryd.prog 38 (Go.TypeDesc.func #[32, 32] #[4] false) 1 false := ⟨Tryd.underlying38, Tryd.isAgg38, Tryd.sizeOf38⟩
instance zero38 : Zero Tryd.prog 38 (Go.Value.nilFunc) #[Go.Value.nilFunc] := ⟨Tryd.zeroValue38, rfl⟩
instance ty39 : Ty Tryd.prog 39 (Go.TypeDesc.func #[26, 26] #[4] false) 1 false := ⟨Tryd.underlying39, Tryd.isAgg39, Tryd.sizeOf39⟩
instance zero39 : Zero Tryd.prog 39 (Go.Value.nilFunc) #[Go.Value.nilFunc] := ⟨Tryd.zeroValue39, rfl⟩
instance ty40 : Ty Tryd.prog 40 (Go.TypeDesc.func #[25, 26, 26] #[4] false) 1 false := ⟨Tryd.underlying40, Tryd.isAgg40, Tryd.sizeOf40⟩
instance zero40 : Zero Tryd.prog 40 (Go.Value.nilFunc) #[Go.Value.nilFunc] := ⟨Tryd.zeroValue40, rfl⟩
instance ty41 : Ty Tryd.prog 41 (Go.TypeDesc.func #[22, 3] #[4] false) 1 false := ⟨Tryd.underlying41, Tryd.isAgg41, Tryd.sizeOf41⟩
instance zero41 : Zero Tryd.prog 41 (Go.Value.nilFunc) #[Go.Value.nilFunc] := ⟨Tryd.zeroValue41, rfl⟩
instance ty42 : Ty Tryd.prog 42 (Go.TypeDesc.struct #[{ name := "Left", type := 3, offset := 0, embedded := false, tag := "", pkgPath := "", byteOffset := 0 }, { name := "Right", type := 32, offset := 1, embedded := false, tag := "", pkgPath := "", byteOffset := 8 }]) 2 true := ⟨Tryd.underlying42, Tryd.isAgg42, Tryd.sizeOf42⟩
instance zero42 : Zero Tryd.prog 42 (Go.Value.agg #[Go.Value.int Go.IntKind.i64 0, Go.Value.slice none 0 0]) #[Go.Value.int Go.IntKind.i64 0, Go.Value.slice none 0 0] := ⟨Tryd.zeroValue42, rfl⟩
instance ty43 : Ty Tryd.prog 43 (Go.TypeDesc.struct #[{ name := "Left", type := 3, offset := 0, embedded := false, tag := "", pkgPath := "", byteOffset := 0 }, { name := "Right", type := 32, offset := 1, embedded := false, tag := "", pkgPath := "", byteOffset := 8 }]) 2 true := ⟨Tryd.underlying43, Tryd.isAgg43, Tryd.sizeOf43⟩
instance zero43 : Zero Tryd.prog 43 (Go.Value.agg #[Go.Value.int Go.IntKind.i64 0, Go.Value.slice none 0 0]) #[Go.Value.int Go.IntKind.i64 0, Go.Value.slice none 0 0] := ⟨Tryd.zeroValue43, rfl⟩
instance ty44 : Ty Tryd.prog 44 (Go.TypeDesc.tuple #[26, 33]) 1 false := ⟨Tryd.underlying44, Tryd.isAgg44, Tryd.sizeOf44⟩
instance zero44 : Zero Tryd.prog 44 (Go.Value.tuple #[Go.Value.slice none 0 0, Go.Value.int Go.IntKind.i64 0]) #[Go.Value.tuple #[Go.Value.slice none 0 0, Go.Value.int Go.IntKind.i64 0]] := ⟨Tryd.zeroValue44, rfl⟩
instance ty45 : Ty Tryd.prog 45 (Go.TypeDesc.func #[25, 26, 3] #[26, 33] false) 1 false := ⟨Tryd.underlying45, Tryd.isAgg45, Tryd.sizeOf45⟩
instance zero45 : Zero Tryd.prog 45 (Go.Value.nilFunc) #[Go.Value.nilFunc] := ⟨Tryd.zeroValue45, rfl⟩
instance ty46 : Ty Tryd.prog 46 (Go.TypeDesc.func #[] #[25] false) 1 false := ⟨Tryd.underlying46, Tryd.isAgg46, Tryd.sizeOf46⟩
instance zero46 : Zero Tryd.prog 46 (Go.Value.nilFunc) #[Go.Value.nilFunc] := ⟨Tryd.zeroValue46, rfl⟩
instance ty47 : Ty Tryd.prog 47 (Go.TypeDesc.func #[32] #[26] true) 1 false := ⟨Tryd.underlying47, Tryd.isAgg47, Tryd.sizeOf47⟩
instance zero47 : Zero Tryd.prog 47 (Go.Value.nilFunc) #[Go.Value.nilFunc] := ⟨Tryd.zeroValue47, rfl⟩
instance ty48 : Ty Tryd.prog 48 (Go.TypeDesc.func #[3, 3, 32] #[4] true) 1 false := ⟨Tryd.underlying48, Tryd.isAgg48, Tryd.sizeOf48⟩
instance zero48 : Zero Tryd.prog 48 (Go.Value.nilFunc) #[Go.Value.nilFunc] := ⟨Tryd.zeroValue48, rfl⟩
instance ty49 : Ty Tryd.prog 49 (Go.TypeDesc.func #[33, 32] #[4] true) 1 false := ⟨Tryd.underlying49, Tryd.isAgg49, Tryd.sizeOf49⟩
instance zero49 : Zero Tryd.prog 49 (Go.Value.nilFunc) #[Go.Value.nilFunc] := ⟨Tryd.zeroValue49, rfl⟩
instance ty50 : Ty Tryd.prog 50 (Go.TypeDesc.func #[22] #[22] false) 1 false := ⟨Tryd.underlying50, Tryd.isAgg50, Tryd.sizeOf50⟩
instance zero50 : Zero Tryd.prog 50 (Go.Value.nilFunc) #[Go.Value.nilFunc] := ⟨Tryd.zeroValue50, rfl⟩
instance ty51 : Ty Tryd.prog 51 (Go.TypeDesc.func #[32] #[32] false) 1 false := ⟨Tryd.underlying51, Tryd.isAgg51, Tryd.sizeOf51⟩
instance zero51 : Zero Tryd.prog 51 (Go.Value.nilFunc) #[Go.Value.nilFunc] := ⟨Tryd.zeroValue51, rfl⟩
instance ty52 : Ty Tryd.prog 52 (Go.TypeDesc.func #[25, 26] #[33] false) 1 false := ⟨Tryd.underlying52, Tryd.isAgg52, Tryd.sizeOf52⟩
instance zero52 : Zero Tryd.prog 52 (Go.Value.nilFunc) #[Go.Value.nilFunc] := ⟨Tryd.zeroValue52, rfl⟩
instance ty53 : Ty Tryd.prog 53 (Go.TypeDesc.func #[66] #[] false) 1 false := ⟨Tryd.underlying53, Tryd.isAgg53, Tryd.sizeOf53⟩
instance zero53 : Zero Tryd.prog 53 (Go.Value.nilFunc) #[Go.Value.nilFunc] := ⟨Tryd.zeroValue53, rfl⟩
instance ty54 : Ty Tryd.prog 54 (Go.TypeDesc.func #[66] #[] false) 1 false := ⟨Tryd.underlying54, Tryd.isAgg54, Tryd.sizeOf54⟩
instance zero54 : Zero Tryd.prog 54 (Go.Value.nilFunc) #[Go.Value.nilFunc] := ⟨Tryd.zeroValue54, rfl⟩
instance ty55 : Ty Tryd.prog 55 (Go.TypeDesc.func #[26] #[54] false) 1 false := ⟨Tryd.underlying55, Tryd.isAgg55, Tryd.sizeOf55⟩
instance zero55 : Zero Tryd.prog 55 (Go.Value.nilFunc) #[Go.Value.nilFunc] := ⟨Tryd.zeroValue55, rfl⟩
instance ty56 : Ty Tryd.prog 56 (Go.TypeDesc.struct #[{ name := "Prod", type := 3, offset := 0, embedded := false, tag := "", pkgPath := "", byteOffset := 0 }, { name := "Dot", type := 3, offset := 1, embedded := false, tag := "", pkgPath := "", byteOffset := 8 }]) 2 true := ⟨Tryd.underlying56, Tryd.isAgg56, Tryd.sizeOf56⟩
instance zero56 : Zero Tryd.prog 56 (Go.Value.agg #[Go.Value.int Go.IntKind.i64 0, Go.Value.int Go.IntKind.i64 0]) #[Go.Value.int Go.IntKind.i64 0, Go.Value.int Go.IntKind.i64 0] := ⟨Tryd.zeroValue56, rfl⟩
instance ty57 : Ty Tryd.prog 57 (Go.TypeDesc.struct #[{ name := "Prod", type := 3, offset := 0, embedded := false, tag := "", pkgPath := "", byteOffset := 0 }, { name := "Dot", type := 3, offset := 1, embedded := false, tag := "", pkgPath := "", byteOffset := 8 }]) 2 true := ⟨Tryd.underlying57, Tryd.isAgg57, Tryd.sizeOf57⟩
instance zero57 : Zero Tryd.prog 57 (Go.Value.agg #[Go.Value.int Go.IntKind.i64 0, Go.Value.int Go.IntKind.i64 0]) #[Go.Value.int Go.IntKind.i64 0, Go.Value.int Go.IntKind.i64 0] := ⟨Tryd.zeroValue57, rfl⟩
instance ty58 : Ty Tryd.prog 58 (Go.TypeDesc.func #[3] #[9] false) 1 false := ⟨Tryd.underlying58, Tryd.isAgg58, Tryd.sizeOf58⟩
instance zero58 : Zero Tryd.prog 58 (Go.Value.nilFunc) #[Go.Value.nilFunc] := ⟨Tryd.zeroValue58, rfl⟩
instance ty59 : Ty Tryd.prog 59 (Go.TypeDesc.func #[22, 9] #[9] false) 1 false := ⟨Tryd.underlying59, Tryd.isAgg59, Tryd.sizeOf59⟩
instance zero59 : Zero Tryd.prog 59 (Go.Value.nilFunc) #[Go.Value.nilFunc] := ⟨Tryd.zeroValue59, rfl⟩
instance ty60 : Ty Tryd.prog 60 (Go.TypeDesc.int Go.IntKind.i64) 1 false := ⟨Tryd.underlying60, Tryd.isAgg60, Tryd.sizeOf60⟩
instance zero60 : Zero Tryd.prog 60 (Go.Value.int Go.IntKind.i64 0) #[Go.Value.int Go.IntKind.i64 0] := ⟨Tryd.zeroValue60, rfl⟩
instance ty61 : Ty Tryd.prog 61 (Go.TypeDesc.tuple #[60, 3]) 1 false := ⟨Tryd.underlying61, Tryd.isAgg61, Tryd.sizeOf61⟩
instance zero61 : Zero Tryd.prog 61 (Go.Value.tuple #[Go.Value.int Go.IntKind.i64 0, Go.Value.int Go.IntKind.i64 0]) #[Go.Value.tuple #[Go.Value.int Go.IntKind.i64 0, Go.Value.int Go.IntKind.i64 0]] := ⟨Tryd.zeroValue61, rfl⟩
instance ty62 : Ty Tryd.prog 62 (Go.TypeDesc.func #[25, 26] #[60, 3] false) 1 false := ⟨Tryd.underlying62, Tryd.isAgg62, Tryd.sizeOf62⟩
instance zero62 : Zero Tryd.prog 62 (Go.Value.nilFunc) #[Go.Value.nilFunc] := ⟨Tryd.zeroValue62, rfl⟩
instance ty63 : Ty Tryd.prog 63 (Go.TypeDesc.tuple #[3, 3, 33]) 1 false := ⟨Tryd.underlying63, Tryd.isAgg63, Tryd.sizeOf63⟩
instance zero63 : Zero Tryd.prog 63 (Go.Value.tuple #[Go.Value.int Go.IntKind.i64 0, Go.Value.int Go.IntKind.i64 0, Go.Value.int Go.IntKind.i64 0]) #[Go.Value.tuple #[Go.Value.int Go.IntKind.i64 0, Go.Value.int Go.IntKind.i64 0, Go.Value.int Go.IntKind.i64 0]] := ⟨Tryd.zeroValue63, rfl⟩
instance ty64 : Ty Tryd.prog 64 (Go.TypeDesc.func #[25, 26] #[3, 3, 33] false) 1 false := ⟨Tryd.underlying64, Tryd.isAgg64, Tryd.sizeOf64⟩
instance zero64 : Zero Tryd.prog 64 (Go.Value.nilFunc) #[Go.Value.nilFunc] := ⟨Tryd.zeroValue64, rfl⟩
instance ty65 : Ty Tryd.prog 65 (Go.TypeDesc.func #[25] #[33] false) 1 false := ⟨Tryd.underlying65, Tryd.isAgg65, Tryd.sizeOf65⟩
instance zero65 : Zero Tryd.prog 65 (Go.Value.nilFunc) #[Go.Value.nilFunc] := ⟨Tryd.zeroValue65, rfl⟩
instance ty66 : Ty Tryd.prog 66 (Go.TypeDesc.func #[3, 57] #[4] false) 1 false := ⟨Tryd.underlying66, Tryd.isAgg66, Tryd.sizeOf66⟩
instance zero66 : Zero Tryd.prog 66 (Go.Value.nilFunc) #[Go.Value.nilFunc] := ⟨Tryd.zeroValue66, rfl⟩
instance ty67 : Ty Tryd.prog 67 (Go.TypeDesc.pointer 70) 1 false := ⟨Tryd.underlying67, Tryd.isAgg67, Tryd.sizeOf67⟩
instance zero67 : Zero Tryd.prog 67 (Go.Value.pointer none) #[Go.Value.pointer none] := ⟨Tryd.zeroValue67, rfl⟩
instance ty68 : Ty Tryd.prog 68 (Go.TypeDesc.slice 5) 1 false := ⟨Tryd.underlying68, Tryd.isAgg68, Tryd.sizeOf68⟩
instance zero68 : Zero Tryd.prog 68 (Go.Value.slice none 0 0) #[Go.Value.slice none 0 0] := ⟨Tryd.zeroValue68, rfl⟩
instance ty69 : Ty Tryd.prog 69 (Go.TypeDesc.struct #[{ name := "addr", type := 67, offset := 0, embedded := false, tag := "", pkgPath := "strings", byteOffset := 0 }, { name := "buf", type := 68, offset := 1, embedded := false, tag := "", pkgPath := "strings", byteOffset := 8 }]) 2 true := ⟨Tryd.underlying69, Tryd.isAgg69, Tryd.sizeOf69⟩
instance zero69 : Zero Tryd.prog 69 (Go.Value.agg #[Go.Value.pointer none, Go.Value.slice none 0 0]) #[Go.Value.pointer none, Go.Value.slice none 0 0] := ⟨Tryd.zeroValue69, rfl⟩
instance ty70 : Ty Tryd.prog 70 (Go.TypeDesc.struct #[{ name := "addr", type := 67, offset := 0, embedded := false, tag := "", pkgPath := "strings", byteOffset := 0 }, { name := "buf", type := 68, offset := 1, embedded := false, tag := "", pkgPath := "strings", byteOffset := 8 }]) 2 true := ⟨Tryd.underlying70, Tryd.isAgg70, Tryd.sizeOf70⟩
instance zero70 : Zero Tryd.prog 70 (Go.Value.agg #[Go.Value.pointer none, Go.Value.slice none 0 0]) #[Go.Value.pointer none, Go.Value.slice none 0 0] := ⟨Tryd.zeroValue70, rfl⟩
instance ty71 : Ty Tryd.prog 71 (Go.TypeDesc.func #[3] #[] false) 1 false := ⟨Tryd.underlying71, Tryd.isAgg71, Tryd.sizeOf71⟩
instance zero71 : Zero Tryd.prog 71 (Go.Value.nilFunc) #[Go.Value.nilFunc] := ⟨Tryd.zeroValue71, rfl⟩
instance ty72 : Ty Tryd.prog 72 (Go.TypeDesc.interface #[("Error", 76)]) 1 false := ⟨Tryd.underlying72, Tryd.isAgg72, Tryd.sizeOf72⟩
instance zero72 : Zero Tryd.prog 72 (Go.Value.nilIface) #[Go.Value.nilIface] := ⟨Tryd.zeroValue72, rfl⟩
instance ty73 : Ty Tryd.prog 73 (Go.TypeDesc.interface #[("Error", 76)]) 1 false := ⟨Tryd.underlying73, Tryd.isAgg73, Tryd.sizeOf73⟩
instance zero73 : Zero Tryd.prog 73 (Go.Value.nilIface) #[Go.Value.nilIface] := ⟨Tryd.zeroValue73, rfl⟩
instance ty74 : Ty Tryd.prog 74 (Go.TypeDesc.tuple #[3, 73]) 1 false := ⟨Tryd.underlying74, Tryd.isAgg74, Tryd.sizeOf74⟩
instance zero74 : Zero Tryd.prog 74 (Go.Value.tuple #[Go.Value.int Go.IntKind.i64 0, Go.Value.nilIface]) #[Go.Value.tuple #[Go.Value.int Go.IntKind.i64 0, Go.Value.nilIface]] := ⟨Tryd.zeroValue74, rfl⟩
instance ty75 : Ty Tryd.prog 75 (Go.TypeDesc.func #[9] #[3, 73] false) 1 false := ⟨Tryd.underlying75, Tryd.isAgg75, Tryd.sizeOf75⟩
instance zero75 : Zero Tryd.prog 75 (Go.Value.nilFunc) #[Go.Value.nilFunc] := ⟨Tryd.zeroValue75, rfl⟩
instance ty76 : Ty Tryd.prog 76 (Go.TypeDesc.func #[] #[9] false) 1 false := ⟨Tryd.underlying76, Tryd.isAgg76, Tryd.sizeOf76⟩
instance zero76 : Zero Tryd.prog 76 (Go.Value.nilFunc) #[Go.Value.nilFunc] := ⟨Tryd.zeroValue76, rfl⟩
instance ty77 : Ty Tryd.prog 77 (Go.TypeDesc.func #[] #[3] false) 1 false := ⟨Tryd.underlying77, Tryd.isAgg77, Tryd.sizeOf77⟩
instance zero77 : Zero Tryd.prog 77 (Go.Value.nilFunc) #[Go.Value.nilFunc] := ⟨Tryd.zeroValue77, rfl⟩
instance ty78 : Ty Tryd.prog 78 (Go.TypeDesc.slice 65) 1 false := ⟨Tryd.underlying78, Tryd.isAgg78, Tryd.sizeOf78⟩
instance zero78 : Zero Tryd.prog 78 (Go.Value.slice none 0 0) #[Go.Value.slice none 0 0] := ⟨Tryd.zeroValue78, rfl⟩
instance ty79 : Ty Tryd.prog 79 (Go.TypeDesc.func #[2, 3] #[9] false) 1 false := ⟨Tryd.underlying79, Tryd.isAgg79, Tryd.sizeOf79⟩
instance zero79 : Zero Tryd.prog 79 (Go.Value.nilFunc) #[Go.Value.nilFunc] := ⟨Tryd.zeroValue79, rfl⟩
instance ty80 : Ty Tryd.prog 80 (Go.TypeDesc.pointer 5) 1 false := ⟨Tryd.underlying80, Tryd.isAgg80, Tryd.sizeOf80⟩
instance zero80 : Zero Tryd.prog 80 (Go.Value.pointer none) #[Go.Value.pointer none] := ⟨Tryd.zeroValue80, rfl⟩
instance ty81 : Ty Tryd.prog 81 (Go.TypeDesc.array 4 3) 4 true := ⟨Tryd.underlying81, Tryd.isAgg81, Tryd.sizeOf81⟩
instance zero81 : Zero Tryd.prog 81 (Go.Value.agg #[Go.Value.int Go.IntKind.i64 0, Go.Value.int Go.IntKind.i64 0, Go.Value.int Go.IntKind.i64 0, Go.Value.int Go.IntKind.i64 0]) #[Go.Value.int Go.IntKind.i64 0, Go.Value.int Go.IntKind.i64 0, Go.Value.int Go.IntKind.i64 0, Go.Value.int Go.IntKind.i64 0] := ⟨Tryd.zeroValue81, rfl⟩
instance ty82 : Ty Tryd.prog 82 (Go.TypeDesc.func #[114] #[] false) 1 false := ⟨Tryd.underlying82, Tryd.isAgg82, Tryd.sizeOf82⟩
instance zero82 : Zero Tryd.prog 82 (Go.Value.nilFunc) #[Go.Value.nilFunc] := ⟨Tryd.zeroValue82, rfl⟩
instance ty83 : Ty Tryd.prog 83 (Go.TypeDesc.func #[114] #[] false) 1 false := ⟨Tryd.underlying83, Tryd.isAgg83, Tryd.sizeOf83⟩
instance zero83 : Zero Tryd.prog 83 (Go.Value.nilFunc) #[Go.Value.nilFunc] := ⟨Tryd.zeroValue83, rfl⟩
instance ty84 : Ty Tryd.prog 84 (Go.TypeDesc.func #[25] #[83] false) 1 false := ⟨Tryd.underlying84, Tryd.isAgg84, Tryd.sizeOf84⟩
instance zero84 : Zero Tryd.prog 84 (Go.Value.nilFunc) #[Go.Value.nilFunc] := ⟨Tryd.zeroValue84, rfl⟩
instance ty85 : Ty Tryd.prog 85 (Go.TypeDesc.func #[9] #[4] false) 1 false := ⟨Tryd.underlying85, Tryd.isAgg85, Tryd.sizeOf85⟩
instance zero85 : Zero Tryd.prog 85 (Go.Value.nilFunc) #[Go.Value.nilFunc] := ⟨Tryd.zeroValue85, rfl⟩
instance ty86 : Ty Tryd.prog 86 (Go.TypeDesc.map 9 4) 1 false := ⟨Tryd.underlying86, Tryd.isAgg86, Tryd.sizeOf86⟩
instance zero86 : Zero Tryd.prog 86 (Go.Value.map none) #[Go.Value.map none] := ⟨Tryd.zeroValue86, rfl⟩
instance ty87 : Ty Tryd.prog 87 (Go.TypeDesc.func #[25, 3] #[4] false) 1 false := ⟨Tryd.underlying87, Tryd.isAgg87, Tryd.sizeOf87⟩
instance zero87 : Zero Tryd.prog 87 (Go.Value.nilFunc) #[Go.Value.nilFunc] := ⟨Tryd.zeroValue87, rfl⟩
instance ty88 : Ty Tryd.prog 88 (Go.TypeDesc.func #[32, 89] #[4] false) 1 false := ⟨Tryd.underlying88, Tryd.isAgg88, Tryd.sizeOf88⟩
instance zero88 : Zero Tryd.prog 88 (Go.Value.nilFunc) #[Go.Value.nilFunc] := ⟨Tryd.zeroValue88, rfl⟩
instance ty89 : Ty Tryd.prog 89 (Go.TypeDesc.func #[3] #[4] false) 1 false := ⟨Tryd.underlying89, Tryd.isAgg89, Tryd.sizeOf89⟩
instance zero89 : Zero Tryd.prog 89 (Go.Value.nilFunc) #[Go.Value.nilFunc] := ⟨Tryd.zeroValue89, rfl⟩
instance ty90 : Ty Tryd.prog 90 (Go.TypeDesc.func #[23, 91] #[4] false) 1 false := ⟨Tryd.underlying90, Tryd.isAgg90, Tryd.sizeOf90⟩
instance zero90 : Zero Tryd.prog 90 (Go.Value.nilFunc) #[Go.Value.nilFunc] := ⟨Tryd.zeroValue90, rfl⟩
instance ty91 : Ty Tryd.prog 91 (Go.TypeDesc.func #[43] #[4] false) 1 false := ⟨Tryd.underlying91, Tryd.isAgg91, Tryd.sizeOf91⟩
instance zero91 : Zero Tryd.prog 91 (Go.Value.nilFunc) #[Go.Value.nilFunc] := ⟨Tryd.zeroValue91, rfl⟩
instance ty92 : Ty Tryd.prog 92 (Go.TypeDesc.func #[22] #[4] false) 1 false := ⟨Tryd.underlying92, Tryd.isAgg92, Tryd.sizeOf92⟩
instance zero92 : Zero Tryd.prog 92 (Go.Value.nilFunc) #[Go.Value.nilFunc] := ⟨Tryd.zeroValue92, rfl⟩
instance ty93 : Ty Tryd.prog 93 (Go.TypeDesc.func #[25, 3] #[32] false) 1 false := ⟨Tryd.underlying93, Tryd.isAgg93, Tryd.sizeOf93⟩
instance zero93 : Zero Tryd.prog 93 (Go.Value.nilFunc) #[Go.Value.nilFunc] := ⟨Tryd.zeroValue93, rfl⟩
instance ty94 : Ty Tryd.prog 94 (Go.TypeDesc.array 24 5) 24 true := ⟨Tryd.underlying94, Tryd.isAgg94, Tryd.sizeOf94⟩
instance zero94 : Zero Tryd.prog 94 (Go.Value.agg #[Go.Value.int Go.IntKind.u8 0, Go.Value.int Go.IntKind.u8 0, Go.Value.int Go.IntKind.u8 0, Go.Value.int Go.IntKind.u8 0, Go.Value.int Go.IntKind.u8 0, Go.Value.int Go.IntKind.u8 0, Go.Value.int Go.IntKind.u8 0, Go.Value.int Go.IntKind.u8 0, Go.Value.int Go.IntKind.u8 0, Go.Value.int Go.IntKind.u8 0, Go.Value.int Go.IntKind.u8 0, Go.Value.int Go.IntKind.u8 0, Go.Value.int Go.IntKind.u8 0, Go.Value.int Go.IntKind.u8 0, Go.Value.int Go.IntKind.u8 0, Go.Value.int Go.IntKind.u8 0, Go.Value.int Go.IntKind.u8 0, Go.Value.int Go.IntKind.u8 0, Go.Value.int Go.IntKind.u8 0, Go.Value.int Go.IntKind.u8 0, Go.Value.int Go.IntKind.u8 0, Go.Value.int Go.IntKind.u8 0, Go.Value.int Go.IntKind.u8 0, Go.Value.int Go.IntKind.u8 0]) #[Go.Value.int Go.IntKind.u8 0, Go.Value.int Go.IntKind.u8 0, Go.Value.int Go.IntKind.u8 0, Go.Value.int Go.IntKind.u8 0, Go.Value.int Go.IntKind.u8 0, Go.Value.int Go.IntKind.u8 0, Go.Value.int Go.IntKind.u8 0, Go.Value.int Go.IntKind.u8 0, Go.Value.int Go.IntKind.u8 0, Go.Value.int Go.IntKind.u8 0, Go.Value.int Go.IntKind.u8 0, Go.Value.int Go.IntKind.u8 0, Go.Value.int Go.IntKind.u8 0, Go.Value.int Go.IntKind.u8 0, Go.Value.int Go.IntKind.u8 0, Go.Value.int Go.IntKind.u8 0, Go.Value.int Go.IntKind.u8 0, Go.Value.int Go.IntKind.u8 0, Go.Value.int Go.IntKind.u8 0, Go.Value.int Go.IntKind.u8 0, Go.Value.int Go.IntKind.u8 0, Go.Value.int Go.IntKind.u8 0, Go.Value.int Go.IntKind.u8 0, Go.Value.int Go.IntKind.u8 0] := ⟨Tryd.zeroValue94, rfl⟩
instance ty95 : Ty Tryd.prog 95 (Go.TypeDesc.int Go.IntKind.u64) 1 false := ⟨Tryd.underlying95, Tryd.isAgg95, Tryd.sizeOf95⟩
instance zero95 : Zero Tryd.prog 95 (Go.Value.int Go.IntKind.u64 0) #[Go.Value.int Go.IntKind.u64 0] := ⟨Tryd.zeroValue95, rfl⟩
instance ty96 : Ty Tryd.prog 96 (Go.TypeDesc.func #[95] #[3] false) 1 false := ⟨Tryd.underlying96, Tryd.isAgg96, Tryd.sizeOf96⟩
instance zero96 : Zero Tryd.prog 96 (Go.Value.nilFunc) #[Go.Value.nilFunc] := ⟨Tryd.zeroValue96, rfl⟩
instance ty97 : Ty Tryd.prog 97 (Go.TypeDesc.func #[68, 95] #[] false) 1 false := ⟨Tryd.underlying97, Tryd.isAgg97, Tryd.sizeOf97⟩
instance zero97 : Zero Tryd.prog 97 (Go.Value.nilFunc) #[Go.Value.nilFunc] := ⟨Tryd.zeroValue97, rfl⟩
instance ty98 : Ty Tryd.prog 98 (Go.TypeDesc.tuple #[68, 9]) 1 false := ⟨Tryd.underlying98, Tryd.isAgg98, Tryd.sizeOf98⟩
instance zero98 : Zero Tryd.prog 98 (Go.Value.tuple #[Go.Value.slice none 0 0, Go.Value.string { data := #[] }]) #[Go.Value.tuple #[Go.Value.slice none 0 0, Go.Value.string { data := #[] }]] := ⟨Tryd.zeroValue98, rfl⟩
instance ty99 : Ty Tryd.prog 99 (Go.TypeDesc.func #[68, 95, 3, 4, 4] #[68, 9] false) 1 false := ⟨Tryd.underlying99, Tryd.isAgg99, Tryd.sizeOf99⟩
instance zero99 : Zero Tryd.prog 99 (Go.Value.nilFunc) #[Go.Value.nilFunc] := ⟨Tryd.zeroValue99, rfl⟩
instance ty100 : Ty Tryd.prog 100 (Go.TypeDesc.unsafePointer) 1 false := ⟨Tryd.underlying100, Tryd.isAgg100, Tryd.sizeOf100⟩
instance zero100 : Zero Tryd.prog 100 (Go.Value.pointer none) #[Go.Value.pointer none] := ⟨Tryd.zeroValue100, rfl⟩
instance ty101 : Ty Tryd.prog 101 (Go.TypeDesc.func #[100] #[100] false) 1 false := ⟨Tryd.underlying101, Tryd.isAgg101, Tryd.sizeOf101⟩
instance zero101 : Zero Tryd.prog 101 (Go.Value.nilFunc) #[Go.Value.nilFunc] := ⟨Tryd.zeroValue101, rfl⟩
instance ty102 : Ty Tryd.prog 102 (Go.TypeDesc.func #[3] #[68] false) 1 false := ⟨Tryd.underlying102, Tryd.isAgg102, Tryd.sizeOf102⟩
instance zero102 : Zero Tryd.prog 102 (Go.Value.nilFunc) #[Go.Value.nilFunc] := ⟨Tryd.zeroValue102, rfl⟩
instance ty103 : Ty Tryd.prog 103 (Go.TypeDesc.func #[23] #[83] false) 1 false := ⟨Tryd.underlying103, Tryd.isAgg103, Tryd.sizeOf103⟩
instance zero103 : Zero Tryd.prog 103 (Go.Value.nilFunc) #[Go.Value.nilFunc] := ⟨Tryd.zeroValue103, rfl⟩
instance ty104 : Ty Tryd.prog 104 (Go.TypeDesc.func #[9] #[33] false) 1 false := ⟨Tryd.underlying104, Tryd.isAgg104, Tryd.sizeOf104⟩
instance zero104 : Zero Tryd.prog 104 (Go.Value.nilFunc) #[Go.Value.nilFunc] := ⟨Tryd.zeroValue104, rfl⟩
instance ty105 : Ty Tryd.prog 105 (Go.TypeDesc.func #[32, 89] #[3] false) 1 false := ⟨Tryd.underlying105, Tryd.isAgg105, Tryd.sizeOf105⟩
instance zero105 : Zero Tryd.prog 105 (Go.Value.nilFunc) #[Go.Value.nilFunc] := ⟨Tryd.zeroValue105, rfl⟩
instance ty106 : Ty Tryd.prog 106 (Go.TypeDesc.func #[23, 91] #[3] false) 1 false := ⟨Tryd.underlying106, Tryd.isAgg106, Tryd.sizeOf106⟩
instance zero106 : Zero Tryd.prog 106 (Go.Value.nilFunc) #[Go.Value.nilFunc] := ⟨Tryd.zeroValue106, rfl⟩
instance ty107 : Ty Tryd.prog 107 (Go.TypeDesc.func #[3] #[3] false) 1 false := ⟨Tryd.underlying107, Tryd.isAgg107, Tryd.sizeOf107⟩
instance zero107 : Zero Tryd.prog 107 (Go.Value.nilFunc) #[Go.Value.nilFunc] := ⟨Tryd.zeroValue107, rfl⟩
instance ty108 : Ty Tryd.prog 108 (Go.TypeDesc.func #[4] #[3] false) 1 false := ⟨Tryd.underlying108, Tryd.isAgg108, Tryd.sizeOf108⟩
instance zero108 : Zero Tryd.prog 108 (Go.Value.nilFunc) #[Go.Value.nilFunc] := ⟨Tryd.zeroValue108, rfl⟩
instance ty109 : Ty Tryd.prog 109 (Go.TypeDesc.array 20 95) 20 true := ⟨Tryd.underlying109, Tryd.isAgg109, Tryd.sizeOf109⟩
instance zero109 : Zero Tryd.prog 109 (Go.Value.agg #[Go.Value.int Go.IntKind.u64 0, Go.Value.int Go.IntKind.u64 0, Go.Value.int Go.IntKind.u64 0, Go.Value.int Go.IntKind.u64 0, Go.Value.int Go.IntKind.u64 0, Go.Value.int Go.IntKind.u64 0, Go.Value.int Go.IntKind.u64 0, Go.Value.int Go.IntKind.u64 0, Go.Value.int Go.IntKind.u64 0, Go.Value.int Go.IntKind.u64 0, Go.Value.int Go.IntKind.u64 0, Go.Value.int Go.IntKind.u64 0, Go.Value.int Go.IntKind.u64 0, Go.Value.int Go.IntKind.u64 0, Go.Value.int Go.IntKind.u64 0, Go.Value.int Go.IntKind.u64 0, Go.Value.int Go.IntKind.u64 0, Go.Value.int Go.IntKind.u64 0, Go.Value.int Go.IntKind.u64 0, Go.Value.int Go.IntKind.u64 0]) #[Go.Value.int Go.IntKind.u64 0, Go.Value.int Go.IntKind.u64 0, Go.Value.int Go.IntKind.u64 0, Go.Value.int Go.IntKind.u64 0, Go.Value.int Go.IntKind.u64 0, Go.Value.int Go.IntKind.u64 0, Go.Value.int Go.IntKind.u64 0, Go.Value.int Go.IntKind.u64 0, Go.Value.int Go.IntKind.u64 0, Go.Value.int Go.IntKind.u64 0, Go.Value.int Go.IntKind.u64 0, Go.Value.int Go.IntKind.u64 0, Go.Value.int Go.IntKind.u64 0, Go.Value.int Go.IntKind.u64 0, Go.Value.int Go.IntKind.u64 0, Go.Value.int Go.IntKind.u64 0, Go.Value.int Go.IntKind.u64 0, Go.Value.int Go.IntKind.u64 0, Go.Value.int Go.IntKind.u64 0, Go.Value.int Go.IntKind.u64 0] := ⟨Tryd.zeroValue109, rfl⟩
instance ty110 : Ty Tryd.prog 110 (Go.TypeDesc.int Go.IntKind.u32) 1 false := ⟨Tryd.underlying110, Tryd.isAgg110, Tryd.sizeOf110⟩
instance zero110 : Zero Tryd.prog 110 (Go.Value.int Go.IntKind.u32 0) #[Go.Value.int Go.IntKind.u32 0] := ⟨Tryd.zeroValue110, rfl⟩
instance ty111 : Ty Tryd.prog 111 (Go.TypeDesc.array 65 5) 65 true := ⟨Tryd.underlying111, Tryd.isAgg111, Tryd.sizeOf111⟩
instance zero111 : Zero Tryd.prog 111 (Go.Value.agg Go.Proofs.Tryd.zeroCells111) Go.Proofs.Tryd.zeroCells111 := ⟨Tryd.zeroValue111, rfl⟩
instance ty112 : Ty Tryd.prog 112 (Go.TypeDesc.int Go.IntKind.u64) 1 false := ⟨Tryd.underlying112, Tryd.isAgg112, Tryd.sizeOf112⟩
instance zero112 : Zero Tryd.prog 112 (Go.Value.int Go.IntKind.u64 0) #[Go.Value.int Go.IntKind.u64 0] := ⟨Tryd.zeroValue112, rfl⟩
instance ty113 : Ty Tryd.prog 113 (Go.TypeDesc.func #[112] #[3] false) 1 false := ⟨Tryd.underlying113, Tryd.isAgg113, Tryd.sizeOf113⟩
instance zero113 : Zero Tryd.prog 113 (Go.Value.nilFunc) #[Go.Value.nilFunc] := ⟨Tryd.zeroValue113, rfl⟩
instance ty114 : Ty Tryd.prog 114 (Go.TypeDesc.func #[3, 43] #[4] false) 1 false := ⟨Tryd.underlying114, Tryd.isAgg114, Tryd.sizeOf114⟩
instance zero114 : Zero Tryd.prog 114 (Go.Value.nilFunc) #[Go.Value.nilFunc] := ⟨Tryd.zeroValue114, rfl⟩
instance ty115 : Ty Tryd.prog 115 (Go.TypeDesc.func #[110] #[3] false) 1 false := ⟨Tryd.underlying115, Tryd.isAgg115, Tryd.sizeOf115⟩
instance zero115 : Zero Tryd.prog 115 (Go.Value.nilFunc) #[Go.Value.nilFunc] := ⟨Tryd.zeroValue115, rfl⟩
instance ty116 : Ty Tryd.prog 116 (Go.TypeDesc.func #[21] #[4] false) 1 false := ⟨Tryd.underlying116, Tryd.isAgg116, Tryd.sizeOf116⟩
instance zero116 : Zero Tryd.prog 116 (Go.Value.nilFunc) #[Go.Value.nilFunc] := ⟨Tryd.zeroValue116, rfl⟩
instance ty117 : Ty Tryd.prog 117 (Go.TypeDesc.array 4 9) 4 true := ⟨Tryd.underlying117, Tryd.isAgg117, Tryd.sizeOf117⟩
instance zero117 : Zero Tryd.prog 117 (Go.Value.agg #[Go.Value.string { data := #[] }, Go.Value.string { data := #[] }, Go.Value.string { data := #[] }, Go.Value.string { data := #[] }]) #[Go.Value.string { data := #[] }, Go.Value.string { data := #[] }, Go.Value.string { data := #[] }, Go.Value.string { data := #[] }] := ⟨Tryd.zeroValue117, rfl⟩
instance ty118 : Ty Tryd.prog 118 (Go.TypeDesc.func #[22, 9] #[4] false) 1 false := ⟨Tryd.underlying118, Tryd.isAgg118, Tryd.sizeOf118⟩
instance zero118 : Zero Tryd.prog 118 (Go.Value.nilFunc) #[Go.Value.nilFunc] := ⟨Tryd.zeroValue118, rfl⟩
instance ty119 : Ty Tryd.prog 119 (Go.TypeDesc.func #[5] #[4] false) 1 false := ⟨Tryd.underlying119, Tryd.isAgg119, Tryd.sizeOf119⟩
instance zero119 : Zero Tryd.prog 119 (Go.Value.nilFunc) #[Go.Value.nilFunc] := ⟨Tryd.zeroValue119, rfl⟩
instance ty120 : Ty Tryd.prog 120 (Go.TypeDesc.array 32 5) 32 true := ⟨Tryd.underlying120, Tryd.isAgg120, Tryd.sizeOf120⟩
instance zero120 : Zero Tryd.prog 120 (Go.Value.agg #[Go.Value.int Go.IntKind.u8 0, Go.Value.int Go.IntKind.u8 0, Go.Value.int Go.IntKind.u8 0, Go.Value.int Go.IntKind.u8 0, Go.Value.int Go.IntKind.u8 0, Go.Value.int Go.IntKind.u8 0, Go.Value.int Go.IntKind.u8 0, Go.Value.int Go.IntKind.u8 0, Go.Value.int Go.IntKind.u8 0, Go.Value.int Go.IntKind.u8 0, Go.Value.int Go.IntKind.u8 0, Go.Value.int Go.IntKind.u8 0, Go.Value.int Go.IntKind.u8 0, Go.Value.int Go.IntKind.u8 0, Go.Value.int Go.IntKind.u8 0, Go.Value.int Go.IntKind.u8 0, Go.Value.int Go.IntKind.u8 0, Go.Value.int Go.IntKind.u8 0, Go.Value.int Go.IntKind.u8 0, Go.Value.int Go.IntKind.u8 0, Go.Value.int Go.IntKind.u8 0, Go.Value.int Go.IntKind.u8 0, Go.Value.int Go.IntKind.u8 0, Go.Value.int Go.IntKind.u8 0, Go.Value.int Go.IntKind.u8 0, Go.Value.int Go.IntKind.u8 0, Go.Value.int Go.IntKind.u8 0, Go.Value.int Go.IntKind.u8 0, Go.Value.int Go.IntKind.u8 0, Go.Value.int Go.IntKind.u8 0, Go.Value.int Go.IntKind.u8 0, Go.Value.int Go.IntKind.u8 0]) #[Go.Value.int Go.IntKind.u8 0, Go.Value.int Go.IntKind.u8 0, Go.Value.int Go.IntKind.u8 0, Go.Value.int Go.IntKind.u8 0, Go.Value.int Go.IntKind.u8 0, Go.Value.int Go.IntKind.u8 0, Go.Value.int Go.IntKind.u8 0, Go.Value.int Go.IntKind.u8 0, Go.Value.int Go.IntKind.u8 0, Go.Value.int Go.IntKind.u8 0, Go.Value.int Go.IntKind.u8 0, Go.Value.int Go.IntKind.u8 0, Go.Value.int Go.IntKind.u8 0, Go.Value.int Go.IntKind.u8 0, Go.Value.int Go.IntKind.u8 0, Go.Value.int Go.IntKind.u8 0, Go.Value.int Go.IntKind.u8 0, Go.Value.int Go.IntKind.u8 0, Go.Value.int Go.IntKind.u8 0, Go.Value.int Go.IntKind.u8 0, Go.Value.int Go.IntKind.u8 0, Go.Value.int Go.IntKind.u8 0, Go.Value.int Go.IntKind.u8 0, Go.Value.int Go.IntKind.u8 0, Go.Value.int Go.IntKind.u8 0, Go.Value.int Go.IntKind.u8 0, Go.Value.int Go.IntKind.u8 0, Go.Value.int Go.IntKind.u8 0, Go.Value.int Go.IntKind.u8 0, Go.Value.int Go.IntKind.u8 0, Go.Value.int Go.IntKind.u8 0, Go.Value.int Go.IntKind.u8 0] := ⟨Tryd.zeroValue120, rfl⟩
instance ty121 : Ty Tryd.prog 121 (Go.TypeDesc.array 64 5) 64 true := ⟨Tryd.underlying121, Tryd.isAgg121, Tryd.sizeOf121⟩
instance zero121 : Zero Tryd.prog 121 (Go.Value.agg #[Go.Value.int Go.IntKind.u8 0, Go.Value.int Go.IntKind.u8 0, Go.Value.int Go.IntKind.u8 0, Go.Value.int Go.IntKind.u8 0, Go.Value.int Go.IntKind.u8 0, Go.Value.int Go.IntKind.u8 0, Go.Value.int Go.IntKind.u8 0, Go.Value.int Go.IntKind.u8 0, Go.Value.int Go.IntKind.u8 0, Go.Value.int Go.IntKind.u8 0, Go.Value.int Go.IntKind.u8 0, Go.Value.int Go.IntKind.u8 0, Go.Value.int Go.IntKind.u8 0, Go.Value.int Go.IntKind.u8 0, Go.Value.int Go.IntKind.u8 0, Go.Value.int Go.IntKind.u8 0, Go.Value.int Go.IntKind.u8 0, Go.Value.int Go.IntKind.u8 0, Go.Value.int Go.IntKind.u8 0, Go.Value.int Go.IntKind.u8 0, Go.Value.int Go.IntKind.u8 0, Go.Value.int Go.IntKind.u8 0, Go.Value.int Go.IntKind.u8 0, Go.Value.int Go.IntKind.u8 0, Go.Value.int Go.IntKind.u8 0, Go.Value.int Go.IntKind.u8 0, Go.Value.int Go.IntKind.u8 0, Go.Value.int Go.IntKind.u8 0, Go.Value.int Go.IntKind.u8 0, Go.Value.int Go.IntKind.u8 0, Go.Value.int Go.IntKind.u8 0, Go.Value.int Go.IntKind.u8 0, Go.Value.int Go.IntKind.u8 0, Go.Value.int Go.IntKind.u8 0, Go.Value.int Go.IntKind.u8 0, Go.Value.int Go.IntKind.u8 0, Go.Value.int Go.IntKind.u8 0, Go.Value.int Go.IntKind.u8 0, Go.Value.int Go.IntKind.u8 0, Go.Value.int Go.IntKind.u8 0, Go.Value.int Go.IntKind.u8 0, Go.Value.int Go.IntKind.u8 0, Go.Value.int Go.IntKind.u8 0, Go.Value.int Go.IntKind.u8 0, Go.Value.int Go.IntKind.u8 0, Go.Value.int Go.IntKind.u8 0, Go.Value.int Go.IntKind.u8 0, Go.Value.int Go.IntKind.u8 0, Go.Value.int Go.IntKind.u8 0, Go.Value.int Go.IntKind.u8 0, Go.Value.int Go.IntKind.u8 0, Go.Value.int Go.IntKind.u8 0, Go.Value.int Go.IntKind.u8 0, Go.Value.int Go.IntKind.u8 0, Go.Value.int Go.IntKind.u8 0, Go.Value.int Go.IntKind.u8 0, Go.Value.int Go.IntKind.u8 0, Go.Value.int Go.IntKind.u8 0, Go.Value.int Go.IntKind.u8 0, Go.Value.int Go.IntKind.u8 0, Go.Value.int Go.IntKind.u8 0, Go.Value.int Go.IntKind.u8 0, Go.Value.int Go.IntKind.u8 0, Go.Value.int Go.IntKind.u8 0]) #[Go.Value.int Go.IntKind.u8 0, Go.Value.int Go.IntKind.u8 0, Go.Value.int Go.IntKind.u8 0, Go.Value.int Go.IntKind.u8 0, Go.Value.int Go.IntKind.u8 0, Go.Value.int Go.IntKind.u8 0, Go.Value.int Go.IntKind.u8 0, Go.Value.int Go.IntKind.u8 0, Go.Value.int Go.IntKind.u8 0, Go.Value.int Go.IntKind.u8 0, Go.Value.int Go.IntKind.u8 0, Go.Value.int Go.IntKind.u8 0, Go.Value.int Go.IntKind.u8 0, Go.Value.int Go.IntKind.u8 0, Go.Value.int Go.IntKind.u8 0, Go.Value.int Go.IntKind.u8 0, Go.Value.int Go.IntKind.u8 0, Go.Value.int Go.IntKind.u8 0, Go.Value.int Go.IntKind.u8 0, Go.Value.int Go.IntKind.u8 0, Go.Value.int Go.IntKind.u8 0, Go.Value.int Go.IntKind.u8 0, Go.Value.int Go.IntKind.u8 0, Go.Value.int Go.IntKind.u8 0, Go.Value.int Go.IntKind.u8 0, Go.Value.int Go.IntKind.u8 0, Go.Value.int Go.IntKind.u8 0, Go.Value.int Go.IntKind.u8 0, Go.Value.int Go.IntKind.u8 0, Go.Value.int Go.IntKind.u8 0, Go.Value.int Go.IntKind.u8 0, Go.Value.int Go.IntKind.u8 0, Go.Value.int Go.IntKind.u8 0, Go.Value.int Go.IntKind.u8 0, Go.Value.int Go.IntKind.u8 0, Go.Value.int Go.IntKind.u8 0, Go.Value.int Go.IntKind.u8 0, Go.Value.int Go.IntKind.u8 0, Go.Value.int Go.IntKind.u8 0, Go.Value.int Go.IntKind.u8 0, Go.Value.int Go.IntKind.u8 0, Go.Value.int Go.IntKind.u8 0, Go.Value.int Go.IntKind.u8 0, Go.Value.int Go.IntKind.u8 0, Go.Value.int Go.IntKind.u8 0, Go.Value.int Go.IntKind.u8 0, Go.Value.int Go.IntKind.u8 0, Go.Value.int Go.IntKind.u8 0, Go.Value.int Go.IntKind.u8 0, Go.Value.int Go.IntKind.u8 0, Go.Value.int Go.IntKind.u8 0, Go.Value.int Go.IntKind.u8 0, Go.Value.int Go.IntKind.u8 0, Go.Value.int Go.IntKind.u8 0, Go.Value.int Go.IntKind.u8 0, Go.Value.int Go.IntKind.u8 0, Go.Value.int Go.IntKind.u8 0, Go.Value.int Go.IntKind.u8 0, Go.Value.int Go.IntKind.u8 0, Go.Value.int Go.IntKind.u8 0, Go.Value.int Go.IntKind.u8 0, Go.Value.int Go.IntKind.u8 0, Go.Value.int Go.IntKind.u8 0, Go.Value.int Go.IntKind.u8 0] := ⟨Tryd.zeroValue121, rfl⟩
instance ty122 : Ty Tryd.prog 122 (Go.TypeDesc.func #[22, 9] #[3] false) 1 false := ⟨Tryd.underlying122, Tryd.isAgg122, Tryd.sizeOf122⟩
instance zero122 : Zero Tryd.prog 122 (Go.Value.nilFunc) #[Go.Value.nilFunc] := ⟨Tryd.zeroValue122, rfl⟩
instance ty123 : Ty Tryd.prog 123 (Go.TypeDesc.struct #[{ name := "_interface", type := 17, offset := 0, embedded := false, tag := "", pkgPath := "runtime", byteOffset := 0 }, { name := "concrete", type := 17, offset := 1, embedded := false, tag := "", pkgPath := "runtime", byteOffset := 8 }, { name := "asserted", type := 17, offset := 2, embedded := false, tag := "", pkgPath := "runtime", byteOffset := 16 }, { name := "missingMethod", type := 9, offset := 3, embedded := false, tag := "", pkgPath := "runtime", byteOffset := 24 }]) 4 true := ⟨Tryd.underlying123, Tryd.isAgg123, Tryd.sizeOf123⟩
instance zero123 : Zero Tryd.prog 123 (Go.Value.agg #[Go.Value.pointer none, Go.Value.pointer none, Go.Value.pointer none, Go.Value.string { data := #[] }]) #[Go.Value.pointer none, Go.Value.pointer none, Go.Value.pointer none, Go.Value.string { data := #[] }] := ⟨Tryd.zeroValue123, rfl⟩
instance ty124 : Ty Tryd.prog 124 (Go.TypeDesc.struct #[{ name := "_interface", type := 17, offset := 0, embedded := false, tag := "", pkgPath := "runtime", byteOffset := 0 }, { name := "concrete", type := 17, offset := 1, embedded := false, tag := "", pkgPath := "runtime", byteOffset := 8 }, { name := "asserted", type := 17, offset := 2, embedded := false, tag := "", pkgPath := "runtime", byteOffset := 16 }, { name := "missingMethod", type := 9, offset := 3, embedded := false, tag := "", pkgPath := "runtime", byteOffset := 24 }]) 4 true := ⟨Tryd.underlying124, Tryd.isAgg124, Tryd.sizeOf124⟩
instance zero124 : Zero Tryd.prog 124 (Go.Value.agg #[Go.Value.pointer none, Go.Value.pointer none, Go.Value.pointer none, Go.Value.string { data := #[] }]) #[Go.Value.pointer none, Go.Value.pointer none, Go.Value.pointer none, Go.Value.string { data := #[] }] := ⟨Tryd.zeroValue124, rfl⟩
instance ty125 : Ty Tryd.prog 125 (Go.TypeDesc.array 0 16) 0 true := ⟨Tryd.underlying125, Tryd.isAgg125, Tryd.sizeOf125⟩
instance zero125 : Zero Tryd.prog 125 (Go.Value.agg #[]) #[] := ⟨Tryd.zeroValue125, rfl⟩
instance ty126 : Ty Tryd.prog 126 (Go.TypeDesc.struct #[{ name := "_", type := 125, offset := 0, embedded := false, tag := "", pkgPath := "runtime", byteOffset := 0 }]) 0 true := ⟨Tryd.underlying126, Tryd.isAgg126, Tryd.sizeOf126⟩
instance zero126 : Zero Tryd.prog 126 (Go.Value.agg #[]) #[] := ⟨Tryd.zeroValue126, rfl⟩
instance ty127 : Ty Tryd.prog 127 (Go.TypeDesc.struct #[{ name := "_", type := 125, offset := 0, embedded := false, tag := "", pkgPath := "runtime", byteOffset := 0 }]) 0 true := ⟨Tryd.underlying127, Tryd.isAgg127, Tryd.sizeOf127⟩
instance zero127 : Zero Tryd.prog 127 (Go.Value.agg #[]) #[] := ⟨Tryd.zeroValue127, rfl⟩
instance ty128 : Ty Tryd.prog 128 (Go.TypeDesc.int Go.IntKind.u8) 1 false := ⟨Tryd.underlying128, Tryd.isAgg128, Tryd.sizeOf128⟩
instance zero128 : Zero Tryd.prog 128 (Go.Value.int Go.IntKind.u8 0) #[Go.Value.int Go.IntKind.u8 0] := ⟨Tryd.zeroValue128, rfl⟩
instance ty129 : Ty Tryd.prog 129 (Go.TypeDesc.int Go.IntKind.u8) 1 false := ⟨Tryd.underlying129, Tryd.isAgg129, Tryd.sizeOf129⟩
instance zero129 : Zero Tryd.prog 129 (Go.Value.int Go.IntKind.u8 0) #[Go.Value.int Go.IntKind.u8 0] := ⟨Tryd.zeroValue129, rfl⟩
instance ty130 : Ty Tryd.prog 130 (Go.TypeDesc.func #[100, 100] #[4] false) 1 false := ⟨Tryd.underlying130, Tryd.isAgg130, Tryd.sizeOf130⟩
instance zero130 : Zero Tryd.prog 130 (Go.Value.nilFunc) #[Go.Value.nilFunc] := ⟨Tryd.zeroValue130, rfl⟩
instance ty131 : Ty Tryd.prog 131 (Go.TypeDesc.int Go.IntKind.i32) 1 false := ⟨Tryd.underlying131, Tryd.isAgg131, Tryd.sizeOf131⟩
instance zero131 : Zero Tryd.prog 131 (Go.Value.int Go.IntKind.i32 0) #[Go.Value.int Go.IntKind.i32 0] := ⟨Tryd.zeroValue131, rfl⟩
instance ty132 : Ty Tryd.prog 132 (Go.TypeDesc.int Go.IntKind.i32) 1 false := ⟨Tryd.underlying132, Tryd.isAgg132, Tryd.sizeOf132⟩
instance zero132 : Zero Tryd.prog 132 (Go.Value.int Go.IntKind.i32 0) #[Go.Value.int Go.IntKind.i32 0] := ⟨Tryd.zeroValue132, rfl⟩
instance ty133 : Ty Tryd.prog 133 (Go.TypeDesc.struct #[{ name := "Size_", type := 12, offset := 0, embedded := false, tag := "", pkgPath := "", byteOffset := 0 }, { name := "PtrBytes", type := 12, offset := 1, embedded := false, tag := "", pkgPath := "", byteOffset := 8 }, { name := "Hash", type := 110, offset := 2, embedded := false, tag := "", pkgPath := "", byteOffset := 16 }, { name := "TFlag", type := 128, offset := 3, embedded := false, tag := "", pkgPath := "", byteOffset := 20 }, { name := "Align_", type := 5, offset := 4, embedded := false, tag := "", pkgPath := "", byteOffset := 21 }, { name := "FieldAlign_", type := 5, offset := 5, embedded := false, tag := "", pkgPath := "", byteOffset := 22 }, { name := "Kind_", type := 129, offset := 6, embedded := false, tag := "", pkgPath := "", byteOffset := 23 }, { name := "Equal", type := 130, offset := 7, embedded := false, tag := "", pkgPath := "", byteOffset := 24 }, { name := "GCData", type := 80, offset := 8, embedded := false, tag := "", pkgPath := "", byteOffset := 32 }, { name := "Str", type := 131, offset := 9, embedded := false, tag := "", pkgPath := "", byteOffset := 40 }, { name := "PtrToThis", type := 132, offset := 10, embedded := false, tag := "", pkgPath := "", byteOffset := 44 }]) 11 true := ⟨Tryd.underlying133, Tryd.isAgg133, Tryd.sizeOf133⟩
instance zero133 : Zero Tryd.prog 133 (Go.Value.agg #[Go.Value.int Go.IntKind.u64 0, Go.Value.int Go.IntKind.u64 0, Go.Value.int Go.IntKind.u32 0, Go.Value.int Go.IntKind.u8 0, Go.Value.int Go.IntKind.u8 0, Go.Value.int Go.IntKind.u8 0, Go.Value.int Go.IntKind.u8 0, Go.Value.nilFunc, Go.Value.pointer none, Go.Value.int Go.IntKind.i32 0, Go.Value.int Go.IntKind.i32 0]) #[Go.Value.int Go.IntKind.u64 0, Go.Value.int Go.IntKind.u64 0, Go.Value.int Go.IntKind.u32 0, Go.Value.int Go.IntKind.u8 0, Go.Value.int Go.IntKind.u8 0, Go.Value.int Go.IntKind.u8 0, Go.Value.int Go.IntKind.u8 0, Go.Value.nilFunc, Go.Value.pointer none, Go.Value.int Go.IntKind.i32 0, Go.Value.int Go.IntKind.i32 0] := ⟨Tryd.zeroValue133, rfl⟩
instance ty134 : Ty Tryd.prog 134 (Go.TypeDesc.struct #[{ name := "Size_", type := 12, offset := 0, embedded := false, tag := "", pkgPath := "", byteOffset := 0 }, { name := "PtrBytes", type := 12, offset := 1, embedded := false, tag := "", pkgPath := "", byteOffset := 8 }, { name := "Hash", type := 110, offset := 2, embedded := false, tag := "", pkgPath := "", byteOffset := 16 }, { name := "TFlag", type := 128, offset := 3, embedded := false, tag := "", pkgPath := "", byteOffset := 20 }, { name := "Align_", type := 5, offset := 4, embedded := false, tag := "", pkgPath := "", byteOffset := 21 }, { name := "FieldAlign_", type := 5, offset := 5, embedded := false, tag := "", pkgPath := "", byteOffset := 22 }, { name := "Kind_", type := 129, offset := 6, embedded := false, tag := "", pkgPath := "", byteOffset := 23 }, { name := "Equal", type := 130, offset := 7, embedded := false, tag := "", pkgPath := "", byteOffset := 24 }, { name := "GCData", type := 80, offset := 8, embedded := false, tag := "", pkgPath := "", byteOffset := 32 }, { name := "Str", type := 131, offset := 9, embedded := false, tag := "", pkgPath := "", byteOffset := 40 }, { name := "PtrToThis", type := 132, offset := 10, embedded := false, tag := "", pkgPath := "", byteOffset := 44 }]) 11 true := ⟨Tryd.underlying134, Tryd.isAgg134, Tryd.sizeOf134⟩
instance zero134 : Zero Tryd.prog 134 (Go.Value.agg #[Go.Value.int Go.IntKind.u64 0, Go.Value.int Go.IntKind.u64 0, Go.Value.int Go.IntKind.u32 0, Go.Value.int Go.IntKind.u8 0, Go.Value.int Go.IntKind.u8 0, Go.Value.int Go.IntKind.u8 0, Go.Value.int Go.IntKind.u8 0, Go.Value.nilFunc, Go.Value.pointer none, Go.Value.int Go.IntKind.i32 0, Go.Value.int Go.IntKind.i32 0]) #[Go.Value.int Go.IntKind.u64 0, Go.Value.int Go.IntKind.u64 0, Go.Value.int Go.IntKind.u32 0, Go.Value.int Go.IntKind.u8 0, Go.Value.int Go.IntKind.u8 0, Go.Value.int Go.IntKind.u8 0, Go.Value.int Go.IntKind.u8 0, Go.Value.nilFunc, Go.Value.pointer none, Go.Value.int Go.IntKind.i32 0, Go.Value.int Go.IntKind.i32 0] := ⟨Tryd.zeroValue134, rfl⟩
instance ent2 : Ent Tryd.prog 2 := ⟨Tryd.call2⟩
instance ent3 : Ent Tryd.prog 3 := ⟨Tryd.call3⟩
instance ent4 : Ent Tryd.prog 4 := ⟨Tryd.call4⟩
instance ent5 : Ent Tryd.prog 5 := ⟨Tryd.call5⟩
instance ent6 : Ent Tryd.prog 6 := ⟨Tryd.call6⟩
instance ent7 : Ent Tryd.prog 7 := ⟨Tryd.call7⟩
instance ent8 : Ent Tryd.prog 8 := ⟨Tryd.call8⟩
instance ent9 : Ent Tryd.prog 9 := ⟨Tryd.call9⟩
instance ent10 : Ent Tryd.prog 10 := ⟨Tryd.call10⟩
instance ent11 : Ent Tryd.prog 11 := ⟨Tryd.call11⟩
instance ent12 : Ent Tryd.prog 12 := ⟨Tryd.call12⟩
instance ent13 : Ent Tryd.prog 13 := ⟨Tryd.call13⟩
instance ent14 : Ent Tryd.prog 14 := ⟨Tryd.call14⟩
instance ent15 : Ent Tryd.prog 15 := ⟨Tryd.call15⟩
instance ent16 : Ent Tryd.prog 16 := ⟨Tryd.call16⟩
instance ent17 : Ent Tryd.prog 17 := ⟨Tryd.call17⟩
instance ent18 : Ent Tryd.prog 18 := ⟨Tryd.call18⟩
instance ent19 : Ent Tryd.prog 19 := ⟨Tryd.call19⟩
instance ent20 : Ent Tryd.prog 20 := ⟨Tryd.call20⟩
instance ent21 : Ent Tryd.prog 21 := ⟨Tryd.call21⟩
instance ent22 : Ent Tryd.prog 22 := ⟨Tryd.call22⟩
instance ent23 : Ent Tryd.prog 23 := ⟨Tryd.call23⟩
instance ent24 : Ent Tryd.prog 24 := ⟨Tryd.call24⟩
instance ent25 : Ent Tryd.prog 25 := ⟨Tryd.call25⟩
instance ent26 : Ent Tryd.prog 26 := ⟨Tryd.call26⟩
instance ent27 : Ent Tryd.prog 27 := ⟨Tryd.call27⟩
instance ent28 : Ent Tryd.prog 28 := ⟨Tryd.call28⟩
instance ent29 : Ent Tryd.prog 29 := ⟨Tryd.call29⟩
instance ent30 : Ent Tryd.prog 30 := ⟨Tryd.call30⟩
instance ent31 : Ent Tryd.prog 31 := ⟨Tryd.call31⟩
instance ent32 : Ent Tryd.prog 32 := ⟨Tryd.call32⟩
instance ent33 : Ent Tryd.prog 33 := ⟨Tryd.call33⟩
instance ent34 : Ent Tryd.prog 34 := ⟨Tryd.call34⟩
instance ent35 : Ent Tryd.prog 35 := ⟨Tryd.call35⟩
instance ent36 : Ent Tryd.prog 36 := ⟨Tryd.call36⟩
instance ent37 : Ent Tryd.prog 37 := ⟨Tryd.call37⟩
instance ent38 : Ent Tryd.prog 38 := ⟨Tryd.call38⟩
instance ent39 : Ent Tryd.prog 39 := ⟨Tryd.call39⟩
instance ent40 : Ent Tryd.prog 40 := ⟨Tryd.call40⟩
instance ent41 : Ent Tryd.prog 41 := ⟨Tryd.call41⟩
instance ent42 : Ent Tryd.prog 42 := ⟨Tryd.call42⟩
instance ent43 : Ent Tryd.prog 43 := ⟨Tryd.call43⟩
instance ent44 : Ent Tryd.prog 44 := ⟨Tryd.call44⟩
instance ent45 : Ent Tryd.prog 45 := ⟨Tryd.call45⟩
instance ent46 : Ent Tryd.prog 46 := ⟨Tryd.call46⟩
instance ent47 : Ent Tryd.prog 47 := ⟨Tryd.call47⟩
instance ent48 : Ent Tryd.prog 48 := ⟨Tryd.call48⟩
instance ent49 : Ent Tryd.prog 49 := ⟨Tryd.call49⟩
instance ent50 : Ent Tryd.prog 50 := ⟨Tryd.call50⟩
instance ent51 : Ent Tryd.prog 51 := ⟨Tryd.call51⟩
instance ent52 : Ent Tryd.prog 52 := ⟨Tryd.call52⟩
instance ent53 : Ent Tryd.prog 53 := ⟨Tryd.call53⟩
instance ent54 : Ent Tryd.prog 54 := ⟨Tryd.call54⟩
instance ent55 : Ent Tryd.prog 55 := ⟨Tryd.call55⟩
instance ent56 : Ent Tryd.prog 56 := ⟨Tryd.call56⟩
instance ent57 : Ent Tryd.prog 57 := ⟨Tryd.call57⟩
instance ent58 : Ent Tryd.prog 58 := ⟨Tryd.call58⟩
instance ent59 : Ent Tryd.prog 59 := ⟨Tryd.call59⟩
instance ent60 : Ent Tryd.prog 60 := ⟨Tryd.call60⟩
instance ent61 : Ent Tryd.prog 61 := ⟨Tryd.call61⟩
instance ent62 : Ent Tryd.prog 62 := ⟨Tryd.call62⟩
instance ent63 : Ent Tryd.prog 63 := ⟨Tryd.call63⟩
instance ent64 : Ent Tryd.prog 64 := ⟨Tryd.call64⟩
instance ent65 : Ent Tryd.prog 65 := ⟨Tryd.call65⟩
instance ent66 : Ent Tryd.prog 66 := ⟨Tryd.call66⟩
instance ent67 : Ent Tryd.prog 67 := ⟨Tryd.call67⟩
instance ent68 : Ent Tryd.prog 68 := ⟨Tryd.call68⟩
instance ent69 : Ent Tryd.prog 69 := ⟨Tryd.call69⟩
instance ent70 : Ent Tryd.prog 70 := ⟨Tryd.call70⟩
instance ent71 : Ent Tryd.prog 71 := ⟨Tryd.call71⟩
instance ent72 : Ent Tryd.prog 72 := ⟨Tryd.call72⟩
instance ent73 : Ent Tryd.prog 73 := ⟨Tryd.call73⟩
instance ent74 : Ent Tryd.prog 74 := ⟨Tryd.call74⟩
instance ent77 : Ent Tryd.prog 77 := ⟨Tryd.call77⟩
instance ent78 : Ent Tryd.prog 78 := ⟨Tryd.call78⟩
instance ent79 : Ent Tryd.prog 79 := ⟨Tryd.call79⟩
instance ent80 : Ent Tryd.prog 80 := ⟨Tryd.call80⟩
instance ent81 : Ent Tryd.prog 81 := ⟨Tryd.call81⟩
instance ent82 : Ent Tryd.prog 82 := ⟨Tryd.call82⟩
instance ent83 : Ent Tryd.prog 83 := ⟨Tryd.call83⟩
instance ent84 : Ent Tryd.prog 84 := ⟨Tryd.call84⟩
instance ent85 : Ent Tryd.prog 85 := ⟨Tryd.call85⟩
instance ent86 : Ent Tryd.prog 86 := ⟨Tryd.call86⟩
instance ent87 : Ent Tryd.prog 87 := ⟨Tryd.call87⟩
instance ent88 : Ent Tryd.prog 88 := ⟨Tryd.call88⟩
instance ent89 : Ent Tryd.prog 89 := ⟨Tryd.call89⟩
instance ent90 : Ent Tryd.prog 90 := ⟨Tryd.call90⟩
instance ent91 : Ent Tryd.prog 91 := ⟨Tryd.call91⟩
instance ent92 : Ent Tryd.prog 92 := ⟨Tryd.call92⟩
instance ent93 : Ent Tryd.prog 93 := ⟨Tryd.call93⟩
instance ent94 : Ent Tryd.prog 94 := ⟨Tryd.call94⟩
instance ent95 : Ent Tryd.prog 95 := ⟨Tryd.call95⟩
instance ent96 : Ent Tryd.prog 96 := ⟨Tryd.call96⟩
instance ent97 : Ent Tryd.prog 97 := ⟨Tryd.call97⟩
instance ent98 : Ent Tryd.prog 98 := ⟨Tryd.call98⟩
instance ent99 : Ent Tryd.prog 99 := ⟨Tryd.call99⟩
instance ent123 : Ent Tryd.prog 123 := ⟨Tryd.call123⟩
instance places7 : Places Tryd.prog 7 [(0, 1), (1, 1), (2, 1), (3, 1)] := ⟨⟨_, Tryd.underlying7, fun w => by simp [go_sem]⟩⟩
instance fld7_0 : Fld Tryd.prog 7 0 0 2 := ⟨⟨_, _, Tryd.underlying7, rfl, rfl, rfl⟩⟩
instance fld7_1 : Fld Tryd.prog 7 1 1 3 := ⟨⟨_, _, Tryd.underlying7, rfl, rfl, rfl⟩⟩
instance fld7_2 : Fld Tryd.prog 7 2 2 4 := ⟨⟨_, _, Tryd.underlying7, rfl, rfl, rfl⟩⟩
instance fld7_3 : Fld Tryd.prog 7 3 3 6 := ⟨⟨_, _, Tryd.underlying7, rfl, rfl, rfl⟩⟩
instance places8 : Places Tryd.prog 8 [(0, 1), (1, 1), (2, 1), (3, 1)] := ⟨⟨_, Tryd.underlying8, fun w => by simp [go_sem]⟩⟩
instance fld8_0 : Fld Tryd.prog 8 0 0 2 := ⟨⟨_, _, Tryd.underlying8, rfl, rfl, rfl⟩⟩
instance fld8_1 : Fld Tryd.prog 8 1 1 3 := ⟨⟨_, _, Tryd.underlying8, rfl, rfl, rfl⟩⟩
instance fld8_2 : Fld Tryd.prog 8 2 2 4 := ⟨⟨_, _, Tryd.underlying8, rfl, rfl, rfl⟩⟩
instance fld8_3 : Fld Tryd.prog 8 3 3 6 := ⟨⟨_, _, Tryd.underlying8, rfl, rfl, rfl⟩⟩
instance places13 : Places Tryd.prog 13 [(0, 1), (1, 1)] := ⟨⟨_, Tryd.underlying13, fun w => by simp [go_sem]⟩⟩
instance fld13_0 : Fld Tryd.prog 13 0 0 9 := ⟨⟨_, _, Tryd.underlying13, rfl, rfl, rfl⟩⟩
instance fld13_1 : Fld Tryd.prog 13 1 1 12 := ⟨⟨_, _, Tryd.underlying13, rfl, rfl, rfl⟩⟩
instance places14 : Places Tryd.prog 14 [(0, 1), (1, 1)] := ⟨⟨_, Tryd.underlying14, fun w => by simp [go_sem]⟩⟩
instance fld14_0 : Fld Tryd.prog 14 0 0 9 := ⟨⟨_, _, Tryd.underlying14, rfl, rfl, rfl⟩⟩
instance fld14_1 : Fld Tryd.prog 14 1 1 12 := ⟨⟨_, _, Tryd.underlying14, rfl, rfl, rfl⟩⟩
instance places18 : Places Tryd.prog 18 [(0, 1)] := ⟨⟨_, Tryd.underlying18, fun w => by simp [go_sem]⟩⟩
instance fld18_0 : Fld Tryd.prog 18 0 0 17 := ⟨⟨_, _, Tryd.underlying18, rfl, rfl, rfl⟩⟩
instance places19 : Places Tryd.prog 19 [(0, 1)] := ⟨⟨_, Tryd.underlying19, fun w => by simp [go_sem]⟩⟩
instance fld19_0 : Fld Tryd.prog 19 0 0 17 := ⟨⟨_, _, Tryd.underlying19, rfl, rfl, rfl⟩⟩
instance places24 : Places Tryd.prog 24 [(0, 1), (1, 1), (2, 1), (3, 1), (4, 1), (5, 1)] := ⟨⟨_, Tryd.underlying24, fun w => by simp [go_sem]⟩⟩
instance fld24_0 : Fld Tryd.prog 24 0 0 3 := ⟨⟨_, _, Tryd.underlying24, rfl, rfl, rfl⟩⟩
instance fld24_1 : Fld Tryd.prog 24 1 1 22 := ⟨⟨_, _, Tryd.underlying24, rfl, rfl, rfl⟩⟩
instance fld24_2 : Fld Tryd.prog 24 2 2 9 := ⟨⟨_, _, Tryd.underlying24, rfl, rfl, rfl⟩⟩
instance fld24_3 : Fld Tryd.prog 24 3 3 22 := ⟨⟨_, _, Tryd.underlying24, rfl, rfl, rfl⟩⟩
instance fld24_4 : Fld Tryd.prog 24 4 4 3 := ⟨⟨_, _, Tryd.underlying24, rfl, rfl, rfl⟩⟩
instance fld24_5 : Fld Tryd.prog 24 5 5 23 := ⟨⟨_, _, Tryd.underlying24, rfl, rfl, rfl⟩⟩
instance places25 : Places Tryd.prog 25 [(0, 1), (1, 1), (2, 1), (3, 1), (4, 1), (5, 1)] := ⟨⟨_, Tryd.underlying25, fun w => by simp [go_sem]⟩⟩
instance fld25_0 : Fld Tryd.prog 25 0 0 3 := ⟨⟨_, _, Tryd.underlying25, rfl, rfl, rfl⟩⟩
instance fld25_1 : Fld Tryd.prog 25 1 1 22 := ⟨⟨_, _, Tryd.underlying25, rfl, rfl, rfl⟩⟩
instance fld25_2 : Fld Tryd.prog 25 2 2 9 := ⟨⟨_, _, Tryd.underlying25, rfl, rfl, rfl⟩⟩
instance fld25_3 : Fld Tryd.prog 25 3 3 22 := ⟨⟨_, _, Tryd.underlying25, rfl, rfl, rfl⟩⟩
instance fld25_4 : Fld Tryd.prog 25 4 4 3 := ⟨⟨_, _, Tryd.underlying25, rfl, rfl, rfl⟩⟩
instance fld25_5 : Fld Tryd.prog 25 5 5 23 := ⟨⟨_, _, Tryd.underlying25, rfl, rfl, rfl⟩⟩
instance places42 : Places Tryd.prog 42 [(0, 1), (1, 1)] := ⟨⟨_, Tryd.underlying42, fun w => by simp [go_sem]⟩⟩
instance fld42_0 : Fld Tryd.prog 42 0 0 3 := ⟨⟨_, _, Tryd.underlying42, rfl, rfl, rfl⟩⟩
instance fld42_1 : Fld Tryd.prog 42 1 1 32 := ⟨⟨_, _, Tryd.underlying42, rfl, rfl, rfl⟩⟩
instance places43 : Places Tryd.prog 43 [(0, 1), (1, 1)] := ⟨⟨_, Tryd.underlying43, fun w => by simp [go_sem]⟩⟩
instance fld43_0 : Fld Tryd.prog 43 0 0 3 := ⟨⟨_, _, Tryd.underlying43, rfl, rfl, rfl⟩⟩
instance fld43_1 : Fld Tryd.prog 43 1 1 32 := ⟨⟨_, _, Tryd.underlying43, rfl, rfl, rfl⟩⟩
instance places56 : Places Tryd.prog 56 [(0, 1), (1, 1)] := ⟨⟨_, Tryd.underlying56, fun w => by simp [go_sem]⟩⟩
instance fld56_0 : Fld Tryd.prog 56 0 0 3 := ⟨⟨_, _, Tryd.underlying56, rfl, rfl, rfl⟩⟩
instance fld56_1 : Fld Tryd.prog 56 1 1 3 := ⟨⟨_, _, Tryd.underlying56, rfl, rfl, rfl⟩⟩
instance places57 : Places Tryd.prog 57 [(0, 1), (1, 1)] := ⟨⟨_, Tryd.underlying57, fun w => by simp [go_sem]⟩⟩
instance fld57_0 : Fld Tryd.prog 57 0 0 3 := ⟨⟨_, _, Tryd.underlying57, rfl, rfl, rfl⟩⟩
instance fld57_1 : Fld Tryd.prog 57 1 1 3 := ⟨⟨_, _, Tryd.underlying57, rfl, rfl, rfl⟩⟩
instance places69 : Places Tryd.prog 69 [(0, 1), (1, 1)] := ⟨⟨_, Tryd.underlying69, fun w => by simp [go_sem]⟩⟩
instance fld69_0 : Fld Tryd.prog 69 0 0 67 := ⟨⟨_, _, Tryd.underlying69, rfl, rfl, rfl⟩⟩
instance fld69_1 : Fld Tryd.prog 69 1 1 68 := ⟨⟨_, _, Tryd.underlying69, rfl, rfl, rfl⟩⟩
instance places70 : Places Tryd.prog 70 [(0, 1), (1, 1)] := ⟨⟨_, Tryd.underlying70, fun w => by simp [go_sem]⟩⟩
instance fld70_0 : Fld Tryd.prog 70 0 0 67 := ⟨⟨_, _, Tryd.underlying70, rfl, rfl, rfl⟩⟩
instance fld70_1 : Fld Tryd.prog 70 1 1 68 := ⟨⟨_, _, Tryd.underlying70, rfl, rfl, rfl⟩⟩
instance places123 : Places Tryd.prog 123 [(0, 1), (1, 1), (2, 1), (3, 1)] := ⟨⟨_, Tryd.underlying123, fun w => by simp [go_sem]⟩⟩
instance fld123_0 : Fld Tryd.prog 123 0 0 17 := ⟨⟨_, _, Tryd.underlying123, rfl, rfl, rfl⟩⟩
instance fld123_1 : Fld Tryd.prog 123 1 1 17 := ⟨⟨_, _, Tryd.underlying123, rfl, rfl, rfl⟩⟩
instance fld123_2 : Fld Tryd.prog 123 2 2 17 := ⟨⟨_, _, Tryd.underlying123, rfl, rfl, rfl⟩⟩
instance fld123_3 : Fld Tryd.prog 123 3 3 9 := ⟨⟨_, _, Tryd.underlying123, rfl, rfl, rfl⟩⟩
instance places124 : Places Tryd.prog 124 [(0, 1), (1, 1), (2, 1), (3, 1)] := ⟨⟨_, Tryd.underlying124, fun w => by simp [go_sem]⟩⟩
instance fld124_0 : Fld Tryd.prog 124 0 0 17 := ⟨⟨_, _, Tryd.underlying124, rfl, rfl, rfl⟩⟩
instance fld124_1 : Fld Tryd.prog 124 1 1 17 := ⟨⟨_, _, Tryd.underlying124, rfl, rfl, rfl⟩⟩
instance fld124_2 : Fld Tryd.prog 124 2 2 17 := ⟨⟨_, _, Tryd.underlying124, rfl, rfl, rfl⟩⟩
instance fld124_3 : Fld Tryd.prog 124 3 3 9 := ⟨⟨_, _, Tryd.underlying124, rfl, rfl, rfl⟩⟩
instance places126 : Places Tryd.prog 126 [(0, 0)] := ⟨⟨_, Tryd.underlying126, fun w => by simp [go_sem]⟩⟩
instance fld126_0 : Fld Tryd.prog 126 0 0 125 := ⟨⟨_, _, Tryd.underlying126, rfl, rfl, rfl⟩⟩
instance places127 : Places Tryd.prog 127 [(0, 0)] := ⟨⟨_, Tryd.underlying127, fun w => by simp [go_sem]⟩⟩
instance fld127_0 : Fld Tryd.prog 127 0 0 125 := ⟨⟨_, _, Tryd.underlying127, rfl, rfl, rfl⟩⟩
instance places133 : Places Tryd.prog 133 [(0, 1), (1, 1), (2, 1), (3, 1), (4, 1), (5, 1), (6, 1), (7, 1), (8, 1), (9, 1), (10, 1)] := ⟨⟨_, Tryd.underlying133, fun w => by simp [go_sem]⟩⟩
instance fld133_0 : Fld Tryd.prog 133 0 0 12 := ⟨⟨_, _, Tryd.underlying133, rfl, rfl, rfl⟩⟩
instance fld133_1 : Fld Tryd.prog 133 1 1 12 := ⟨⟨_, _, Tryd.underlying133, rfl, rfl, rfl⟩⟩
instance fld133_2 : Fld Tryd.prog 133 2 2 110 := ⟨⟨_, _, Tryd.underlying133, rfl, rfl, rfl⟩⟩
instance fld133_3 : Fld Tryd.prog 133 3 3 128 := ⟨⟨_, _, Tryd.underlying133, rfl, rfl, rfl⟩⟩
instance fld133_4 : Fld Tryd.prog 133 4 4 5 := ⟨⟨_, _, Tryd.underlying133, rfl, rfl, rfl⟩⟩
instance fld133_5 : Fld Tryd.prog 133 5 5 5 := ⟨⟨_, _, Tryd.underlying133, rfl, rfl, rfl⟩⟩
instance fld133_6 : Fld Tryd.prog 133 6 6 129 := ⟨⟨_, _, Tryd.underlying133, rfl, rfl, rfl⟩⟩
instance fld133_7 : Fld Tryd.prog 133 7 7 130 := ⟨⟨_, _, Tryd.underlying133, rfl, rfl, rfl⟩⟩
instance fld133_8 : Fld Tryd.prog 133 8 8 80 := ⟨⟨_, _, Tryd.underlying133, rfl, rfl, rfl⟩⟩
instance fld133_9 : Fld Tryd.prog 133 9 9 131 := ⟨⟨_, _, Tryd.underlying133, rfl, rfl, rfl⟩⟩
instance fld133_10 : Fld Tryd.prog 133 10 10 132 := ⟨⟨_, _, Tryd.underlying133, rfl, rfl, rfl⟩⟩
instance places134 : Places Tryd.prog 134 [(0, 1), (1, 1), (2, 1), (3, 1), (4, 1), (5, 1), (6, 1), (7, 1), (8, 1), (9, 1), (10, 1)] := ⟨⟨_, Tryd.underlying134, fun w => by simp [go_sem]⟩⟩
instance fld134_0 : Fld Tryd.prog 134 0 0 12 := ⟨⟨_, _, Tryd.underlying134, rfl, rfl, rfl⟩⟩
instance fld134_1 : Fld Tryd.prog 134 1 1 12 := ⟨⟨_, _, Tryd.underlying134, rfl, rfl, rfl⟩⟩
instance fld134_2 : Fld Tryd.prog 134 2 2 110 := ⟨⟨_, _, Tryd.underlying134, rfl, rfl, rfl⟩⟩
instance fld134_3 : Fld Tryd.prog 134 3 3 128 := ⟨⟨_, _, Tryd.underlying134, rfl, rfl, rfl⟩⟩
instance fld134_4 : Fld Tryd.prog 134 4 4 5 := ⟨⟨_, _, Tryd.underlying134, rfl, rfl, rfl⟩⟩
instance fld134_5 : Fld Tryd.prog 134 5 5 5 := ⟨⟨_, _, Tryd.underlying134, rfl, rfl, rfl⟩⟩
instance fld134_6 : Fld Tryd.prog 134 6 6 129 := ⟨⟨_, _, Tryd.underlying134, rfl, rfl, rfl⟩⟩
instance fld134_7 : Fld Tryd.prog 134 7 7 130 := ⟨⟨_, _, Tryd.underlying134, rfl, rfl, rfl⟩⟩
instance fld134_8 : Fld Tryd.prog 134 8 8 80 := ⟨⟨_, _, Tryd.underlying134, rfl, rfl, rfl⟩⟩
instance fld134_9 : Fld Tryd.prog 134 9 9 131 := ⟨⟨_, _, Tryd.underlying134, rfl, rfl, rfl⟩⟩
instance fld134_10 : Fld Tryd.prog 134 10 10 132 := ⟨⟨_, _, Tryd.underlying134, rfl, rfl, rfl⟩⟩
instance inf0 : Inf Tryd.prog 0 (Go.Value.tuple #[]) 1 0 := ⟨⟨Tryd.t0, Tryd.type0, rfl, rfl, rfl, rfl⟩⟩
instance inf1 : Inf Tryd.prog 1 (Go.Value.nilFunc) 1 8 := ⟨⟨Tryd.t1, Tryd.type1, rfl, rfl, rfl, rfl⟩⟩
instance inf2 : Inf Tryd.prog 2 (Go.Value.int Go.IntKind.i64 0) 1 8 := ⟨⟨Tryd.t2, Tryd.type2, rfl, rfl, rfl, rfl⟩⟩
instance inf3 : Inf Tryd.prog 3 (Go.Value.int Go.IntKind.i64 0) 1 8 := ⟨⟨Tryd.t3, Tryd.type3, rfl, rfl, rfl, rfl⟩⟩
instance inf4 : Inf Tryd.prog 4 (Go.Value.bool false) 1 1 := ⟨⟨Tryd.t4, Tryd.type4, rfl, rfl, rfl, rfl⟩⟩
instance inf5 : Inf Tryd.prog 5 (Go.Value.int Go.IntKind.u8 0) 1 1 := ⟨⟨Tryd.t5, Tryd.type5, rfl, rfl, rfl, rfl⟩⟩
instance inf6 : Inf Tryd.prog 6 (Go.Value.int Go.IntKind.u8 0) 1 1 := ⟨⟨Tryd.t6, Tryd.type6, rfl, rfl, rfl, rfl⟩⟩
instance inf7 : Inf Tryd.prog 7 (Go.Value.agg #[Go.Value.int Go.IntKind.i64 0, Go.Value.int Go.IntKind.i64 0, Go.Value.bool false, Go.Value.int Go.IntKind.u8 0]) 4 24 := ⟨⟨Tryd.t7, Tryd.type7, rfl, rfl, rfl, rfl⟩⟩
instance inf8 : Inf Tryd.prog 8 (Go.Value.agg #[Go.Value.int Go.IntKind.i64 0, Go.Value.int Go.IntKind.i64 0, Go.Value.bool false, Go.Value.int Go.IntKind.u8 0]) 4 24 := ⟨⟨Tryd.t8, Tryd.type8, rfl, rfl, rfl, rfl⟩⟩
instance inf9 : Inf Tryd.prog 9 (Go.Value.string { data := #[] }) 1 16 := ⟨⟨Tryd.t9, Tryd.type9, rfl, rfl, rfl, rfl⟩⟩
instance inf10 : Inf Tryd.prog 10 (Go.Value.string { data := #[] }) 1 16 := ⟨⟨Tryd.t10, Tryd.type10, rfl, rfl, rfl, rfl⟩⟩
instance inf11 : Inf Tryd.prog 11 (Go.Value.string { data := #[] }) 1 16 := ⟨⟨Tryd.t11, Tryd.type11, rfl, rfl, rfl, rfl⟩⟩
instance inf12 : Inf Tryd.prog 12 (Go.Value.int Go.IntKind.u64 0) 1 8 := ⟨⟨Tryd.t12, Tryd.type12, rfl, rfl, rfl, rfl⟩⟩
instance inf13 : Inf Tryd.prog 13 (Go.Value.agg #[Go.Value.string { data := #[] }, Go.Value.int Go.IntKind.u64 0]) 2 24 := ⟨⟨Tryd.t13, Tryd.type13, rfl, rfl, rfl, rfl⟩⟩
instance inf14 : Inf Tryd.prog 14 (Go.Value.agg #[Go.Value.string { data := #[] }, Go.Value.int Go.IntKind.u64 0]) 2 24 := ⟨⟨Tryd.t14, Tryd.type14, rfl, rfl, rfl, rfl⟩⟩
instance inf15 : Inf Tryd.prog 15 (Go.Value.pointer none) 1 8 := ⟨⟨Tryd.t15, Tryd.type15, rfl, rfl, rfl, rfl⟩⟩
instance inf16 : Inf Tryd.prog 16 (Go.Value.pointer none) 1 8 := ⟨⟨Tryd.t16, Tryd.type16, rfl, rfl, rfl, rfl⟩⟩
instance inf17 : Inf Tryd.prog 17 (Go.Value.pointer none) 1 8 := ⟨⟨Tryd.t17, Tryd.type17, rfl, rfl, rfl, rfl⟩⟩
instance inf18 : Inf Tryd.prog 18 (Go.Value.agg #[Go.Value.pointer none]) 1 8 := ⟨⟨Tryd.t18, Tryd.type18, rfl, rfl, rfl, rfl⟩⟩
instance inf19 : Inf Tryd.prog 19 (Go.Value.agg #[Go.Value.pointer none]) 1 8 := ⟨⟨Tryd.t19, Tryd.type19, rfl, rfl, rfl, rfl⟩⟩
instance inf20 : Inf Tryd.prog 20 (Go.Value.nilIface) 1 16 := ⟨⟨Tryd.t20, Tryd.type20, rfl, rfl, rfl, rfl⟩⟩
instance inf21 : Inf Tryd.prog 21 (Go.Value.int Go.IntKind.i32 0) 1 4 := ⟨⟨Tryd.t21, Tryd.type21, rfl, rfl, rfl, rfl⟩⟩
instance inf22 : Inf Tryd.prog 22 (Go.Value.slice none 0 0) 1 24 := ⟨⟨Tryd.t22, Tryd.type22, rfl, rfl, rfl, rfl⟩⟩
instance inf23 : Inf Tryd.prog 23 (Go.Value.slice none 0 0) 1 24 := ⟨⟨Tryd.t23, Tryd.type23, rfl, rfl, rfl, rfl⟩⟩
instance inf24 : Inf Tryd.prog 24 (Go.Value.agg #[Go.Value.int Go.IntKind.i64 0, Go.Value.slice none 0 0, Go.Value.string { data := #[] }, Go.Value.slice none 0 0, Go.Value.int Go.IntKind.i64 0, Go.Value.slice none 0 0]) 6 104 := ⟨⟨Tryd.t24, Tryd.type24, rfl, rfl, rfl, rfl⟩⟩
instance inf25 : Inf Tryd.prog 25 (Go.Value.agg #[Go.Value.int Go.IntKind.i64 0, Go.Value.slice none 0 0, Go.Value.string { data := #[] }, Go.Value.slice none 0 0, Go.Value.int Go.IntKind.i64 0, Go.Value.slice none 0 0]) 6 104 := ⟨⟨Tryd.t25, Tryd.type25, rfl, rfl, rfl, rfl⟩⟩
instance inf26 : Inf Tryd.prog 26 (Go.Value.slice none 0 0) 1 24 := ⟨⟨Tryd.t26, Tryd.type26, rfl, rfl, rfl, rfl⟩⟩
instance inf27 : Inf Tryd.prog 27 (Go.Value.nilFunc) 1 8 := ⟨⟨Tryd.t27, Tryd.type27, rfl, rfl, rfl, rfl⟩⟩
instance inf28 : Inf Tryd.prog 28 (Go.Value.nilFunc) 1 8 := ⟨⟨Tryd.t28, Tryd.type28, rfl, rfl, rfl, rfl⟩⟩
instance inf29 : Inf Tryd.prog 29 (Go.Value.nilFunc) 1 8 := ⟨⟨Tryd.t29, Tryd.type29, rfl, rfl, rfl, rfl⟩⟩
instance inf30 : Inf Tryd.prog 30 (Go.Value.nilFunc) 1 8 := ⟨⟨Tryd.t30, Tryd.type30, rfl, rfl, rfl, rfl⟩⟩
instance inf31 : Inf Tryd.prog 31 (Go.Value.nilFunc) 1 8 := ⟨⟨Tryd.t31, Tryd.type31, rfl, rfl, rfl, rfl⟩⟩
instance inf32 : Inf Tryd.prog 32 (Go.Value.slice none 0 0) 1 24 := ⟨⟨Tryd.t32, Tryd.type32, rfl, rfl, rfl, rfl⟩⟩
instance inf33 : Inf Tryd.prog 33 (Go.Value.int Go.IntKind.i64 0) 1 8 := ⟨⟨Tryd.t33, Tryd.type33, rfl, rfl, rfl, rfl⟩⟩
instance inf34 : Inf Tryd.prog 34 (Go.Value.tuple #[Go.Value.slice none 0 0, Go.Value.int Go.IntKind.i64 0]) 1 0 := ⟨⟨Tryd.t34, Tryd.type34, rfl, rfl, rfl, rfl⟩⟩
instance inf35 : Inf Tryd.prog 35 (Go.Value.nilFunc) 1 8 := ⟨⟨Tryd.t35, Tryd.type35, rfl, rfl, rfl, rfl⟩⟩
instance inf36 : Inf Tryd.prog 36 (Go.Value.tuple #[Go.Value.string { data := #[] }, Go.Value.int Go.IntKind.i64 0]) 1 0 := ⟨⟨Tryd.t36, Tryd.type36, rfl, rfl, rfl, rfl⟩⟩
instance inf37 : Inf Tryd.prog 37 (Go.Value.nilFunc) 1 8 := ⟨⟨Tryd.t37, Tryd.type37, rfl, rfl, rfl, rfl⟩⟩
instance inf38 : Inf Tryd.prog 38 (Go.Value.nilFunc) 1 8 := ⟨⟨Tryd.t38, Tryd.type38, rfl, rfl, rfl, rfl⟩⟩
instance inf39 : Inf Tryd.prog 39 (Go.Value.nilFunc) 1 8 := ⟨⟨Tryd.t39, Tryd.type39, rfl, rfl, rfl, rfl⟩⟩
instance inf40 : Inf Tryd.prog 40 (Go.Value.nilFunc) 1 8 := ⟨⟨Tryd.t40, Tryd.type40, rfl, rfl, rfl, rfl⟩⟩
instance inf41 : Inf Tryd.prog 41 (Go.Value.nilFunc) 1 8 := ⟨⟨Tryd.t41, Tryd.type41, rfl, rfl, rfl, rfl⟩⟩
instance inf42 : Inf Tryd.prog 42 (Go.Value.agg #[Go.Value.int Go.IntKind.i64 0, Go.Value.slice none 0 0]) 2 32 := ⟨⟨Tryd.t42, Tryd.type42, rfl, rfl, rfl, rfl⟩⟩
instance inf43 : Inf Tryd.prog 43 (Go.Value.agg #[Go.Value.int Go.IntKind.i64 0, Go.Value.slice none 0 0]) 2 32 := ⟨⟨Tryd.t43, Tryd.type43, rfl, rfl, rfl, rfl⟩⟩
instance inf44 : Inf Tryd.prog 44 (Go.Value.tuple #[Go.Value.slice none 0 0, Go.Value.int Go.IntKind.i64 0]) 1 0 := ⟨⟨Tryd.t44, Tryd.type44, rfl, rfl, rfl, rfl⟩⟩
instance inf45 : Inf Tryd.prog 45 (Go.Value.nilFunc) 1 8 := ⟨⟨Tryd.t45, Tryd.type45, rfl, rfl, rfl, rfl⟩⟩
instance inf46 : Inf Tryd.prog 46 (Go.Value.nilFunc) 1 8 := ⟨⟨Tryd.t46, Tryd.type46, rfl, rfl, rfl, rfl⟩⟩
instance inf47 : Inf Tryd.prog 47 (Go.Value.nilFunc) 1 8 := ⟨⟨Tryd.t47, Tryd.type47, rfl, rfl, rfl, rfl⟩⟩
instance inf48 : Inf Tryd.prog 48 (Go.Value.nilFunc) 1 8 := ⟨⟨Tryd.t48, Tryd.type48, rfl, rfl, rfl, rfl⟩⟩
instance inf49 : Inf Tryd.prog 49 (Go.Value.nilFunc) 1 8 := ⟨⟨Tryd.t49, Tryd.type49, rfl, rfl, rfl, rfl⟩⟩
instance inf50 : Inf Tryd.prog 50 (Go.Value.nilFunc) 1 8 := ⟨⟨Tryd.t50, Tryd.type50, rfl, rfl, rfl, rfl⟩⟩
instance inf51 : Inf Tryd.prog 51 (Go.Value.nilFunc) 1 8 := ⟨⟨Tryd.t51, Tryd.type51, rfl, rfl, rfl, rfl⟩⟩
instance inf52 : Inf Tryd.prog 52 (Go.Value.nilFunc) 1 8 := ⟨⟨Tryd.t52, Tryd.type52, rfl, rfl, rfl, rfl⟩⟩
instance inf53 : Inf Tryd.prog 53 (Go.Value.nilFunc) 1 8 := ⟨⟨Tryd.t53, Tryd.type53, rfl, rfl, rfl, rfl⟩⟩
instance inf54 : Inf Tryd.prog 54 (Go.Value.nilFunc) 1 8 := ⟨⟨Tryd.t54, Tryd.type54, rfl, rfl, rfl, rfl⟩⟩
instance inf55 : Inf Tryd.prog 55 (Go.Value.nilFunc) 1 8 := ⟨⟨Tryd.t55, Tryd.type55, rfl, rfl, rfl, rfl⟩⟩
instance inf56 : Inf Tryd.prog 56 (Go.Value.agg #[Go.Value.int Go.IntKind.i64 0, Go.Value.int Go.IntKind.i64 0]) 2 16 := ⟨⟨Tryd.t56, Tryd.type56, rfl, rfl, rfl, rfl⟩⟩
instance inf57 : Inf Tryd.prog 57 (Go.Value.agg #[Go.Value.int Go.IntKind.i64 0, Go.Value.int Go.IntKind.i64 0]) 2 16 := ⟨⟨Tryd.t57, Tryd.type57, rfl, rfl, rfl, rfl⟩⟩
instance inf58 : Inf Tryd.prog 58 (Go.Value.nilFunc) 1 8 := ⟨⟨Tryd.t58, Tryd.type58, rfl, rfl, rfl, rfl⟩⟩
instance inf59 : Inf Tryd.prog 59 (Go.Value.nilFunc) 1 8 := ⟨⟨Tryd.t59, Tryd.type59, rfl, rfl, rfl, rfl⟩⟩
instance inf60 : Inf Tryd.prog 60 (Go.Value.int Go.IntKind.i64 0) 1 8 := ⟨⟨Tryd.t60, Tryd.type60, rfl, rfl, rfl, rfl⟩⟩
instance inf61 : Inf Tryd.prog 61 (Go.Value.tuple #[Go.Value.int Go.IntKind.i64 0, Go.Value.int Go.IntKind.i64 0]) 1 0 := ⟨⟨Tryd.t61, Tryd.type61, rfl, rfl, rfl, rfl⟩⟩
instance inf62 : Inf Tryd.prog 62 (Go.Value.nilFunc) 1 8 := ⟨⟨Tryd.t62, Tryd.type62, rfl, rfl, rfl, rfl⟩⟩
instance inf63 : Inf Tryd.prog 63 (Go.Value.tuple #[Go.Value.int Go.IntKind.i64 0, Go.Value.int Go.IntKind.i64 0, Go.Value.int Go.IntKind.i64 0]) 1 0 := ⟨⟨Tryd.t63, Tryd.type63, rfl, rfl, rfl, rfl⟩⟩
instance inf64 : Inf Tryd.prog 64 (Go.Value.nilFunc) 1 8 := ⟨⟨Tryd.t64, Tryd.type64, rfl, rfl, rfl, rfl⟩⟩
instance inf65 : Inf Tryd.prog 65 (Go.Value.nilFunc) 1 8 := ⟨⟨Tryd.t65, Tryd.type65, rfl, rfl, rfl, rfl⟩⟩
instance inf66 : Inf Tryd.prog 66 (Go.Value.nilFunc) 1 8 := ⟨⟨Tryd.t66, Tryd.type66, rfl, rfl, rfl, rfl⟩⟩
instance inf67 : Inf Tryd.prog 67 (Go.Value.pointer none) 1 8 := ⟨⟨Tryd.t67, Tryd.type67, rfl, rfl, rfl, rfl⟩⟩
instance inf68 : Inf Tryd.prog 68 (Go.Value.slice none 0 0) 1 24 := ⟨⟨Tryd.t68, Tryd.type68, rfl, rfl, rfl, rfl⟩⟩
instance inf69 : Inf Tryd.prog 69 (Go.Value.agg #[Go.Value.pointer none, Go.Value.slice none 0 0]) 2 32 := ⟨⟨Tryd.t69, Tryd.type69, rfl, rfl, rfl, rfl⟩⟩
instance inf70 : Inf Tryd.prog 70 (Go.Value.agg #[Go.Value.pointer none, Go.Value.slice none 0 0]) 2 32 := ⟨⟨Tryd.t70, Tryd.type70, rfl, rfl, rfl, rfl⟩⟩
instance inf71 : Inf Tryd.prog 71 (Go.Value.nilFunc) 1 8 := ⟨⟨Tryd.t71, Tryd.type71, rfl, rfl, rfl, rfl⟩⟩
instance inf72 : Inf Tryd.prog 72 (Go.Value.nilIface) 1 16 := ⟨⟨Tryd.t72, Tryd.type72, rfl, rfl, rfl, rfl⟩⟩
instance inf73 : Inf Tryd.prog 73 (Go.Value.nilIface) 1 16 := ⟨⟨Tryd.t73, Tryd.type73, rfl, rfl, rfl, rfl⟩⟩
instance inf74 : Inf Tryd.prog 74 (Go.Value.tuple #[Go.Value.int Go.IntKind.i64 0, Go.Value.nilIface]) 1 0 := ⟨⟨Tryd.t74, Tryd.type74, rfl, rfl, rfl, rfl⟩⟩
instance inf75 : Inf Tryd.prog 75 (Go.Value.nilFunc) 1 8 := ⟨⟨Tryd.t75, Tryd.type75, rfl, rfl, rfl, rfl⟩⟩
instance inf76 : Inf Tryd.prog 76 (Go.Value.nilFunc) 1 8 := ⟨⟨Tryd.t76, Tryd.type76, rfl, rfl, rfl, rfl⟩⟩
instance inf77 : Inf Tryd.prog 77 (Go.Value.nilFunc) 1 8 := ⟨⟨Tryd.t77, Tryd.type77, rfl, rfl, rfl, rfl⟩⟩
instance inf78 : Inf Tryd.prog 78 (Go.Value.slice none 0 0) 1 24 := ⟨⟨Tryd.t78, Tryd.type78, rfl, rfl, rfl, rfl⟩⟩
instance inf79 : Inf Tryd.prog 79 (Go.Value.nilFunc) 1 8 := ⟨⟨Tryd.t79, Tryd.type79, rfl, rfl, rfl, rfl⟩⟩
instance inf80 : Inf Tryd.prog 80 (Go.Value.pointer none) 1 8 := ⟨⟨Tryd.t80, Tryd.type80, rfl, rfl, rfl, rfl⟩⟩
instance inf81 : Inf Tryd.prog 81 (Go.Value.agg #[Go.Value.int Go.IntKind.i64 0, Go.Value.int Go.IntKind.i64 0, Go.Value.int Go.IntKind.i64 0, Go.Value.int Go.IntKind.i64 0]) 4 32 := ⟨⟨Tryd.t81, Tryd.type81, rfl, rfl, rfl, rfl⟩⟩
instance inf82 : Inf Tryd.prog 82 (Go.Value.nilFunc) 1 8 := ⟨⟨Tryd.t82, Tryd.type82, rfl, rfl, rfl, rfl⟩⟩
instance inf83 : Inf Tryd.prog 83 (Go.Value.nilFunc) 1 8 := ⟨⟨Tryd.t83, Tryd.type83, rfl, rfl, rfl, rfl⟩⟩
instance inf84 : Inf Tryd.prog 84 (Go.Value.nilFunc) 1 8 := ⟨⟨Tryd.t84, Tryd.type84, rfl, rfl, rfl, rfl⟩⟩
instance inf85 : Inf Tryd.prog 85 (Go.Value.nilFunc) 1 8 := ⟨⟨Tryd.t85, Tryd.type85, rfl, rfl, rfl, rfl⟩⟩
instance inf86 : Inf Tryd.prog 86 (Go.Value.map none) 1 8 := ⟨⟨Tryd.t86, Tryd.type86, rfl, rfl, rfl, rfl⟩⟩
instance inf87 : Inf Tryd.prog 87 (Go.Value.nilFunc) 1 8 := ⟨⟨Tryd.t87, Tryd.type87, rfl, rfl, rfl, rfl⟩⟩
instance inf88 : Inf Tryd.prog 88 (Go.Value.nilFunc) 1 8 := ⟨⟨Tryd.t88, Tryd.type88, rfl, rfl, rfl, rfl⟩⟩
instance inf89 : Inf Tryd.prog 89 (Go.Value.nilFunc) 1 8 := ⟨⟨Tryd.t89, Tryd.type89, rfl, rfl, rfl, rfl⟩⟩
instance inf90 : Inf Tryd.prog 90 (Go.Value.nilFunc) 1 8 := ⟨⟨Tryd.t90, Tryd.type90, rfl, rfl, rfl, rfl⟩⟩
instance inf91 : Inf Tryd.prog 91 (Go.Value.nilFunc) 1 8 := ⟨⟨Tryd.t91, Tryd.type91, rfl, rfl, rfl, rfl⟩⟩
instance inf92 : Inf Tryd.prog 92 (Go.Value.nilFunc) 1 8 := ⟨⟨Tryd.t92, Tryd.type92, rfl, rfl, rfl, rfl⟩⟩
instance inf93 : Inf Tryd.prog 93 (Go.Value.nilFunc) 1 8 := ⟨⟨Tryd.t93, Tryd.type93, rfl, rfl, rfl, rfl⟩⟩
instance inf94 : Inf Tryd.prog 94 (Go.Value.agg #[Go.Value.int Go.IntKind.u8 0, Go.Value.int Go.IntKind.u8 0, Go.Value.int Go.IntKind.u8 0, Go.Value.int Go.IntKind.u8 0, Go.Value.int Go.IntKind.u8 0, Go.Value.int Go.IntKind.u8 0, Go.Value.int Go.IntKind.u8 0, Go.Value.int Go.IntKind.u8 0, Go.Value.int Go.IntKind.u8 0, Go.Value.int Go.IntKind.u8 0, Go.Value.int Go.IntKind.u8 0, Go.Value.int Go.IntKind.u8 0, Go.Value.int Go.IntKind.u8 0, Go.Value.int Go.IntKind.u8 0, Go.Value.int Go.IntKind.u8 0, Go.Value.int Go.IntKind.u8 0, Go.Value.int Go.IntKind.u8 0, Go.Value.int Go.IntKind.u8 0, Go.Value.int Go.IntKind.u8 0, Go.Value.int Go.IntKind.u8 0, Go.Value.int Go.IntKind.u8 0, Go.Value.int Go.IntKind.u8 0, Go.Value.int Go.IntKind.u8 0, Go.Value.int Go.IntKind.u8 0]) 24 24 := ⟨⟨Tryd.t94, Tryd.type94, rfl, rfl, rfl, rfl⟩⟩
instance inf95 : Inf Tryd.prog 95 (Go.Value.int Go.IntKind.u64 0) 1 8 := ⟨⟨Tryd.t95, Tryd.type95, rfl, rfl, rfl, rfl⟩⟩
instance inf96 : Inf Tryd.prog 96 (Go.Value.nilFunc) 1 8 := ⟨⟨Tryd.t96, Tryd.type96, rfl, rfl, rfl, rfl⟩⟩
instance inf97 : Inf Tryd.prog 97 (Go.Value.nilFunc) 1 8 := ⟨⟨Tryd.t97, Tryd.type97, rfl, rfl, rfl, rfl⟩⟩
instance inf98 : Inf Tryd.prog 98 (Go.Value.tuple #[Go.Value.slice none 0 0, Go.Value.string { data := #[] }]) 1 0 := ⟨⟨Tryd.t98, Tryd.type98, rfl, rfl, rfl, rfl⟩⟩
instance inf99 : Inf Tryd.prog 99 (Go.Value.nilFunc) 1 8 := ⟨⟨Tryd.t99, Tryd.type99, rfl, rfl, rfl, rfl⟩⟩
instance inf100 : Inf Tryd.prog 100 (Go.Value.pointer none) 1 8 := ⟨⟨Tryd.t100, Tryd.type100, rfl, rfl, rfl, rfl⟩⟩
instance inf101 : Inf Tryd.prog 101 (Go.Value.nilFunc) 1 8 := ⟨⟨Tryd.t101, Tryd.type101, rfl, rfl, rfl, rfl⟩⟩
instance inf102 : Inf Tryd.prog 102 (Go.Value.nilFunc) 1 8 := ⟨⟨Tryd.t102, Tryd.type102, rfl, rfl, rfl, rfl⟩⟩
instance inf103 : Inf Tryd.prog 103 (Go.Value.nilFunc) 1 8 := ⟨⟨Tryd.t103, Tryd.type103, rfl, rfl, rfl, rfl⟩⟩
instance inf104 : Inf Tryd.prog 104 (Go.Value.nilFunc) 1 8 := ⟨⟨Tryd.t104, Tryd.type104, rfl, rfl, rfl, rfl⟩⟩
instance inf105 : Inf Tryd.prog 105 (Go.Value.nilFunc) 1 8 := ⟨⟨Tryd.t105, Tryd.type105, rfl, rfl, rfl, rfl⟩⟩
instance inf106 : Inf Tryd.prog 106 (Go.Value.nilFunc) 1 8 := ⟨⟨Tryd.t106, Tryd.type106, rfl, rfl, rfl, rfl⟩⟩
instance inf107 : Inf Tryd.prog 107 (Go.Value.nilFunc) 1 8 := ⟨⟨Tryd.t107, Tryd.type107, rfl, rfl, rfl, rfl⟩⟩
instance inf108 : Inf Tryd.prog 108 (Go.Value.nilFunc) 1 8 := ⟨⟨Tryd.t108, Tryd.type108, rfl, rfl, rfl, rfl⟩⟩
instance inf109 : Inf Tryd.prog 109 (Go.Value.agg #[Go.Value.int Go.IntKind.u64 0, Go.Value.int Go.IntKind.u64 0, Go.Value.int Go.IntKind.u64 0, Go.Value.int Go.IntKind.u64 0, Go.Value.int Go.IntKind.u64 0, Go.Value.int Go.IntKind.u64 0, Go.Value.int Go.IntKind.u64 0, Go.Value.int Go.IntKind.u64 0, Go.Value.int Go.IntKind.u64 0, Go.Value.int Go.IntKind.u64 0, Go.Value.int Go.IntKind.u64 0, Go.Value.int Go.IntKind.u64 0, Go.Value.int Go.IntKind.u64 0, Go.Value.int Go.IntKind.u64 0, Go.Value.int Go.IntKind.u64 0, Go.Value.int Go.IntKind.u64 0, Go.Value.int Go.IntKind.u64 0, Go.Value.int Go.IntKind.u64 0, Go.Value.int Go.IntKind.u64 0, Go.Value.int Go.IntKind.u64 0]) 20 160 := ⟨⟨Tryd.t109, Tryd.type109, rfl, rfl, rfl, rfl⟩⟩
instance inf110 : Inf Tryd.prog 110 (Go.Value.int Go.IntKind.u32 0) 1 4 := ⟨⟨Tryd.t110, Tryd.type110, rfl, rfl, rfl, rfl⟩⟩
instance inf111 : Inf Tryd.prog 111 (Go.Value.agg Go.Proofs.Tryd.zeroCells111) 65 65 := ⟨⟨Tryd.t111, Tryd.type111, rfl, rfl, rfl, rfl⟩⟩
instance inf112 : Inf Tryd.prog 112 (Go.Value.int Go.IntKind.u64 0) 1 8 := ⟨⟨Tryd.t112, Tryd.type112, rfl, rfl, rfl, rfl⟩⟩
instance inf113 : Inf Tryd.prog 113 (Go.Value.nilFunc) 1 8 := ⟨⟨Tryd.t113, Tryd.type113, rfl, rfl, rfl, rfl⟩⟩
instance inf114 : Inf Tryd.prog 114 (Go.Value.nilFunc) 1 8 := ⟨⟨Tryd.t114, Tryd.type114, rfl, rfl, rfl, rfl⟩⟩
instance inf115 : Inf Tryd.prog 115 (Go.Value.nilFunc) 1 8 := ⟨⟨Tryd.t115, Tryd.type115, rfl, rfl, rfl, rfl⟩⟩
instance inf116 : Inf Tryd.prog 116 (Go.Value.nilFunc) 1 8 := ⟨⟨Tryd.t116, Tryd.type116, rfl, rfl, rfl, rfl⟩⟩
instance inf117 : Inf Tryd.prog 117 (Go.Value.agg #[Go.Value.string { data := #[] }, Go.Value.string { data := #[] }, Go.Value.string { data := #[] }, Go.Value.string { data := #[] }]) 4 64 := ⟨⟨Tryd.t117, Tryd.type117, rfl, rfl, rfl, rfl⟩⟩
instance inf118 : Inf Tryd.prog 118 (Go.Value.nilFunc) 1 8 := ⟨⟨Tryd.t118, Tryd.type118, rfl, rfl, rfl, rfl⟩⟩
instance inf119 : Inf Tryd.prog 119 (Go.Value.nilFunc) 1 8 := ⟨⟨Tryd.t119, Tryd.type119, rfl, rfl, rfl, rfl⟩⟩
instance inf120 : Inf Tryd.prog 120 (Go.Value.agg #[Go.Value.int Go.IntKind.u8 0, Go.Value.int Go.IntKind.u8 0, Go.Value.int Go.IntKind.u8 0, Go.Value.int Go.IntKind.u8 0, Go.Value.int Go.IntKind.u8 0, Go.Value.int Go.IntKind.u8 0, Go.Value.int Go.IntKind.u8 0, Go.Value.int Go.IntKind.u8 0, Go.Value.int Go.IntKind.u8 0, Go.Value.int Go.IntKind.u8 0, Go.Value.int Go.IntKind.u8 0, Go.Value.int Go.IntKind.u8 0, Go.Value.int Go.IntKind.u8 0, Go.Value.int Go.IntKind.u8 0, Go.Value.int Go.IntKind.u8 0, Go.Value.int Go.IntKind.u8 0, Go.Value.int Go.IntKind.u8 0, Go.Value.int Go.IntKind.u8 0, Go.Value.int Go.IntKind.u8 0, Go.Value.int Go.IntKind.u8 0, Go.Value.int Go.IntKind.u8 0, Go.Value.int Go.IntKind.u8 0, Go.Value.int Go.IntKind.u8 0, Go.Value.int Go.IntKind.u8 0, Go.Value.int Go.IntKind.u8 0, Go.Value.int Go.IntKind.u8 0, Go.Value.int Go.IntKind.u8 0, Go.Value.int Go.IntKind.u8 0, Go.Value.int Go.IntKind.u8 0, Go.Value.int Go.IntKind.u8 0, Go.Value.int Go.IntKind.u8 0, Go.Value.int Go.IntKind.u8 0]) 32 32 := ⟨⟨Tryd.t120, Tryd.type120, rfl, rfl, rfl, rfl⟩⟩
instance inf121 : Inf Tryd.prog 121 (Go.Value.agg #[Go.Value.int Go.IntKind.u8 0, Go.Value.int Go.IntKind.u8 0, Go.Value.int Go.IntKind.u8 0, Go.Value.int Go.IntKind.u8 0, Go.Value.int Go.IntKind.u8 0, Go.Value.int Go.IntKind.u8 0, Go.Value.int Go.IntKind.u8 0, Go.Value.int Go.IntKind.u8 0, Go.Value.int Go.IntKind.u8 0, Go.Value.int Go.IntKind.u8 0, Go.Value.int Go.IntKind.u8 0, Go.Value.int Go.IntKind.u8 0, Go.Value.int Go.IntKind.u8 0, Go.Value.int Go.IntKind.u8 0, Go.Value.int Go.IntKind.u8 0, Go.Value.int Go.IntKind.u8 0, Go.Value.int Go.IntKind.u8 0, Go.Value.int Go.IntKind.u8 0, Go.Value.int Go.IntKind.u8 0, Go.Value.int Go.IntKind.u8 0, Go.Value.int Go.IntKind.u8 0, Go.Value.int Go.IntKind.u8 0, Go.Value.int Go.IntKind.u8 0, Go.Value.int Go.IntKind.u8 0, Go.Value.int Go.IntKind.u8 0, Go.Value.int Go.IntKind.u8 0, Go.Value.int Go.IntKind.u8 0, Go.Value.int Go.IntKind.u8 0, Go.Value.int Go.IntKind.u8 0, Go.Value.int Go.IntKind.u8 0, Go.Value.int Go.IntKind.u8 0, Go.Value.int Go.IntKind.u8 0, Go.Value.int Go.IntKind.u8 0, Go.Value.int Go.IntKind.u8 0, Go.Value.int Go.IntKind.u8 0, Go.Value.int Go.IntKind.u8 0, Go.Value.int Go.IntKind.u8 0, Go.Value.int Go.IntKind.u8 0, Go.Value.int Go.IntKind.u8 0, Go.Value.int Go.IntKind.u8 0, Go.Value.int Go.IntKind.u8 0, Go.Value.int Go.IntKind.u8 0, Go.Value.int Go.IntKind.u8 0, Go.Value.int Go.IntKind.u8 0, Go.Value.int Go.IntKind.u8 0, Go.Value.int Go.IntKind.u8 0, Go.Value.int Go.IntKind.u8 0, Go.Value.int Go.IntKind.u8 0, Go.Value.int Go.IntKind.u8 0, Go.Value.int Go.IntKind.u8 0, Go.Value.int Go.IntKind.u8 0, Go.Value.int Go.IntKind.u8 0, Go.Value.int Go.IntKind.u8 0, Go.Value.int Go.IntKind.u8 0, Go.Value.int Go.IntKind.u8 0, Go.Value.int Go.IntKind.u8 0, Go.Value.int Go.IntKind.u8 0, Go.Value.int Go.IntKind.u8 0, Go.Value.int Go.IntKind.u8 0, Go.Value.int Go.IntKind.u8 0, Go.Value.int Go.IntKind.u8 0, Go.Value.int Go.IntKind.u8 0, Go.Value.int Go.IntKind.u8 0, Go.Value.int Go.IntKind.u8 0]) 64 64 := ⟨⟨Tryd.t121, Tryd.type121, rfl, rfl, rfl, rfl⟩⟩
instance inf122 : Inf Tryd.prog 122 (Go.Value.nilFunc) 1 8 := ⟨⟨Tryd.t122, Tryd.type122, rfl, rfl, rfl, rfl⟩⟩
instance inf123 : Inf Tryd.prog 123 (Go.Value.agg #[Go.Value.pointer none, Go.Value.pointer none, Go.Value.pointer none, Go.Value.string { data := #[] }]) 4 40 := ⟨⟨Tryd.t123, Tryd.type123, rfl, rfl, rfl, rfl⟩⟩
instance inf124 : Inf Tryd.prog 124 (Go.Value.agg #[Go.Value.pointer none, Go.Value.pointer none, Go.Value.pointer none, Go.Value.string { data := #[] }]) 4 40 := ⟨⟨Tryd.t124, Tryd.type124, rfl, rfl, rfl, rfl⟩⟩
instance inf125 : Inf Tryd.prog 125 (Go.Value.agg #[]) 0 0 := ⟨⟨Tryd.t125, Tryd.type125, rfl, rfl, rfl, rfl⟩⟩
instance inf126 : Inf Tryd.prog 126 (Go.Value.agg #[]) 0 0 := ⟨⟨Tryd.t126, Tryd.type126, rfl, rfl, rfl, rfl⟩⟩
instance inf127 : Inf Tryd.prog 127 (Go.Value.agg #[]) 0 0 := ⟨⟨Tryd.t127, Tryd.type127, rfl, rfl, rfl, rfl⟩⟩
instance inf128 : Inf Tryd.prog 128 (Go.Value.int Go.IntKind.u8 0) 1 1 := ⟨⟨Tryd.t128, Tryd.type128, rfl, rfl, rfl, rfl⟩⟩
instance inf129 : Inf Tryd.prog 129 (Go.Value.int Go.IntKind.u8 0) 1 1 := ⟨⟨Tryd.t129, Tryd.type129, rfl, rfl, rfl, rfl⟩⟩
instance inf130 : Inf Tryd.prog 130 (Go.Value.nilFunc) 1 8 := ⟨⟨Tryd.t130, Tryd.type130, rfl, rfl, rfl, rfl⟩⟩
instance inf131 : Inf Tryd.prog 131 (Go.Value.int Go.IntKind.i32 0) 1 4 := ⟨⟨Tryd.t131, Tryd.type131, rfl, rfl, rfl, rfl⟩⟩
instance inf132 : Inf Tryd.prog 132 (Go.Value.int Go.IntKind.i32 0) 1 4 := ⟨⟨Tryd.t132, Tryd.type132, rfl, rfl, rfl, rfl⟩⟩
instance inf133 : Inf Tryd.prog 133 (Go.Value.agg #[Go.Value.int Go.IntKind.u64 0, Go.Value.int Go.IntKind.u64 0, Go.Value.int Go.IntKind.u32 0, Go.Value.int Go.IntKind.u8 0, Go.Value.int Go.IntKind.u8 0, Go.Value.int Go.IntKind.u8 0, Go.Value.int Go.IntKind.u8 0, Go.Value.nilFunc, Go.Value.pointer none, Go.Value.int Go.IntKind.i32 0, Go.Value.int Go.IntKind.i32 0]) 11 48 := ⟨⟨Tryd.t133, Tryd.type133, rfl, rfl, rfl, rfl⟩⟩
instance inf134 : Inf Tryd.prog 134 (Go.Value.agg #[Go.Value.int Go.IntKind.u64 0, Go.Value.int Go.IntKind.u64 0, Go.Value.int Go.IntKind.u32 0, Go.Value.int Go.IntKind.u8 0, Go.Value.int Go.IntKind.u8 0, Go.Value.int Go.IntKind.u8 0, Go.Value.int Go.IntKind.u8 0, Go.Value.nilFunc, Go.Value.pointer none, Go.Value.int Go.IntKind.i32 0, Go.Value.int Go.IntKind.i32 0]) 11 48 := ⟨⟨Tryd.t134, Tryd.type134, rfl, rfl, rfl, rfl⟩⟩
theorem V_aneq_57 {fs : List (Nat × Value)} {E : Env} {L : List Res} {o : Oper} {x y : Operand} {u : TypeId} {a0 : Int} {a1 : Int} {b0 : Int} {b1 : Int} (ho : o.op = .binOp .neq 57 x y u) (hx : ev fs x = some (.agg #[.int .i64 a0, .int .i64 a1])) (hy : ev fs y = some (.agg #[.int .i64 b0, .int .i64 b1])) : Val Tryd.prog o fs E L (.bool (decide (¬ (a0 = b0 ∧ a1 = b1)))) :=
  V_bin ho hx hy fun w => ⟨by simp [go_sem], by
    by_cases h0 : a0 = b0 <;> by_cases h1 : a1 = b1 <;> simp [go_sem, Op.eqFields, S_toList, h0, h1]⟩
theorem mixed : Tryd.prog.follows .mixedOrders = true := by kernel_rfl
end Go.Proofs.YtaibabmladgldaaDoor
namespace Go.Proofs.YtaibabmladgldaaDoor
open Go.RowKit
section
variable {n : Nat} {ds : List Deferred} {fs : List (Nat × Value)} {E : Env} {L : List Res} {X : Act → World → Prop}
end
section
variable {P : Program} {ro : Option Nat} {n : Nat} {ds : List Deferred} {fs : List (Nat × Value)} {E : Env} {L L' : List Res} {ops : Array Oper} {o : Oper}
variable {T : Act → Fam → Prop} {π : List (Nat × Nat)} {i : Nat} {js js' : List JI}
end
section
variable {P : Program} {ro : Option Nat} {n : Nat} {ds : List Deferred} {fs : List (Nat × Value)} {E : Env} {L : List Res} {ops : Array Oper} {T : Act → Fam → Prop} {π : List (Nat × Nat)} {i : Nat} {o : Oper} {J : Nat → World → Prop}
end
end Go.Proofs.YtaibabmladgldaaDoor
