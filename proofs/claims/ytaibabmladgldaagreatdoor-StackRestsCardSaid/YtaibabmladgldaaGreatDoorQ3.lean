/-
  Rules and contracts, packed: Sep20, Sep21, Sep22, Sep23, Sep24, Sep35, Sep30.
-/
import Derived.Maps.RangeRun
import Derived.Laws.MakeOwn
import Derived.Laws.RangeAny
import Derived.ChangeKeysEq
import Derived.Test.YtaibabmladgldaaGreatDoorQ2
set_option maxHeartbeats 1000000
set_option linter.unusedSimpArgs false
set_option linter.unusedVariables false
set_option linter.unusedSectionVars false
namespace Go.Proofs.YtaibabmladgldaaGreatDoor
open Go.RowKit

section entries
variable {α : Type}
def ents (enc : α → Value) : List (α × Value) → Nat → List MapEntry
  | [], _ => []
  | (a, v) :: l, i => ⟨enc a, v, i⟩ :: ents enc l (i + 1)
def mobj (enc : α → Value) (kv : List (α × Value)) : Obj := .map (ents enc kv 0).toArray kv.length
theorem ents_get (enc : α → Value) : ∀ (kv : List (α × Value)) (i k : Nat), (ents enc kv i)[k]? = (kv[k]?).map (fun p => ⟨enc p.1, p.2, i + k⟩) := by
  intro kv
  induction kv with
  | nil => intro i k; simp [ents]
  | cons p l ih =>
    intro i k
    obtain ⟨a, v⟩ := p
    cases k with
    | zero => simp [ents]
    | succ k => simp only [ents, List.getElem?_cons_succ, ih]; rw [show i + 1 + k = i + (k + 1) by omega]
theorem ents_append (enc : α → Value) : ∀ (a b : List (α × Value)) i, ents enc (a ++ b) i = ents enc a i ++ ents enc b (i + a.length) := by
  intro a
  induction a with
  | nil => intro b i; simp [ents]
  | cons p l ih => intro b i; obtain ⟨x, v⟩ := p; simp only [List.cons_append, ents, ih, List.length_cons]; rw [show i + 1 + l.length = i + (l.length + 1) by omega]
end entries
section model
variable {α : Type} [DecidableEq α]
def mget : List (α × Value) → α → Option Value
  | [], _ => none
  | (b, v) :: l, a => if a = b then some v else mget l a
def mput : List (α × Value) → α → Value → List (α × Value)
  | [], a, v => [(a, v)]
  | (b, u) :: l, a, v => if a = b then (b, v) :: l else (b, u) :: mput l a v
def mfind : List (α × Value) → α → Nat → Option (Nat × Value)
  | [], _, _ => none
  | (b, v) :: l, a, i => if a = b then some (i, v) else mfind l a (i + 1)
theorem mfind_mget : ∀ (kv : List (α × Value)) a i, (mfind kv a i).map (·.2) = mget kv a := by
  intro kv
  induction kv with
  | nil => intro a i; rfl
  | cons p l ih => intro a i; obtain ⟨b, v⟩ := p; simp only [mfind, mget]; split; rfl; exact ih _ _
theorem mfind_none : ∀ (kv : List (α × Value)) a i v, mfind kv a i = none → mput kv a v = kv ++ [(a, v)] := by
  intro kv
  induction kv with
  | nil => intro a i v _; rfl
  | cons p l ih =>
    intro a i v h
    obtain ⟨b, u⟩ := p
    simp only [mfind, mput] at h ⊢
    split at h
    · cases h
    · rename_i hne
      rw [if_neg hne, ih a (i + 1) v h, List.cons_append]
theorem mfind_some (enc : α → Value) : ∀ (kv : List (α × Value)) a i v k u, mfind kv a i = some (k, u) → i ≤ k ∧ kv[k - i]? = some (a, u) ∧ (mput kv a v).length = kv.length ∧
    ents enc (mput kv a v) i = (ents enc kv i).modify (k - i) (fun e => { e with key := enc a, val := v }) := by
  intro kv
  induction kv with
  | nil => intro a i v k u h; cases h
  | cons p l ih =>
    intro a i v k u h
    obtain ⟨b, x⟩ := p
    simp only [mfind] at h
    split at h
    · rename_i hab
      subst hab
      simp only [Option.some.injEq, Prod.mk.injEq] at h
      obtain ⟨rfl, rfl⟩ := h
      simp [mput, ents]
    · rename_i hne
      obtain ⟨h1, h2, h3, h4⟩ := ih a (i + 1) v k u h
      have e : k - i = (k - (i + 1)) + 1 := by omega
      refine ⟨by omega, ?_, ?_, ?_⟩
      · rw [e, List.getElem?_cons_succ]; exact h2
      · simp only [mput, if_neg hne, List.length_cons, h3]
      · simp only [mput, if_neg hne, ents]
        rw [e, List.modify_succ_cons, h4]
end model

/-- How the keys of type t are written: they are compared at once. -/
class KeyT {α : Type} [DecidableEq α] (P : Program) (t : TypeId) (enc : α → Value) : Prop where
  chk : ∀ a b w, (Instr.checkKey b 10000 t (enc a)).run P w = .ok () w
  find : ∀ a kv w, (Instr.findKey t (enc a) (ents enc kv 0)).run P w = .ok (mfind kv a 0) w
  bits : ∀ a, Instr.sameBits 10000 (enc a) (enc a) = true

abbrev kI (n : Int) : Value := .int .i64 n
abbrev kS (s : List UInt8) : Value := .string (S s)

theorem find_now {α : Type} [DecidableEq α] {enc : α → Value} {kind : TypeDesc} (h : ∀ a b, Instr.sameNow kind (enc a) (enc b) = some (decide (a = b))) (a : α) : ∀ (kv : List (α × Value)) (j i : Nat), Instr.findNow kind (enc a) (ents enc kv j) i = some (mfind kv a i) := by
  intro kv
  induction kv with
  | nil => intro j i; rfl
  | cons p l ih =>
    intro j i
    obtain ⟨b, v⟩ := p
    simp only [ents, Instr.findNow, h, mfind]
    by_cases e : a = b
    · simp [e]
    · simp [e, ih]

theorem checkKey_plain {P : Program} {t : TypeId} {d : TypeDesc} {sz : Nat} {ag : Bool} (ht : Ty P t d sz ag) (hd : d = .int .i64 ∨ d = .string) (v : Value) (b : Bool) (w : World) : (Instr.checkKey b 10000 t v).run P w = .ok () w := by
  rw [show (10000 : Nat) = 9999 + 1 from rfl]
  unfold Instr.checkKey
  simp only [Sem.run_bind, ht.run, Result.andThen]
  rcases hd with rfl | rfl <;> rfl
theorem S_beq (a b : List UInt8) : (S a == S b) = decide (a = b) := by
  have e : (S a == S b) = ((S a).data == (S b).data) := rfl
  rw [e, Bool.eq_iff_iff, decide_eq_true_eq]
  simp [S]
instance keyI {P : Program} {t : TypeId} {sz : Nat} {ag : Bool} [ht : Ty P t (.int .i64) sz ag] : KeyT P t kI where
  chk a b w := checkKey_plain ht (.inl rfl) _ b w
  find a kv w := by
    simp only [Instr.findKey, Sem.run_bind, ht.run, Result.andThen]
    rw [find_now (enc := kI) (fun a b => by simp [Instr.sameNow, kI]; rfl)]
    rfl
  bits a := by simp [Instr.sameBits]
instance keyS {P : Program} {t : TypeId} {sz : Nat} {ag : Bool} [ht : Ty P t .string sz ag] : KeyT P t kS where
  chk a b w := checkKey_plain ht (.inr rfl) _ b w
  find a kv w := by
    simp only [Instr.findKey, Sem.run_bind, ht.run, Result.andThen]
    rw [find_now (enc := kS) (fun a b => by simp only [Instr.sameNow, kS, S_beq])]
    rfl
  bits a := by simp only [kS, Instr.sameBits, S_beq, decide_true]

section rules
variable {P : Program} {ro : Option Nat} {n : Nat} {ds : List Deferred} {fs : List (Nat × Value)} {E : Env} {L L' : List Res} {ops : Array Oper} {Q : Exit → Act → World → Prop} {o : Oper} {rest : List Oper}
variable {α : Type} [DecidableEq α] {enc : α → Value}

theorem G_makeMap {t key elem : TypeId} {sz : Nat} {ag : Bool} [ht : Ty P t (.map key elem) sz ag] {d : Nat} (enc : α → Value) [hk : KeyT P key enc] (ho : o.op = .makeMap t none) (hd : o.dst = some d) (hn : Nat.blt d n = true) (hg : Goes ops fs o)
    (h : ∀ b, G n ds ((d, .map (some b)) :: fs) E (.blk b (mobj enc []) :: L) (wpListIn (Wd ro) 0 P ops Q rest)) : G n ds fs E L (wpListIn (Wd ro) 0 P ops Q (o :: rest)) :=
  G_any hg (by rw [ho]; intro c h; cases h) fun a w ha hw => by
    have e : (execOp a.eval o).run P w = .ok (.value (.map (some w.heap.size))) (w.alloc (mobj enc [])) := by
      simp [execOp, ho, Instr.makeMap, Result.andThen, mobj, ents]
    rw [e]
    simp only [Oper.uponIn_value, hd]
    exact h w.heap.size _ _ (ha.put hn _) (hw.alloc _)

theorem V_lookup {t key elem : TypeId} {sz : Nat} {ag : Bool} [ht : Ty P t (.map key elem) sz ag] (enc : α → Value) [hk : KeyT P key enc] {z : Value} {zc : Array Value} [hz : Zero P elem z zc] {x y : Operand} {b : Nat} {kv : List (α × Value)} (a : α)
    (ho : o.op = .lookup t x y false) (hx : ev fs x = some (.map (some b))) (hy : ev fs y = some (enc a)) (hm : Res.blk b (mobj enc kv) ∈ L) : Val P o fs E L ((mget kv a).getD z) :=
  ⟨(by rw [ho]; intro c h; cases h), fun n ds a' w ha hw => by
    have hb : w.heap[b]? = some (mobj enc kv) := hw.own _ hm
    have hg : (getObj b).run P w = .ok (mobj enc kv) w := by simp [getObj, Sem.run, hb, mobj]
    have e1 : (ents enc kv 0).toArray.toList = ents enc kv 0 := by simp
    have e2 := hk.find a kv w
    rw [← mfind_mget kv a 0]
    simp only [execOp, ho, ha.eval hx, ha.eval hy, Instr.lookup, Sem.run_bind, ht.run, Result.andThen, hg, mobj, Sem.run_pure, hk.chk, e1, e2]
    cases mfind kv a 0 with
    | none => simp [hz.zv, Result.andThen]
    | some p => obtain ⟨i, v⟩ := p; simp⟩
theorem run_mapUpdate {t key elem : TypeId} {sz : Nat} {ag : Bool} [ht : Ty P t (.map key elem) sz ag] [hk : KeyT P key enc] {b : Nat} {kv : List (α × Value)} (a : α) (v : Value) {w : World} (hb : w.heap[b]? = some (mobj enc kv)) :
    (Instr.mapUpdate t (.map (some b)) (enc a) v).run P w = .ok () (w.putObj b (mobj enc (mput kv a v))) := by
  have hg : (getObj b).run P w = .ok (mobj enc kv) w := by simp [getObj, Sem.run, hb, mobj]
  have hs : ∀ o' : Obj, (setObj b o').run P w = .ok () (w.putObj b o') := fun o' => by simp [setObj, Sem.run, hb, mobj, World.putObj]
  have e1 : (ents enc kv 0).toArray.toList = ents enc kv 0 := by simp
  have e2 := hk.find a kv w
  simp only [Instr.mapUpdate, Sem.run_bind, ht.run, Result.andThen, hg, mobj, hk.chk, e1, e2]
  cases hf : mfind kv a 0 with
  | none =>
    have h1 := mfind_none kv a 0 v hf
    have h2 : (ents enc kv 0).toArray.push ⟨enc a, v, kv.length⟩ = (ents enc (mput kv a v) 0).toArray := by
      rw [h1, ents_append]; simp [ents]
    simp only [hs, h2, h1, List.length_append, List.length_singleton]
  | some p =>
    obtain ⟨i, u⟩ := p
    obtain ⟨_, h2, h3, h4⟩ := mfind_some enc kv a 0 v i u hf
    rw [Nat.sub_zero] at h2 h4
    have hkey : (((ents enc kv 0).toArray[i]?).map (·.key)).getD (enc a) = enc a := by simp [ents_get, h2]
    have hmod : (ents enc kv 0).toArray.modify i (fun e => { e with key := enc a, val := v }) = (ents enc (mput kv a v) 0).toArray := by
      rw [h4]; apply Array.ext'; simp
    simp only [hkey, Instr.keyThatStays, hk.bits, if_true, Sem.run_bind, Sem.run_pure, Result.andThen, hs, hmod, h3]
theorem G_mapUpdate {t key elem : TypeId} {sz : Nat} {ag : Bool} [ht : Ty P t (.map key elem) sz ag] (enc : α → Value) [hk : KeyT P key enc] {x y z : Operand} {b : Nat} {kv : List (α × Value)} (a : α) {v : Value}
    (ho : o.op = .mapUpdate t x y z ∨ o.op = .insert t x y z) (hx : ev fs x = some (.map (some b))) (hy : ev fs y = some (enc a)) (hz : ev fs z = some v) (hd : o.dst = none) (hg : Goes ops fs o)
    (u : Upd L (.blk b (mobj enc kv)) (.blk b (mobj enc (mput kv a v))) L')
    (h : G n ds fs E L' (wpListIn (Wd ro) 0 P ops Q rest)) : G n ds fs E L (wpListIn (Wd ro) 0 P ops Q (o :: rest)) :=
  G_any hg (by rcases ho with ho | ho <;> (rw [ho]; intro c h; cases h)) fun a' w ha hw => by
    have hb : w.heap[b]? = some (mobj enc kv) := hw.own _ u.mem
    have e : (execOp a'.eval o).run P w = .ok .skip (w.putObj b (mobj enc (mput kv a v))) := by
      rcases ho with ho | ho <;> simp [execOp, ho, ha.eval hx, ha.eval hy, ha.eval hz, run_mapUpdate (t := t) (key := key) (elem := elem) a v hb, Result.andThen]
    rw [e]
    simp only [Oper.uponIn_skip, hd]
    exact h _ _ ha (hw.put u)
/-! ### The loop over a map -/
end rules
end Go.Proofs.YtaibabmladgldaaGreatDoor
set_option linter.unusedSimpArgs false
set_option linter.unusedVariables false
set_option linter.unusedSectionVars false
namespace Go.Proofs.YtaibabmladgldaaGreatDoor
open Go.RowKit

section rules
variable {P : Program} {ro : Option Nat} {n : Nat} {ds : List Deferred} {fs : List (Nat × Value)} {E : Env} {L L' : List Res} {ops : Array Oper} {Q : Exit → Act → World → Prop} {o : Oper} {rest : List Oper} {X : Act → World → Prop}
variable {T : Act → Fam → Prop} {π : List (Nat × Nat)} {i : Nat} {js js' : List JI}

theorem madeCells_one (zc : Value) (n : Nat) : madeCells #[zc] n = (List.replicate n zc).toArray := by
  apply Array.ext'
  simp [madeCells]
  apply List.ext_getElem
  · simp
  · intro i h1 h2
    simp [Nat.mod_one]
/-- make([]T, m). -/
theorem G_makeSlice {t e : TypeId} {sz : Nat} {ag : Bool} [ht : Ty P t (.slice e) sz ag] {z zc : Value} {bytes : Nat} [hi : Inf P e z 1 bytes] [hz : Zero P e z #[zc]] {x y : Operand} {m : Int} {d : Nat}
    (ho : o.op = .makeSlice t x y) (hx : ev fs x = some (.int .i64 m)) (hy : ev fs y = some (.int .i64 m)) (h0 : 0 ≤ m) (h1 : bytes * m ≤ 281474976710656) (h2 : m ≤ 9223372036854775807) (hd : o.dst = some d) (hn : Nat.blt d n = true) (hg : Goes ops fs o)
    (h : ∀ b, G n ds ((d, .slice (some ⟨b, 0, none⟩) m.toNat m.toNat) :: fs) E (.blk b (.cells (List.replicate m.toNat zc).toArray e (0, 0)) :: L) (wpListIn (Wd ro) 0 P ops Q rest)) : G n ds fs E L (wpListIn (Wd ro) 0 P ops Q (o :: rest)) :=
  G_any hg (by rw [ho]; intro c h; cases h) fun a w ha hw => by
    obtain ⟨inf, hi1, hi2, hi3, hi4, hi5⟩ := hi.inf
    have hzc : z.cells = #[zc] := hz.zc
    have hr := run_make (P := P) (w := w) t e inf z ht.und hi1 hi2 .i64 .i64 m m h0 (Int.le_refl _) (by rw [hi4]; exact h1) h2
    rw [hi3, hzc, Nat.mul_one, madeCells_one] at hr
    have e : (execOp a.eval o).run P w = .ok (.value (.slice (some ⟨w.heap.size, 0, none⟩) m.toNat m.toNat)) (w.alloc (.cells (List.replicate m.toNat zc).toArray e)) := by
      simp [execOp, ho, ha.eval hx, ha.eval hy, hr, Result.andThen]
    rw [e]
    simp only [Oper.uponIn_value, hd]
    exact h w.heap.size _ _ (ha.put hn _) (hw.alloc _)
theorem V_idxB {x y : Operand} {t e : TypeId} {d : TypeDesc} {sz sz' : Nat} {ag ag' : Bool} [ht : Ty P t (.slice e) sz' ag'] [he : Ty P e d sz ag] {b m c : Nat} {k : IntKind} {i : Int}
    (ho : o.op = .indexAddr t x y) (hx : ev fs x = some (.slice (some ⟨b, 0, none⟩) m c)) (hy : ev fs y = some (.int k i)) (h0 : 0 ≤ i) (h1 : i < m) : Val P o fs E L (.pointer (some ⟨b, i.toNat * sz, none⟩)) :=
  ⟨(by rw [ho]; intro c h; cases h), fun n ds a' w ha hw => by
    have hl : i.toNat < m := by omega
    have hni : ¬ i < 0 := by omega
    have e2 := addr_add b 0 (i.toNat * sz)
    rw [Nat.zero_add] at e2
    simp [execOp, ho, ha.eval hx, ha.eval hy, Instr.indexAt, asIntOf, ht.run, he.size, Result.andThen, h0, h1, e2]⟩
theorem V_idxB1 {x y : Operand} {t e : TypeId} {d : TypeDesc} {sz' : Nat} {ag ag' : Bool} [ht : Ty P t (.slice e) sz' ag'] [he : Ty P e d 1 ag] {b m c : Nat} {k : IntKind} {i : Int}
    (ho : o.op = .indexAddr t x y) (hx : ev fs x = some (.slice (some ⟨b, 0, none⟩) m c)) (hy : ev fs y = some (.int k i)) (h0 : 0 ≤ i) (h1 : i < m) : Val P o fs E L (.pointer (some ⟨b, i.toNat, none⟩)) := by
  have := V_idxB (P := P) (E := E) (L := L) (ht := ht) (he := he) ho hx hy h0 h1
  rwa [Nat.mul_one] at this
theorem V_idxB1n {x y : Operand} {t e : TypeId} {d : TypeDesc} {sz' : Nat} {ag ag' : Bool} [ht : Ty P t (.slice e) sz' ag'] [he : Ty P e d 1 ag] {b m c : Nat} {k : IntKind} {i : Nat}
    (ho : o.op = .indexAddr t x y) (hx : ev fs x = some (.slice (some ⟨b, 0, none⟩) m c)) (hy : ev fs y = some (.int k (i : Int))) (h1 : i < m) : Val P o fs E L (.pointer (some ⟨b, i, none⟩)) :=
  V_idxB1 (ht := ht) (he := he) ho hx hy (by omega) (by omega)
/-- A store of one cell anywhere. -/
theorem G_storeB {t : TypeId} {x y : Operand} {b off : Nat} {v : Value} {d : TypeDesc} {TT : TypeId} {l : List Value} {ag : Bool} [ht : Ty P t d 1 ag]
    (ho : o.op = .store t x y) (hx : ev fs x = some (.pointer (some ⟨b, off, none⟩))) (hy : ev fs y = some v) (hc : v.cells = #[v]) (hone : v.oneCell' = true)
    (hd : o.dst = none) (hg : Goes ops fs o) (hu : Upd L (.blk b (.cells l.toArray TT (0, 0))) (.blk b (.cells (l.set off v).toArray TT (0, 0))) L') (hl : off < l.length)
    (h : G n ds fs E L' (wpListIn (Wd ro) 0 P ops Q rest)) : G n ds fs E L (wpListIn (Wd ro) 0 P ops Q (o :: rest)) :=
  G_storeAt ho hx hy hc hone hd hg hu (by simpa using hl) (by simp) h
theorem F_storeB {t : TypeId} {x y : Operand} {b off : Nat} {v : Value} {d : TypeDesc} {TT : TypeId} {l : List Value} {ag : Bool} [ht : Ty P t d 1 ag]
    (h0 : ops[i]? = some o) (ho : o.op = .store t x y) (hx : ev fs x = some (.pointer (some ⟨b, off, none⟩))) (hy : ev fs y = some v) (hc : v.cells = #[v]) (hone : v.oneCell' = true)
    (hd : o.dst = none) (hg : Goes ops fs o) (hu : Upd L (.blk b (.cells l.toArray TT (0, 0))) (.blk b (.cells (l.set off v).toArray TT (0, 0))) L') (hl : off < l.length) (hj : Jok ops i js js' E L')
    (h : GF n ds fs E L' (wpF P ops T (JL js') π)) : GF n ds fs E L (wpF P ops T (JL js) ((i, 4) :: π)) :=
  F_storeAt h0 ho hx hy hc hone hd hg hu (by simpa using hl) (by simp) hj h
/-- An array is shut for good: it is a slice that may be read. -/
theorem G.freezeB {b k sz : Nat} {TT : TypeId} {l : List Value} (d : Del L (.blk b (.cells l.toArray TT (0, 0))) L') (hl : l.length = k * sz) (h : ∀ E', E.Le E' → SlE E' sz (some ⟨b, 0, none⟩) k l → G n ds fs E' L' X) : G n ds fs E L X :=
  G.freeze d fun E' hE hok => h E' hE (SlE.lit hok hl)

/-! ### The loop over a string -/
theorem G_rangeStr {t : TypeId} {sz : Nat} {ag : Bool} [ht : Ty P t .string sz ag] {x : Operand} {s : List UInt8} {d : Nat} (ho : o.op = .range t x) (hx : ev fs x = some (.string (S s))) (hd : o.dst = some d) (hn : Nat.blt d n = true) (hg : Goes ops fs o)
    (h : ∀ b, G n ds ((d, .pointer (some ⟨b, 0, none⟩)) :: fs) E (.blk b (.stringIter (S s) 0) :: L) (wpListIn (Wd ro) 0 P ops Q rest)) : G n ds fs E L (wpListIn (Wd ro) 0 P ops Q (o :: rest)) :=
  G_any hg (by rw [ho]; intro c h; cases h) fun a w ha hw => by
    have e : (execOp a.eval o).run P w = .ok (.value (.pointer (some ⟨w.heap.size, 0, none⟩))) (w.alloc (.stringIter (S s) 0)) := by
      simp [execOp, ho, ha.eval hx, Instr.range, ht.run, Result.andThen]
    rw [e]
    simp only [Oper.uponIn_value, hd]
    exact h w.heap.size _ _ (ha.put hn _) (hw.alloc _)
/-- The string's end. -/
theorem G_nextStrEnd {x : Operand} {b d pos : Nat} {s : List UInt8} (ho : o.op = .next x true) (hx : ev fs x = some (.pointer (some ⟨b, 0, none⟩))) (hm : Res.blk b (.stringIter (S s) pos) ∈ L) (hp : s.length ≤ pos) (hd : o.dst = some d) (hn : Nat.blt d n = true) (hg : Goes ops fs o)
    (h : G n ds ((d, .tuple #[.bool false]) :: fs) E L (wpListIn (Wd ro) 0 P ops Q rest)) : G n ds fs E L (wpListIn (Wd ro) 0 P ops Q (o :: rest)) :=
  G_any hg (by rw [ho]; intro c h; cases h) fun a w ha hw => by
    have hb : w.heap[b]? = some (.stringIter (S s) pos) := hw.own _ hm
    have hgo : (getObj b).run P w = .ok (.stringIter (S s) pos) w := by simp [getObj, Sem.run, hb]
    have hn' : ¬ pos < (S s).size := by rw [S_size]; omega
    have e : (execOp a.eval o).run P w = .ok (.value (.tuple #[.bool false])) w := by
      simp [execOp, ho, ha.eval hx, Instr.next, hgo, Result.andThen, hn']
    rw [e]
    simp only [Oper.uponIn_value, hd]
    exact h _ _ (ha.put hn _) hw
/-- The next rune of a string: a plain byte, or something that is none. -/
theorem G_nextStr {LL : Nat → List Res} {x : Operand} {b d pos : Nat} {s : List UInt8} (ho : o.op = .next x true) (hx : ev fs x = some (.pointer (some ⟨b, 0, none⟩))) (hp : pos < s.length) (hd : o.dst = some d) (hn : Nat.blt d n = true) (hg : Goes ops fs o)
    (u : ∀ q, Upd L (.blk b (.stringIter (S s) pos)) (.blk b (.stringIter (S s) q)) (LL q))
    (h1 : s[pos].toNat < 128 → G n ds ((d, .tuple #[.bool true, .int .i64 pos, .int .i32 s[pos].toNat]) :: fs) E (LL (pos + 1)) (wpListIn (Wd ro) 0 P ops Q rest))
    (h2 : 128 ≤ s[pos].toNat → ∀ c q, 128 ≤ c → c ≤ 2147483647 → pos < q → G n ds ((d, .tuple #[.bool true, .int .i64 pos, .int .i32 (c : Nat)]) :: fs) E (LL q) (wpListIn (Wd ro) 0 P ops Q rest)) : G n ds fs E L (wpListIn (Wd ro) 0 P ops Q (o :: rest)) :=
  G_any hg (by rw [ho]; intro c h; cases h) fun a w ha hw => by
    have hb : w.heap[b]? = some (.stringIter (S s) pos) := hw.own _ (u 0).mem
    have hgo : (getObj b).run P w = .ok (.stringIter (S s) pos) w := by simp [getObj, Sem.run, hb]
    have hs : ∀ q, (setObj b (.stringIter (S s) q)).run P w = .ok () (w.putObj b (.stringIter (S s) q)) := fun q => by simp [setObj, Sem.run, hb, World.putObj]
    have hps : pos < (S s).size := by rw [S_size]; exact hp
    have e : (execOp a.eval o).run P w = .ok (.value (.tuple #[.bool true, .int .i64 pos, .int .i32 ((Utf8.decode (S s) pos).1 : Nat)])) (w.putObj b (.stringIter (S s) (pos + (Utf8.decode (S s) pos).2))) := by
      simp [execOp, ho, ha.eval hx, Instr.next, hgo, Result.andThen, hps, hs, goInt]
    rw [e]
    simp only [Oper.uponIn_value, hd]
    have hget : ((S s)[pos]'hps) = s[pos] := by simp [S, ByteArray.getElem_eq_getElem_data]; rfl
    by_cases hlt : s[pos].toNat < 128
    · have hdec := decode_ascii (S s) pos hps (by rw [hget]; exact hlt)
      rw [hget] at hdec
      rw [hdec]
      exact h1 hlt _ _ (ha.put hn _) (hw.put (u _))
    · have hdec := decode_high (S s) pos hps (by rw [hget]; omega)
      exact h2 (by omega) _ _ hdec.1 (decode_le (S s) pos) (by omega) _ _ (ha.put hn _) (hw.put (u _))
end rules
end Go.Proofs.YtaibabmladgldaaGreatDoor
set_option linter.unusedSimpArgs false
set_option linter.unusedVariables false
set_option linter.unusedSectionVars false
namespace Go.Proofs.YtaibabmladgldaaGreatDoor
open Go.RowKit

section rules
variable {P : Program} {ro : Option Nat} {n : Nat} {ds : List Deferred} {fs : List (Nat × Value)} {E : Env} {L L' : List Res} {ops : Array Oper} {Q : Exit → Act → World → Prop} {o : Oper} {rest : List Oper} {X : Act → World → Prop}

theorem V_buildArr {t e : TypeId} {m sz szt : Nat} {ag ag' : Bool} {td : TypeDesc} [ht : Ty P t (.array m e) szt ag] [he : Ty P e td sz ag'] {zc : List Value} [hz : Zero P t (.agg zc.toArray) zc.toArray] {ps : List (Nat × Operand)} {vs : List (Nat × Value)} {cells : List Value} (ho : o.op = .build t ps.toArray)
    (hx : evps fs ps = some vs) (hf : fillS sz zc vs = some cells) : Val P o fs E L (.agg cells.toArray) :=
  ⟨(by rw [ho]; intro c h; cases h), fun n ds a w ha _ => by
    have e1 := evps_eval ha ps vs hx
    have e2 := fillS_of vs zc cells hf
    have e3 : ((ps.toArray.map fun (i, x) => (i, a.eval x)) : Array (Nat × Value)) = vs.toArray := by
      rw [← e1]; simp
    simp only [execOp, ho, e3]
    simp only [Instr.build, Sem.run_bind, hz.zv, Result.andThen, ht.run, he.size, hz.zc, e2, Sem.run_pure]⟩
/-- An array in memory, sliced whole. -/
theorem V_slArr {t e : TypeId} {m sz szt : Nat} {ag ag' : Bool} {td : TypeDesc} [ht : Ty P t (.array m e) szt ag] [he : Ty P e td sz ag'] {x : Operand} {p : Addr}
    (ho : o.op = .slice t x none none none) (hx : ev fs x = some (.pointer (some p))) : Val P o fs E L (.slice (some p) m m) :=
  ⟨(by rw [ho]; intro c h; cases h), fun n ds a w ha _ => by
    have : p.add 0 = p := by simp [Addr.add]
    simp [execOp, ho, ha.eval hx, Instr.sliceAt, Instr.sureAddr, Instr.sliceBounds, ht.run, he.size, Result.andThen, this]⟩
/-- An element of an array that is a value. -/
theorem V_idxArr {t e : TypeId} {m szt : Nat} {ag : Bool} {td : TypeDesc} [ht : Ty P t (.array m e) szt ag] [he : Ty P e td 1 false] {x y : Operand} {cs : List Value} {k : IntKind} {i : Int} {v : Value}
    (ho : o.op = .index t x y) (hx : ev fs x = some (.agg cs.toArray)) (hy : ev fs y = some (.int k i)) (h0 : 0 ≤ i) (h1 : i < m) (hv : cs[i.toNat]? = some v) : Val P o fs E L v :=
  ⟨(by rw [ho]; intro c h; cases h), fun n ds a w ha _ => by
    simp [execOp, ho, ha.eval hx, ha.eval hy, Instr.index, asIntOf, h0, h1, ht.run, he.size, part, he.agg', Result.andThen, hv]⟩
/-- The place of an element of an array in memory. -/
theorem V_idxAddrArr {x y : Operand} {t e : TypeId} {d : TypeDesc} {m sz sz' : Nat} {ag ag' : Bool} [ht : Ty P t (.array m e) sz' ag'] [he : Ty P e d sz ag] {b off : Nat} {k : IntKind} {i : Int}
    (ho : o.op = .indexAddr t x y) (hx : ev fs x = some (.pointer (some ⟨b, off, none⟩))) (hy : ev fs y = some (.int k i)) (h0 : 0 ≤ i) (h1 : i < m) : Val P o fs E L (.pointer (some ⟨b, off + i.toNat * sz, none⟩)) :=
  ⟨(by rw [ho]; intro c h; cases h), fun n ds a' w ha hw => by
    have hl : i.toNat < m := by omega
    have hni : ¬ i < 0 := by omega
    have e2 := addr_add b off (i.toNat * sz)
    simp [execOp, ho, ha.eval hx, ha.eval hy, Instr.indexAt, Instr.sureAddr, asIntOf, ht.run, he.size, Result.andThen, h0, h1, e2]⟩
end rules
end Go.Proofs.YtaibabmladgldaaGreatDoor
set_option linter.unusedSimpArgs false
set_option linter.unusedVariables false
set_option linter.unusedSectionVars false
namespace Go.Proofs.YtaibabmladgldaaGreatDoor
open Go.RowKit

theorem St.conv {E : Env} {L : List Res} {r r' : Res} {w : World} (h : St E (r :: L) w) (hi : r'.ids = r.ids) (hok : r'.ok (fun b => w.heap[b]?)) : St E (r' :: L) w :=
  ⟨h.env, fun x hx => by rcases List.mem_cons.1 hx with rfl | hx; exact hok; exact h.own x (.tail _ hx), by simpa [hi] using h.nodup, fun b hb => h.apart b (by simpa [hi] using hb), h.os, h.out, h.tape⟩

theorem slOk.fresh {w : World} {e : TypeId} {sz k c : Nat} {xs r : List Value} (hl : xs.length = k * sz) (hk : k ≤ c) (hc : c ≤ maxLen) (hr : r.length = (c - k) * sz) :
    slOk e sz (some ⟨w.heap.size, 0, none⟩) k c xs (fun b => (w.alloc (.cells (xs ++ r).toArray e)).heap[b]?) :=
  ⟨hl, .inr ⟨w.heap.size, _, rfl, World.alloc_heap_new w _, hk, hc, by simp only [List.size_toArray, List.length_append, hl, hr, ← Nat.add_mul]; congr 1; omega, by simp [← hl]⟩⟩

theorem run_append_own2 {P : Program} {w : World} {t ty e : TypeId} {z : Value} {sz bytes : Nat} (ht : P.underlying t = some (.slice e)) (hi : Inf P e z sz bytes)
    {g k cap : Nat} {xs : List Value} (hok : slOk e sz (some ⟨g, 0, none⟩) k cap xs (fun b => w.heap[b]?)) {a2 : Option Addr} {m c : Nat} {ys : List Value} (hl : ys.length = m * sz)
    (hy : (a2 = none ∧ m = 0) ∨ ∃ p, a2 = some p ∧ ∀ j v, ys[j]? = some v → w.cell? (p.add j) = some v) (h1 : ∀ v, v ∈ ys → v.oneCell' = true) (hb : (k + m) * bytes ≤ 140737488355328) (h63 : k + m ≤ 9223372036854775807) :
    (∃ c' w', (Builtin.append_ #[t, t] ty #[.slice (some ⟨g, 0, none⟩) k cap, .slice a2 m c]).run P w = .ok (.slice (some ⟨g, 0, none⟩) (k + m) c') w' ∧ slOk e sz (some ⟨g, 0, none⟩) (k + m) c' (xs ++ ys) (fun b => w'.heap[b]?) ∧ c' = cap ∧
      w.heap.size ≤ w'.heap.size ∧ w'.os = w.os ∧ w'.output = w.output ∧ w'.tape = w.tape ∧ (∀ b, b ≠ g → b < w.heap.size → w'.heap[b]? = w.heap[b]?)) ∨
    (∃ c' o, (Builtin.append_ #[t, t] ty #[.slice (some ⟨g, 0, none⟩) k cap, .slice a2 m c]).run P w = .ok (.slice (some ⟨w.heap.size, 0, none⟩) (k + m) c') (w.drew.alloc o) ∧
      slOk e sz (some ⟨w.heap.size, 0, none⟩) (k + m) c' (xs ++ ys) (fun b => (w.drew.alloc o).heap[b]?)) := by
  obtain ⟨i, hi1, hi2, rfl, rfl, hi5⟩ := hi.inf
  have hok0 := hok
  obtain ⟨hl0, h | ⟨g', cur, hg', hg, hnc, hcm, hcs, htake⟩⟩ := hok
  · cases h.1
  cases hg'
  have hlen : (xs ++ ys).length = (k + m) * i.size := by rw [List.length_append, hl0, hl, Nat.add_mul]
  rcases hy with ⟨rfl, rfl⟩ | ⟨p, rfl, hy⟩
  · have hys : ys = [] := List.eq_nil_of_length_eq_zero (by simpa using hl)
    subst hys
    refine .inl ⟨cap, w, ?_, by simpa using hok0, rfl, Nat.le_refl _, rfl, rfl, rfl, fun _ _ _ => rfl⟩
    have := run_append_sl0 (P := P) (w := w) (t := t) (ty := ty) (c := c) ht hi hok0
    simpa using this
  · by_cases hroom : k + m ≤ cap
    · left
      have hfit : k * i.size + ys.length ≤ cur.size := by rw [hl, hcs, ← Nat.add_mul]; exact Nat.mul_le_mul_right _ hroom
      have hr := run_append_room (P := P) w t ty e i ht hi1 g k cap cur hg p m c ys hl hy h1 hroom hfit
      refine ⟨cap, _, hr, ⟨hlen, .inr ⟨g, _, rfl, setRow_heap w g cur _ e _ hg, hroom, hcm, ?_, ?_⟩⟩, rfl, by simp, rfl, rfl, rfl, fun b hne _ => setRow_other w g b _ hne⟩
      · simp only [List.size_toArray, List.length_append, List.length_take, List.length_drop, Array.length_toList]
        omega
      · rw [htake, ← hlen]
        exact List.take_left
    · right
      have holds : ∀ j u, xs[j]? = some u → w.cell? ((⟨g, 0, none⟩ : Addr).add j) = some u := hok0.owns.cells (g := g) rfl
      have hr := run_append_grow (P := P) w t ty e i z ht hi1 hi2 ⟨g, 0, none⟩ k cap xs hl0 holds p m c ys hl hy (by omega) (by omega) (growslice_fits (by omega) hb)
      have hge := grownCap_ge w (k + m) cap e
      refine ⟨_, _, hr, ⟨hlen, .inr ⟨_, _, rfl, World.alloc_heap_new w.drew _, hge, grownCap_le_maxLen w (k + m) cap e (by simp only [maxLen]; omega), ?_, ?_⟩⟩⟩
      · simp only [Array.size_append, List.size_toArray, size_zeroCells, hi5, hl0, hl, ← Nat.add_mul]
        congr 1
        omega
      · simp only [Array.toList_append, List.append_assoc]
        rw [← List.append_assoc, ← hlen]
        exact List.take_left
section
variable {P : Program} {ro : Option Nat} {n : Nat} {ds : List Deferred} {fs : List (Nat × Value)} {E : Env} {L : List Res} {ops : Array Oper} {T : Act → Fam → Prop} {π : List (Nat × Nat)} {i : Nat} {o : Oper} {J : Nat → World → Prop}
/-- The empty slice written out, in a region that draws its order. -/
theorem F_lit0Z {t e : TypeId} {td : TypeDesc} {sz sz' : Nat} {ag ag' : Bool} [ht : Ty P t (.slice e) sz' ag'] [he : Ty P e td sz ag] {z : Value} {zc : Array Value} [hz : Zero P e z zc] {d : Nat}
    (h0 : ops[i]? = some o) (ho : o.op = .buildSlice t 0 #[]) (hd : o.dst = some d) (hn : Nat.blt d n = true) (hg : Goes ops fs o)
    (h : ∀ b E', E.Le E' → SlE E' sz (some ⟨b, 0, none⟩) 0 [] → GF n ds ((d, .slice (some ⟨b, 0, none⟩) 0 0) :: fs) E' L (wpF P ops T J π)) : GF n ds fs E L (wpF P ops T J ((i, 2) :: π)) :=
  F_mk (val := fun b => .slice (some ⟨b, 0, none⟩) 0 0) (obj := .cells #[] e) h0 (fun a ha w => by
    simp [execOp, ho, Instr.buildSlice, ht.run, he.size, hz.zv, hz.zc, Result.andThen, newRow]
    rw [show Array.range 0 = #[] by decide]
    simp [Instr.fill]) hd hn hg fun b hb => by
    have := h b (E.blk b (.cells #[] e)) (Env.blk_le hb) ⟨by simp, .inr ⟨_, rfl, .inr rfl, fun j v hj => by simp at hj⟩⟩
    unfold GF at this ⊢
    rw [Fam.shut hb]
    exact this
/-- append onto a full slice; what comes out is the call's own. -/
theorem F_appendO {s x : Operand} {t e : TypeId} {d : Nat} {sz' : Nat} {ag' : Bool} {z : Value} {sz bytes : Nat} [ht : Ty P t (.slice e) sz' ag'] [hi : Inf P e z sz bytes] {a a2 : Option Addr} {k m c2 : Nat} {xs ys : List Value}
    (h0 : ops[i]? = some o) (ho : o.op = .call { callee := .builtin .append, args := #[s, x], argTypes := #[t, t] }) (hs : ev fs s = some (.slice a k k)) (hx : ev fs x = some (.slice a2 m c2)) (hr1 : SlE E sz a k xs) (hr2 : SlE E sz a2 m ys)
    (hm : 0 < m) (hb : (k + m) * bytes ≤ 140737488355328) (h63 : k + m ≤ 9223372036854775807) (hd : o.dst = some d) (hn : Nat.blt d n = true) (hg : Goes ops fs o)
    (h : ∀ b c', GF n ds ((d, .slice (some ⟨b, 0, none⟩) (k + m) c') :: fs) E (.sl e sz (some ⟨b, 0, none⟩) (k + m) c' (xs ++ ys) :: L) (wpF P ops T J π)) : GF n ds fs E L (wpF P ops T J ((i, 3) :: π)) := fun a0 ha =>
  ⟨o, h0, by
    rw [if_pos (hg.wanted ha)]
    intro M w hw
    obtain ⟨p, rfl, hy⟩ : ∃ p, a2 = some p ∧ ∀ j v, ys[j]? = some v → w.cell? (p.add j) = some v := by
      rcases hr2.2 with ⟨_, h3⟩ | ⟨p, h3, _, h5⟩
      · omega
      · exact ⟨p, h3, fun j v hj => Env.cell_st (h5 j v hj) hw⟩
    obtain ⟨i', hi1, hi2, rfl, rfl, hi5⟩ := hi.inf
    have key : ∃ c', k + m ≤ c' ∧ c' ≤ maxLen ∧ (Builtin.append_ #[t, t] o.type #[.slice a k k, .slice (some p) m c2]).run P w = .ok (.slice (some ⟨w.heap.size, 0, none⟩) (k + m) c') (w.drew.alloc (.cells ((xs ++ ys) ++ (Builtin.zeroCells z.cells (c' - (k + m))).toList).toArray e)) := by
      rcases hr1.2 with ⟨rfl, rfl⟩ | ⟨q, rfl, _, hq⟩
      · have hx0 : xs = [] := List.eq_nil_of_length_eq_zero (by simpa using hr1.1)
        subst hx0
        have hr := run_append_nil (P := P) w t o.type e i' z ht.und hi1 hi2 p m c2 ys hr2.1 hy (by omega) (by omega) (by simp only [Nat.zero_add] at hb; omega)
        have hge := grownCap_ge w m 0 e
        refine ⟨grownCap w m 0 e, by omega, grownCap_le_maxLen w m 0 e (by simp only [maxLen]; omega), ?_⟩
        rw [hr]
        simp
        congr 2
        apply Array.ext'
        simp
      · have hr := run_append_grow (P := P) w t o.type e i' z ht.und hi1 hi2 q k k xs hr1.1 (fun j v hj => Env.cell_st (hq j v hj) hw) p m c2 ys hr2.1 hy (by omega) (by omega) (growslice_fits (by omega) hb)
        have hge := grownCap_ge w (k + m) k e
        refine ⟨grownCap w (k + m) k e, hge, grownCap_le_maxLen w (k + m) k e (by simp only [maxLen]; omega), ?_⟩
        rw [hr]
        simp
        congr 2
        apply Array.ext'
        simp
    obtain ⟨c', hc1, hc2, hrun⟩ := key
    unfold Steps
    have e1 : (execOp a0.eval o).run P w = .ok (.value (.slice (some ⟨w.heap.size, 0, none⟩) (k + m) c')) (w.drew.alloc (.cells ((xs ++ ys) ++ (Builtin.zeroCells z.cells (c' - (k + m))).toList).toArray e)) := by
      simp only [execOp, ho, resolve, invoke, builtin, ha.eval hs, ha.eval hx, hrun, Result.andThen, Sem.run_bind, Sem.run_pure, List.map_toArray, List.map_cons, List.map_nil]
    rw [e1]
    have s1 := (hw.drew (w.drawn + 1)).alloc (.cells ((xs ++ ys) ++ (Builtin.zeroCells z.cells (c' - (k + m))).toList).toArray e)
    have hok := slOk.fresh (w := w.drew) (e := e) (sz := i'.size) (k := k + m) (c := c') (xs := xs ++ ys) (r := (Builtin.zeroCells z.cells (c' - (k + m))).toList) (by rw [List.length_append, hr1.1, hr2.1, Nat.add_mul]) hc1 hc2 (by simp [size_zeroCells, hi5])
    have s2 : St E (.sl e i'.size (some ⟨w.heap.size, 0, none⟩) (k + m) c' (xs ++ ys) :: (M ++ L)) (w.drew.alloc (.cells ((xs ++ ys) ++ (Builtin.zeroCells z.cells (c' - (k + m))).toList).toArray e)) := s1.conv rfl hok
    refine ⟨Fam.st E (.sl e i'.size (some ⟨w.heap.size, 0, none⟩) (k + m) c' (xs ++ ys) :: L), fun w' ⟨M', h'⟩ => ⟨M' ++ [_], by show St E ((M' ++ [_]) ++ L) w'; rw [List.append_assoc]; exact h'⟩, s2.perm List.perm_middle.symm, ?_⟩
    rw [hd]
    exact h _ c' _ (ha.put hn _)⟩
/-- append onto a slice of the call's own; where it does not grow it is the same block. -/
theorem F_append2 {s x : Operand} {t e : TypeId} {d : Nat} {sz' : Nat} {ag' : Bool} {z : Value} {sz bytes : Nat} [ht : Ty P t (.slice e) sz' ag'] [hi : Inf P e z sz bytes] {g : Nat} {a2 : Option Addr} {k cap m c2 : Nat} {xs ys : List Value} {L' : Nat → Nat → List Res}
    (h0 : ops[i]? = some o) (ho : o.op = .call { callee := .builtin .append, args := #[s, x], argTypes := #[t, t] }) (hs : ev fs s = some (.slice (some ⟨g, 0, none⟩) k cap)) (hx : ev fs x = some (.slice a2 m c2)) (hr2 : SlE E sz a2 m ys) (h1 : ∀ v, v ∈ ys → v.oneCell' = true)
    (hb : (k + m) * bytes ≤ 140737488355328) (h63 : k + m ≤ 9223372036854775807) (hd : o.dst = some d) (hn : Nat.blt d n = true) (hg : Goes ops fs o)
    (u : ∀ b' c', Upd L (.sl e sz (some ⟨g, 0, none⟩) k cap xs) (.sl e sz (some ⟨b', 0, none⟩) (k + m) c' (xs ++ ys)) (L' b' c'))
    (h : ∀ b c' N, GF n ds ((d, .slice (some ⟨b, 0, none⟩) (k + m) c') :: fs) E (L' b c' ++ N) (wpF P ops T J π)) : GF n ds fs E L (wpF P ops T J ((i, 3) :: π)) := fun a0 ha =>
  ⟨o, h0, by
    rw [if_pos (hg.wanted ha)]
    intro M w hw
    have hok : slOk e sz (some ⟨g, 0, none⟩) k cap xs (fun b => w.heap[b]?) := hw.own _ (List.mem_append.2 (.inr (u g cap).mem))
    have hy : (a2 = none ∧ m = 0) ∨ ∃ p, a2 = some p ∧ ∀ j v, ys[j]? = some v → w.cell? (p.add j) = some v := by
      rcases hr2.2 with h3 | ⟨p, h3, _, h5⟩
      · exact .inl h3
      · exact .inr ⟨p, h3, fun j v hj => Env.cell_st (h5 j v hj) hw⟩
    have hruns := run_append_own2 (P := P) (w := w) (ty := o.type) ht.und hi hok (c := c2) hr2.1 hy h1 hb h63
    have hmap : ∀ (r : Value) w', (Builtin.append_ #[t, t] o.type #[.slice (some ⟨g, 0, none⟩) k cap, .slice a2 m c2]).run P w = .ok r w' → (execOp a0.eval o).run P w = .ok (.value r) w' := fun r w' hrun => by
      simp [execOp, ho, resolve, invoke, builtin, ha.eval hs, ha.eval hx, hrun, Result.andThen]
    unfold Steps
    rcases hruns with ⟨c', w', hrun, hok', rfl, hsz, hos, hout, htape, hkeep⟩ | ⟨c', ob, hrun, hok'⟩
    · rw [hmap _ _ hrun]
      obtain ⟨M1, p1, p2⟩ := (u g c').perm
      have hback : ∀ h, slOk e sz (some ⟨g, 0, none⟩) (k + m) c' (xs ++ ys) h → slOk e sz (some ⟨g, 0, none⟩) k c' xs h := by
        rintro hh ⟨q1, q2 | ⟨g', cur, q2, q3, q4, q5, q6, q7⟩⟩
        · cases q2.1
        · cases q2
          refine ⟨hok.1, .inr ⟨g, cur, rfl, q3, by omega, q5, q6, ?_⟩⟩
          have : (cur.toList.take ((k + m) * sz)).take (k * sz) = (xs ++ ys).take (k * sz) := by rw [q7]
          rw [List.take_take, Nat.min_eq_left (Nat.mul_le_mul_right _ (by omega)), ← hok.1, List.take_left] at this
          rw [← hok.1]; exact this
      refine ⟨Fam.st E (L' g c'), fun w2 ⟨M', h'⟩ => ⟨M', ?_⟩, ?_, ?_⟩
      · have h2 : St E (.sl e sz (some ⟨g, 0, none⟩) (k + m) c' (xs ++ ys) :: (M' ++ M1)) w2 := h'.perm ((p2.append_left M').trans List.perm_middle)
        have h3 : St E (.sl e sz (some ⟨g, 0, none⟩) k c' xs :: (M' ++ M1)) w2 := h2.conv rfl (hback _ (h2.own _ (.head _)))
        exact h3.perm (List.perm_middle.symm.trans (p1.symm.append_left M'))
      · refine hw.update (Upd.app M (u g c')) hsz (fun b hb' hlt => hkeep b (fun he => hb' (by simp [Res.sl, he])) hlt) hok' (fun b hb' => ?_) (by simp [Res.sl]) hos hout htape
        simp only [Res.sl, Option.map_some, Option.toList_some, List.mem_singleton] at hb' ⊢
        subst hb'
        refine .inl ⟨rfl, ?_⟩
        obtain ⟨_, q | ⟨g', cur, q2, q3, _⟩⟩ := hok'
        · cases q.1
        · cases q2; exact (Array.getElem?_eq_some_iff.1 q3).1
      · rw [hd]
        have := h g c' [] _ (ha.put hn _)
        rwa [List.append_nil] at this
    · rw [hmap _ _ hrun]
      obtain ⟨M1, p1, p2⟩ := (u w.heap.size c').perm
      have s1 := (hw.drew (w.drawn + 1)).alloc ob
      have s2 : St E (.sl e sz (some ⟨w.heap.size, 0, none⟩) (k + m) c' (xs ++ ys) :: (M ++ L)) (w.drew.alloc ob) := s1.conv rfl hok'
      refine ⟨Fam.st E (L' w.heap.size c' ++ [.sl e sz (some ⟨g, 0, none⟩) k cap xs]), fun w2 ⟨M', h'⟩ => ⟨.sl e sz (some ⟨w.heap.size, 0, none⟩) (k + m) c' (xs ++ ys) :: M', ?_⟩, ?_, ?_⟩
      · show St E ((_ :: M') ++ L) w2
        refine h'.perm ?_
        refine (((p2.append_right _).append_left M').trans ?_)
        refine List.perm_middle.trans ?_
        refine List.Perm.cons _ (List.Perm.append_left M' ?_)
        exact List.perm_append_comm.trans p1.symm
      · show St E (M ++ (L' w.heap.size c' ++ _)) _
        refine s2.perm ?_
        refine (List.Perm.cons _ (p1.append_left M)).trans ?_
        refine List.perm_middle.symm.trans (List.Perm.append_left M ?_)
        have hq : (.sl e sz (some ⟨w.heap.size, 0, none⟩) (k + m) c' (xs ++ ys) :: .sl e sz (some ⟨g, 0, none⟩) k cap xs :: M1 : List Res).Perm (.sl e sz (some ⟨w.heap.size, 0, none⟩) (k + m) c' (xs ++ ys) :: (M1 ++ [.sl e sz (some ⟨g, 0, none⟩) k cap xs])) := List.Perm.cons _ (List.perm_append_comm (l₁ := [_]) (l₂ := M1))
        exact hq.trans (p2.symm.append_right _)
      · rw [hd]
        exact h _ c' _ _ (ha.put hn _)⟩
end
section
variable {P : Program} {ro : Option Nat} {n : Nat} {ds : List Deferred} {fs : List (Nat × Value)} {E : Env} {L : List Res} {ops : Array Oper} {Q : Exit → Act → World → Prop} {rest : List Oper} {o : Oper}
/-- append onto a full slice, in order; it may be that nothing is added. -/
theorem G_appendZ {s x : Operand} {t e : TypeId} {d : Nat} {sz' : Nat} {ag' : Bool} {z : Value} {sz bytes : Nat} [ht : Ty P t (.slice e) sz' ag'] [hi : Inf P e z sz bytes] {a a2 : Option Addr} {k m c2 : Nat} {xs ys : List Value}
    (ho : o.op = .call { callee := .builtin .append, args := #[s, x], argTypes := #[t, t] }) (hs : ev fs s = some (.slice a k k)) (hx : ev fs x = some (.slice a2 m c2)) (hr1 : SlE E sz a k xs) (hr2 : SlE E sz a2 m ys)
    (hb : (k + m) * bytes ≤ 140737488355328) (h63 : k + m ≤ 9223372036854775807) (hd : o.dst = some d) (hn : Nat.blt d n = true) (hg : Goes ops fs o)
    (h : ∀ a' c' E', E.Le E' → SlE E' sz a' (k + m) (xs ++ ys) → k + m ≤ c' → G n ds ((d, .slice a' (k + m) c') :: fs) E' L (wpListIn (Wd ro) 0 P ops Q rest)) : G n ds fs E L (wpListIn (Wd ro) 0 P ops Q (o :: rest)) :=
  G_any hg (by rw [ho]; intro c h; cases h) fun a0 w ha hw => by
    by_cases hm : m = 0
    · subst hm
      have hys : ys = [] := List.eq_nil_of_length_eq_zero (by simpa using hr2.1)
      subst hys
      obtain ⟨i, hi1, hi2, rfl, rfl, hi5⟩ := hi.inf
      have hrun : (Builtin.append_ #[t, t] o.type #[.slice a k k, .slice a2 0 c2]).run P w = .ok (.slice a k k) w := by
        rcases hr1.2 with ⟨rfl, rfl⟩ | ⟨q, rfl, _, _⟩ <;> rcases hr2.2 with ⟨rfl, _⟩ | ⟨q2, rfl, _, _⟩ <;>
          simp [Builtin.append_, run_underlying ht.und, sizeOf, typeInfo, hi1, Builtin.lenOf, Builtin.firstCells, storeCells, loadCells, loadCellsFrom, Result.andThen]
      have e1 : (execOp a0.eval o).run P w = .ok (.value (.slice a k k)) w := by
        simp [execOp, ho, resolve, invoke, builtin, ha.eval hs, ha.eval hx, hrun, Result.andThen]
      rw [e1]
      simp only [Oper.uponIn_value, hd]
      exact h a k E (.refl _) (by simpa using hr1) (Nat.le_refl _) _ _ (ha.put hn _) hw
    · have q1 : ∃ p, a2 = some p ∧ ∀ j v, ys[j]? = some v → w.cell? (p.add j) = some v := by
        rcases hr2.2 with ⟨_, h3⟩ | ⟨p, h3, _, h5⟩
        · omega
        · exact ⟨p, h3, fun j v hj => Env.cell_st (h5 j v hj) hw⟩
      obtain ⟨p, rfl, hy⟩ := q1
      have q2 : (a = none ∧ k = 0) ∨ ∃ p, a = some p ∧ ∀ j v, xs[j]? = some v → w.cell? (p.add j) = some v := by
        rcases hr1.2 with h3 | ⟨p, h3, _, h5⟩
        · exact .inl h3
        · exact .inr ⟨p, h3, fun j v hj => Env.cell_st (h5 j v hj) hw⟩
      obtain ⟨c', r, hc', hrun⟩ := run_append_fresh (P := P) (w := w) (ty := o.type) ht.und hi hr1.1 q2 (c := c2) hr2.1 hy (by omega) hb h63
      have e1 : (execOp a0.eval o).run P w = .ok (.value (.slice (some ⟨w.heap.size, 0, none⟩) (k + m) c')) (w.drew.alloc (.cells ((xs ++ ys).toArray ++ r) e)) := by
        simp [execOp, ho, resolve, invoke, builtin, ha.eval hs, ha.eval hx, hrun, Result.andThen]
      rw [e1]
      simp only [Oper.uponIn_value, hd]
      have s1 := (hw.drew (w.drawn + 1)).alloc (.cells ((xs ++ ys).toArray ++ r) e)
      obtain ⟨E', g1, g2, g3⟩ := s1.freeze
      have g4 : SlE E' sz (some ⟨w.heap.size, 0, none⟩) (k + m) (xs ++ ys) := SlE.pre (r := r.toList) (T := e) (fz := (0, 0)) (by simpa using g3) (by rw [List.length_append, hr1.1, hr2.1, Nat.add_mul])
      exact h _ c' E' g1 g4 hc' _ _ (ha.put hn _) g2
end
end Go.Proofs.YtaibabmladgldaaGreatDoor
set_option linter.unusedSimpArgs false
set_option linter.unusedVariables false
set_option linter.unusedSectionVars false
namespace Go.Proofs.YtaibabmladgldaaGreatDoor
open Go.RowKit
section
variable {P : Program} {ro : Option Nat} {n : Nat} {ds : List Deferred} {fs : List (Nat × Value)} {E : Env} {L : List Res} {ops : Array Oper} {T : Act → Fam → Prop} {π : List (Nat × Nat)} {i : Nat} {o : Oper} {J : Nat → World → Prop}
end
section
variable {P : Program} {fs : List (Nat × Value)} {E E0 : Env} {L : List Res} {o : Oper}
theorem V_fieldAddrX {t ft : TypeId} {x : Operand} {i off sz' : Nat} {d : TypeDesc} {sz : Nat} {ag : Bool} [hf : Fld P t i off ft] [hft : Ty P ft d sz ag] {a : Option Addr} {k m : Nat} {vals : List Value} (ho : o.op = .fieldAddr t x i) (hx : ev fs x = some (.pointer (some (elemAt a k)))) (hr : SlE E0 sz' a m vals) (hm : 0 < m) (hs : sz ≠ 0) :
    Val P o fs E L (.pointer (some (elemAt a (k + off)))) := by
  rcases hr.2 with ⟨_, h0⟩ | ⟨⟨b, o', sp⟩, rfl, h1, _⟩
  · omega
  · rcases h1 with h1 | h1
    · simp only at h1
      subst h1
      have e1 : elemAt (some ⟨b, o', none⟩) k = ⟨b, o' + k, none⟩ := addr_add b o' k
      have e2 : elemAt (some ⟨b, o', none⟩) (k + off) = ⟨b, o' + k + off, none⟩ := by rw [elemAt, Option.getD_some, addr_add, Nat.add_assoc]
      rw [e1] at hx
      rw [e2]
      exact V_fieldAddr ho hx hs
    · omega
end
end Go.Proofs.YtaibabmladgldaaGreatDoor
namespace Go.Proofs.YtaibabmladgldaaGreatDoor
open Go.RowKit
section rules
variable {P : Program} {fs : List (Nat × Value)} {E : Env} {L : List Res} {o : Oper}
end rules
end Go.Proofs.YtaibabmladgldaaGreatDoor
namespace Go.Proofs.YtaibabmladgldaaGreatDoor
open Go.RowKit
end Go.Proofs.YtaibabmladgldaaGreatDoor
