/-
  Rules and contracts, packed: Sep1, Sep2, Sep3, Sep4, Sep5, Sep6, Sep7, Sep8, Sep9, Sep10.
-/
import Derived.WalkKit
import Derived.OwnWalkIn
import Derived.TacticsInMore
import Derived.RangeFuncIn
import Derived.RangeFuncLeaves
import Derived.RangeFuncRecord
import Derived.RangeFuncStops
import Derived.Deep.Quiet
import Derived.Shelf.Abstract
import Derived.LoopNIn
import Derived.Scope
import Derived.OrdersIn
import Derived.Laws.AppendOwn
import Derived.Laws.OwnMore
import Derived.StillTail
import Derived.Below
set_option maxHeartbeats 1000000
namespace Go.Proofs.YtjhehanknkonnaaGreatDoor
open Go.RowKit

theorem beq_ne {i j : Nat} (h : i ≠ j) : Nat.beq i j = false := by
  cases e : Nat.beq i j with
  | false => rfl
  | true => exact absurd (Nat.eq_of_beq_eq_true e) h

/-! ### Memory -/

/-- What is known of memory for good: blocks that nobody writes any more, and what does not turn. -/
structure Env where
  heap : Nat → Option Obj
  os : Os
  output : Array (Nat × ByteArray)
  tape : Nat → Question → Nat

def Env.Le (E E' : Env) : Prop := (∀ b o, E.heap b = some o → E'.heap b = some o) ∧ E'.os = E.os ∧ E'.output = E.output ∧ E'.tape = E.tape

theorem Env.Le.refl (E : Env) : E.Le E := ⟨fun _ _ h => h, rfl, rfl, rfl⟩
theorem Env.Le.trans {A B C : Env} (h : A.Le B) (k : B.Le C) : A.Le C :=
  ⟨fun b o x => k.1 b o (h.1 b o x), k.2.1.trans h.2.1, k.2.2.1.trans h.2.2.1, k.2.2.2.trans h.2.2.2⟩

/-- A piece of memory that is owned: which blocks, and what holds of them. -/
structure Res where
  ids : List Nat
  ok : (Nat → Option Obj) → Prop
  loc : ∀ h h', (∀ b, b ∈ ids → h b = h' b) → ok h → ok h'

/-- A block that is known whole. -/
def Res.blk (b : Nat) (o : Obj) : Res := ⟨[b], fun h => h b = some o, fun h h' e k => by rw [← e b (by simp)]; exact k⟩

/-- What memory is, beside the owned pieces: E's blocks as they were. -/
structure St (E : Env) (L : List Res) (w : World) : Prop where
  env : ∀ b o, E.heap b = some o → w.heap[b]? = some o
  own : ∀ r, r ∈ L → r.ok (fun b => w.heap[b]?)
  nodup : (L.flatMap Res.ids).Nodup
  apart : ∀ b, b ∈ L.flatMap Res.ids → E.heap b = none ∧ b < w.heap.size
  os : w.os = E.os
  out : w.output = E.output
  tape : w.tape = E.tape

theorem St.perm {E : Env} {L L' : List Res} {w : World} (h : St E L w) (p : L.Perm L') : St E L' w :=
  ⟨h.env, fun r hr => h.own r (p.mem_iff.2 hr), (p.flatMap_right _).nodup_iff.1 h.nodup, fun b hb => h.apart b ((p.flatMap_right _).mem_iff.2 hb), h.os, h.out, h.tape⟩

/-- The one start: all of memory is as it is, nothing is owned. -/
def Env.of (w : World) : Env := ⟨fun b => w.heap[b]?, w.os, w.output, w.tape⟩
theorem St.start (w : World) : St (Env.of w) [] w :=
  ⟨fun _ _ h => h, fun r h => by simp at h, by simp, fun b h => by simp at h, rfl, rfl, rfl⟩

theorem St.below {w w' : World} {E : Env} {L : List Res} (hE : (Env.of w).Le E) (h : St E L w') : Below w.heap.size w w' := by
  have hb : ∀ k, k < w.heap.size → w'.heap[k]? = w.heap[k]? := fun k hk => by
    have e : w.heap[k]? = some w.heap[k] := Array.getElem?_eq_getElem hk
    rw [e]; exact h.env k _ (hE.1 k _ e)
  refine ⟨h.os.trans hE.2.1, h.tape.trans hE.2.2.2, h.out.trans hE.2.2.1, ?_, hb⟩
  by_cases hz : w.heap.size = 0
  · rw [hz]; exact Nat.zero_le _
  · have h1 := hb (w.heap.size - 1) (by omega)
    rw [Array.getElem?_eq_getElem (show w.heap.size - 1 < w.heap.size by omega)] at h1
    have := (Array.getElem?_eq_some_iff.1 h1).1
    omega

theorem St.drew {E : Env} {L : List Res} {w : World} (h : St E L w) (n : Nat) : St E L { w with drawn := n } :=
  ⟨h.env, h.own, h.nodup, h.apart, h.os, h.out, h.tape⟩

theorem St.alloc {E : Env} {L : List Res} {w : World} (h : St E L w) (o : Obj) : St E (Res.blk w.heap.size o :: L) (w.alloc o) := by
  have hpush : ∀ b, b < w.heap.size → (w.alloc o).heap[b]? = w.heap[b]? := fun b hb => Below.heap_alloc w o b hb
  refine ⟨fun b o' hb => ?_, fun r hr => ?_, ?_, fun b hb => ?_, h.os, h.out, h.tape⟩
  · have := h.env b o' hb
    rw [hpush b (Array.getElem?_eq_some_iff.1 this).1]; exact this
  · rcases List.mem_cons.1 hr with rfl | hr
    · exact World.alloc_heap_new w o
    · exact r.loc _ _ (fun b hb => (hpush b (h.apart b (List.mem_flatMap.2 ⟨r, hr, hb⟩)).2).symm) (h.own r hr)
  · simp only [List.flatMap_cons, Res.blk, List.singleton_append, List.nodup_cons]
    exact ⟨fun hm => by have := (h.apart _ hm).2; omega, h.nodup⟩
  · simp only [List.flatMap_cons, Res.blk, List.singleton_append, List.mem_cons] at hb
    rcases hb with rfl | hb
    · refine ⟨?_, by simp⟩
      cases hE : E.heap w.heap.size with
      | none => rfl
      | some o' => have := (Array.getElem?_eq_some_iff.1 (h.env _ _ hE)).1; omega
    · exact ⟨(h.apart b hb).1, by have := (h.apart b hb).2; simp; omega⟩

/-- r stands in L; with r' in its place it is L'. -/
inductive Upd : List Res → Res → Res → List Res → Prop
  | head (r r' : Res) (L : List Res) : Upd (r :: L) r r' (r' :: L)
  | tail (x : Res) {L L' : List Res} {r r' : Res} (h : Upd L r r' L') : Upd (x :: L) r r' (x :: L')

theorem Upd.perm {L L' : List Res} {r r' : Res} (u : Upd L r r' L') : ∃ M, L.Perm (r :: M) ∧ L'.Perm (r' :: M) := by
  induction u with
  | head r r' L => exact ⟨L, .refl _, .refl _⟩
  | tail x _ ih =>
    obtain ⟨M, h1, h2⟩ := ih
    exact ⟨x :: M, (h1.cons x).trans (.swap ..), (h2.cons x).trans (.swap ..)⟩

theorem Upd.mem {L L' : List Res} {r r' : Res} (u : Upd L r r' L') : r ∈ L := by
  induction u with
  | head => exact .head _
  | tail x _ ih => exact .tail _ ih

theorem Upd.app (M : List Res) {L L' : List Res} {r r' : Res} (u : Upd L r r' L') : Upd (M ++ L) r r' (M ++ L') := by
  induction M with
  | nil => exact u
  | cons x M ih => exact .tail x ih

/-- A step that turns one owned piece. -/
theorem St.update {E : Env} {L L' : List Res} {w w' : World} {r r' : Res} (h : St E L w) (u : Upd L r r' L') (hsz : w.heap.size ≤ w'.heap.size)
    (hsame : ∀ b, b ∉ r.ids → b < w.heap.size → w'.heap[b]? = w.heap[b]?) (hok : r'.ok (fun b => w'.heap[b]?))
    (hids : ∀ b, b ∈ r'.ids → (b ∈ r.ids ∧ b < w'.heap.size) ∨ (w.heap.size ≤ b ∧ b < w'.heap.size)) (hnd : r'.ids.Nodup)
    (hos : w'.os = w.os) (hout : w'.output = w.output) (htape : w'.tape = w.tape) : St E L' w' := by
  obtain ⟨M, p1, p2⟩ := u.perm
  have h1 := h.perm p1
  refine St.perm (L := r' :: M) ?_ p2.symm
  have hn := h1.nodup
  simp only [List.flatMap_cons] at hn
  obtain ⟨hn1, hn2, hn3⟩ := List.nodup_append.1 hn
  have hM : ∀ b, b ∈ M.flatMap Res.ids → b ∉ r.ids ∧ b < w.heap.size ∧ E.heap b = none := fun b hb =>
    ⟨fun hr => hn3 b hr b hb rfl, (h1.apart b (by simp only [List.flatMap_cons]; exact List.mem_append.2 (.inr hb))).2, (h1.apart b (by simp only [List.flatMap_cons]; exact List.mem_append.2 (.inr hb))).1⟩
  have hEr : ∀ b, b ∈ r.ids → E.heap b = none := fun b hb => (h1.apart b (by simp only [List.flatMap_cons]; exact List.mem_append.2 (.inl hb))).1
  refine ⟨fun b o hb => ?_, fun x hx => ?_, ?_, fun b hb => ?_, hos.trans h.os, hout.trans h.out, htape.trans h.tape⟩
  · have e := h.env b o hb
    rw [hsame b (fun hr => by rw [hEr b hr] at hb; cases hb) (Array.getElem?_eq_some_iff.1 e).1]; exact e
  · rcases List.mem_cons.1 hx with rfl | hx
    · exact hok
    · refine x.loc _ _ (fun b hb => ?_) (h1.own x (.tail _ hx))
      have := hM b (List.mem_flatMap.2 ⟨x, hx, hb⟩)
      exact (hsame b this.1 this.2.1).symm
  · simp only [List.flatMap_cons]
    refine List.nodup_append.2 ⟨hnd, hn2, fun a ha b hb e => ?_⟩
    subst e
    have hb' := hM a hb
    rcases hids a ha with hi | hi
    · exact hb'.1 hi.1
    · omega
  · simp only [List.flatMap_cons] at hb
    rcases List.mem_append.1 hb with hb | hb
    · rcases hids b hb with hi | hi
      · exact ⟨hEr b hi.1, hi.2⟩
      · refine ⟨?_, hi.2⟩
        cases hE : E.heap b with
        | none => rfl
        | some o' => have := (Array.getElem?_eq_some_iff.1 (h.env _ _ hE)).1; omega
    · have := hM b hb
      exact ⟨this.2.2, by omega⟩

/-- An owned block is turned. -/
theorem St.put {E : Env} {L L' : List Res} {w : World} {b : Nat} {o o' : Obj} (h : St E L w) (u : Upd L (.blk b o) (.blk b o') L') : St E L' (w.putObj b o') := by
  have hb : w.heap[b]? = some o := h.own _ u.mem
  have hlt := (Array.getElem?_eq_some_iff.1 hb).1
  refine h.update u (by simp) (fun c hc _ => World.putObj_heap_other (fun e => hc (by subst e; simp [Res.blk]))) (World.putObj_heap_same hlt) (fun c hc => ?_) (by simp [Res.blk]) rfl rfl rfl
  simp only [Res.blk, List.mem_singleton] at hc ⊢
  subst hc
  exact .inl ⟨rfl, by simpa using hlt⟩

/-- What is owned may be let go for good. -/
theorem St.drop {E : Env} {L : List Res} {r : Res} {w : World} (h : St E (r :: L) w) : St E L w := by
  have hn := h.nodup
  simp only [List.flatMap_cons] at hn
  exact ⟨h.env, fun x hx => h.own x (.tail _ hx), (List.nodup_append.1 hn).2.1, fun b hb => h.apart b (by simp only [List.flatMap_cons]; exact List.mem_append.2 (.inr hb)), h.os, h.out, h.tape⟩

theorem St.dropAll {E : Env} {M L : List Res} {w : World} (h : St E (M ++ L) w) : St E L w := by
  induction M with
  | nil => exact h
  | cons r M ih => exact ih h.drop

/-- What is owned may be shut for good: it is E's from now on. -/
noncomputable def Env.add (E : Env) (h : Nat → Option Obj) (ids : List Nat) : Env :=
  open Classical in ⟨fun b => if b ∈ ids then h b else E.heap b, E.os, E.output, E.tape⟩

theorem St.freeze {E : Env} {L : List Res} {r : Res} {w : World} (h : St E (r :: L) w) : ∃ E', E.Le E' ∧ St E' L w ∧ r.ok E'.heap := by
  have hn := h.nodup
  simp only [List.flatMap_cons] at hn
  obtain ⟨_, hn2, hn3⟩ := List.nodup_append.1 hn
  have hr : ∀ b, b ∈ r.ids → E.heap b = none := fun b hb => (h.apart b (by simp only [List.flatMap_cons]; exact List.mem_append.2 (.inl hb))).1
  refine ⟨E.add (fun b => w.heap[b]?) r.ids, ⟨fun b o hb => ?_, rfl, rfl, rfl⟩, ⟨fun b o hb => ?_, fun x hx => h.own x (.tail _ hx), hn2, fun b hb => ?_, h.os, h.out, h.tape⟩, ?_⟩
  · simp only [Env.add]
    rw [if_neg (fun hm => by rw [hr b hm] at hb; cases hb)]; exact hb
  · simp only [Env.add] at hb
    split at hb
    · exact hb
    · exact h.env b o hb
  · have h' := h.apart b (by simp only [List.flatMap_cons]; exact List.mem_append.2 (.inr hb))
    refine ⟨?_, h'.2⟩
    simp only [Env.add]
    rw [if_neg (fun hm => hn3 b hm b hb rfl)]; exact h'.1
  · refine r.loc _ _ (fun b hb => ?_) (h.own r (.head _))
    simp only [Env.add, if_pos hb]

inductive Del : List Res → Res → List Res → Prop
  | head (r : Res) (L : List Res) : Del (r :: L) r L
  | tail (x : Res) {L L' : List Res} {r : Res} (h : Del L r L') : Del (x :: L) r (x :: L')
theorem Del.perm {L L' : List Res} {r : Res} (d : Del L r L') : L.Perm (r :: L') := by
  induction d with
  | head r L => exact .refl _
  | tail x _ ih => exact (ih.cons x).trans (.swap ..)
theorem perm3 (a b c : Res) (l : List Res) : (a :: b :: c :: l).Perm (b :: c :: a :: l) := (List.Perm.swap ..).trans (.cons _ (.swap ..))

theorem St.weaken {E E' : Env} {L : List Res} {w : World} (h : St E' L w) (hE : E.Le E') : St E L w :=
  ⟨fun b o hb => h.env b o (hE.1 b o hb), h.own, h.nodup, fun b hb => ⟨(by
    have := (h.apart b hb).1
    cases e : E.heap b with
    | none => rfl
    | some o => rw [hE.1 b o e] at this; cases this), (h.apart b hb).2⟩, h.os.trans hE.2.1, h.out.trans hE.2.2.1, h.tape.trans hE.2.2.2⟩

/-! ### Slots -/

def look : List (Nat × Value) → Nat → Option Value
  | [], _ => none
  | (j, v) :: fs, i => bif Nat.beq j i then some v else look fs i

/-- What is known of a frame. -/
structure Fr (n : Nat) (ds : List Deferred) (fs : List (Nat × Value)) (a : Act) : Prop where
  size : a.tmps.size = n
  defers : a.defers = ds
  get : ∀ i v, look fs i = some v → a.tmps[i]? = some v

def ev (fs : List (Nat × Value)) : Operand → Option Value
  | .tmp t => look fs t
  | .const v => some v
  | .global g => some (.pointer (some ⟨g, 0, none⟩))
  | .func f => some (.func (.func f) #[] #[])

theorem Fr.eval {n : Nat} {ds : List Deferred} {fs : List (Nat × Value)} {a : Act} {x : Operand} {v : Value} (h : Fr n ds fs a) (hx : ev fs x = some v) : a.eval x = v := by
  cases x with
  | tmp t =>
    have := h.get t v hx
    simp [Act.eval, Array.getD_eq_getD_getElem?, this]
  | const c => simpa [ev, Act.eval] using hx
  | global g => simpa [ev, Act.eval] using hx
  | func f => simpa [ev, Act.eval] using hx

theorem Fr.put {n : Nat} {ds : List Deferred} {fs : List (Nat × Value)} {a : Act} (h : Fr n ds fs a) {d : Nat} (hd : Nat.blt d n = true) (v : Value) : Fr n ds ((d, v) :: fs) (a.put (some d) v) := by
  have hd' : d < a.tmps.size := by rw [h.size]; simpa using hd
  refine ⟨by simp [Act.put, h.size], h.defers, fun i u hi => ?_⟩
  simp only [look] at hi
  by_cases e : d = i
  · subst e
    simp at hi
    subst hi
    simp [Act.put, hd']
  · have : Nat.beq d i = false := beq_ne e
    rw [this] at hi
    simp only [cond_false] at hi
    simp [Act.put, Array.getElem?_setIfInBounds_ne e, h.get i u hi]

def Sub : List (Nat × Value) → List (Nat × Value) → Prop
  | [], _ => True
  | (i, v) :: r, fs => look fs i = some v ∧ Sub r fs

theorem Sub.look {fs fs' : List (Nat × Value)} (h : Sub fs' fs) : ∀ i v, look fs' i = some v → look fs i = some v := by
  induction fs' with
  | nil => intro i v hi; cases hi
  | cons p r ih =>
    obtain ⟨j, u⟩ := p
    intro i v hi
    simp only [YtjhehanknkonnaaGreatDoor.look] at hi
    by_cases e : j = i
    · subst e; simp at hi; subst hi; exact h.1
    · have : Nat.beq j i = false := beq_ne e
      rw [this] at hi
      exact ih h.2 i v hi

theorem Fr.sub {n : Nat} {ds : List Deferred} {fs fs' : List (Nat × Value)} {a : Act} (h : Fr n ds fs a) (hs : Sub fs' fs) : Fr n ds fs' a :=
  ⟨h.size, h.defers, fun i v hi => h.get i v (hs.look i v hi)⟩

/-- X holds in every frame and every memory of which this is known. -/
def G (n : Nat) (ds : List Deferred) (fs : List (Nat × Value)) (E : Env) (L : List Res) (X : Act → World → Prop) : Prop := ∀ a w, Fr n ds fs a → St E L w → X a w

theorem G.sub {n : Nat} {ds : List Deferred} {fs : List (Nat × Value)} {E : Env} {L : List Res} {X : Act → World → Prop} (fs' : List (Nat × Value)) (hs : Sub fs' fs) (h : G n ds fs' E L X) : G n ds fs E L X :=
  fun a w ha hw => h a w (ha.sub hs) hw

theorem G.perm {n : Nat} {ds : List Deferred} {fs : List (Nat × Value)} {E : Env} {L : List Res} {X : Act → World → Prop} (L' : List Res) (p : L.Perm L') (h : G n ds fs E L' X) : G n ds fs E L X :=
  fun a w ha hw => h a w ha (hw.perm p)

theorem G.dropAll {n : Nat} {ds : List Deferred} {fs : List (Nat × Value)} {E : Env} {L : List Res} {X : Act → World → Prop} (M : List Res) (h : G n ds fs E L X) : G n ds fs E (M ++ L) X :=
  fun a w ha hw => h a w ha hw.dropAll

theorem G.drop {n : Nat} {ds : List Deferred} {fs : List (Nat × Value)} {E : Env} {L : List Res} {r : Res} {X : Act → World → Prop} (h : G n ds fs E L X) : G n ds fs E (r :: L) X :=
  fun a w ha hw => h a w ha hw.drop

/-- A piece is shut for good: it is E's. -/
theorem G.freeze {n : Nat} {ds : List Deferred} {fs : List (Nat × Value)} {E : Env} {L L' : List Res} {r : Res} {X : Act → World → Prop} (d : Del L r L') (h : ∀ E', E.Le E' → r.ok E'.heap → G n ds fs E' L' X) : G n ds fs E L X := fun a w ha hw => by
  obtain ⟨E', h1, h2, h3⟩ := (hw.perm d.perm).freeze
  exact h E' h1 h3 a w ha h2

/-- A piece is let go. -/
theorem G.rm {n : Nat} {ds : List Deferred} {fs : List (Nat × Value)} {E : Env} {L L' : List Res} {r : Res} {X : Act → World → Prop} (d : Del L r L') (h : G n ds fs E L' X) : G n ds fs E L X := G.perm _ d.perm (G.drop h)

/-- A slot that holds a bool: one of two. -/
theorem G.bool {n : Nat} {ds : List Deferred} {fs : List (Nat × Value)} {E : Env} {L : List Res} {X : Act → World → Prop} (i : Nat) {b : Bool} (hi : look fs i = some (.bool b))
    (ht : b = true → G n ds ((i, .bool true) :: fs) E L X) (hf : b = false → G n ds ((i, .bool false) :: fs) E L X) : G n ds fs E L X := by
  have key : ∀ a : Act, Fr n ds fs a → Fr n ds ((i, .bool b) :: fs) a := fun a h => ⟨h.size, h.defers, fun j v hj => by
    simp only [look] at hj
    by_cases e : i = j
    · subst e; simp at hj; subst hj; exact h.get _ _ hi
    · have : Nat.beq i j = false := beq_ne e
      rw [this] at hj
      exact h.get j v hj⟩
  intro a w ha hw
  cases b with
  | true => exact ht rfl a w (key a ha) hw
  | false => exact hf rfl a w (key a ha) hw

end Go.Proofs.YtjhehanknkonnaaGreatDoor
namespace Go.Proofs.YtjhehanknkonnaaGreatDoor
open Go.RowKit

/-! ### What a program says of its types and functions -/
class Ty (P : Program) (t : TypeId) (d : outParam TypeDesc) (sz : outParam Nat) (agg : outParam Bool) : Prop where
  und : P.underlying t = some d
  agg' : ∀ w, (isAgg t).run P w = .ok agg w
  size : ∀ w, (sizeOf t).run P w = .ok sz w
class Zero (P : Program) (t : TypeId) (z : outParam Value) (cs : outParam (Array Value)) : Prop where
  zv : ∀ w, (zeroValue t).run P w = .ok z w
  zc : Value.cells z = cs
class Ent (P : Program) (k : FuncId) : Prop where
  ent : ∀ args w, (callFunc k args).run P w = .ok (.enter k args) w

theorem Ty.run {P : Program} {t : TypeId} {d : TypeDesc} {sz : Nat} {agg : Bool} (h : Ty P t d sz agg) (w : World) : (underlying t).run P w = .ok d w := run_underlying h.und w

/-- The fence that lets everything in; in a round of a range over a function, or in none. -/
def Wd (ro : Option Nat) : Fence := { fn := fun _ => True, depth := none, alive := false, round := ro }

theorem Wd.about {P : Program} {ro : Option Nat} {o : Oper} {w : World} {ρ : Operand → Value} : ∀ f, o.about P w ρ = some f → (Wd ro).fn f := fun _ _ => trivial

theorem Wd.calls {P : Program} {ro : Option Nat} {f : FuncId} {args : Array Value} {w : World} {R : Ending → World → Prop} (h : Calls P f args w R) : CallsIn (Wd ro) 0 P f args w R :=
  (callsIn_wide (n := 0)).2 h

/-! ### Calls, said of known memory -/
def CallS (P : Program) (k : FuncId) (args : Array Value) (E : Env) (L : List Res) (Post : Value → Env → List Res → Prop) : Prop :=
  ∀ w, St E L w → Calls P k args w (fun e w' => ∃ r E' L', e = .returned r ∧ E.Le E' ∧ St E' L' w' ∧ Post r E' L')
def CallV (P : Program) (k : FuncId) (args : Array Value) (E : Env) (L : List Res) (r : Value) : Prop :=
  ∀ w, St E L w → Calls P k args w (fun e w' => e = .returned r ∧ St E L w')

theorem CallS.mono {P : Program} {k : FuncId} {args : Array Value} {E : Env} {L : List Res} {Post Post' : Value → Env → List Res → Prop} (h : CallS P k args E L Post)
    (hp : ∀ r E' L', E.Le E' → Post r E' L' → Post' r E' L') : CallS P k args E L Post' :=
  fun w hw => (h w hw).mono fun _ _ ⟨r, E', L', he, hE, hs, hq⟩ => ⟨r, E', L', he, hE, hs, hp r E' L' hE hq⟩

theorem CallS.ofV {P : Program} {k : FuncId} {args : Array Value} {E : Env} {L : List Res} {r : Value} (h : CallV P k args E L r) : CallS P k args E L (fun r' E' L' => r' = r ∧ E' = E ∧ L' = L) :=
  fun w hw => (h w hw).mono fun _ _ ⟨he, hs⟩ => ⟨r, E, L, he, .refl E, hs, rfl, rfl, rfl⟩

theorem CallS.toV {P : Program} {k : FuncId} {args : Array Value} {E : Env} {L : List Res} {r : Value} (h : CallS P k args E L (fun r' _ L' => r' = r ∧ L' = L)) : CallV P k args E L r :=
  fun w hw => (h w hw).mono fun _ _ ⟨_, _, _, he, hE, hs, h1, h2⟩ => by subst h1 h2; exact ⟨he, hs.weaken hE⟩

/-! ### One operation that leaves memory as it is -/
def Val (P : Program) (o : Oper) (fs : List (Nat × Value)) (E : Env) (L : List Res) (v : Value) : Prop :=
  (∀ c, o.op ≠ .defer c) ∧ ∀ n ds a w, Fr n ds fs a → St E L w → (execOp a.eval o).run P w = .ok (.value v) w

section rules
variable {P : Program} {ro : Option Nat} {n : Nat} {ds : List Deferred} {fs : List (Nat × Value)} {E : Env} {L : List Res} {ops : Array Oper} {Q : Exit → Act → World → Prop} {rest : List Oper} {o : Oper}

/-- An operation with no guard, or with one that says yes. -/
def Goes (ops : Array Oper) (fs : List (Nat × Value)) (o : Oper) : Prop :=
  match o.guard with
  | none => True
  | some (j, want) => ∃ oj dj, ops[j]? = some oj ∧ oj.dst = some dj ∧ look fs dj = some (.bool want)
def Stays (ops : Array Oper) (fs : List (Nat × Value)) (o : Oper) : Prop :=
  match o.guard with
  | none => False
  | some (j, want) => ∃ oj dj, ops[j]? = some oj ∧ oj.dst = some dj ∧ (look fs dj = some (.bool (!want)) ∨ look fs dj = some undef)

theorem Goes.wanted {a : Act} (h : Goes ops fs o) (ha : Fr n ds fs a) : Region.wanted o (yielded ops a.tmps) = true := by
  unfold Goes at h
  unfold Region.wanted
  split at h
  · rename_i e; rw [e]
  · rename_i j want e
    obtain ⟨oj, dj, h1, h2, h3⟩ := h
    rw [e]
    simp [yielded, h1, h2, ha.get _ _ h3]
theorem Stays.wanted {a : Act} (h : Stays ops fs o) (ha : Fr n ds fs a) : Region.wanted o (yielded ops a.tmps) = false := by
  unfold Stays at h
  unfold Region.wanted
  split at h
  · exact h.elim
  · rename_i j want e
    obtain ⟨oj, dj, h1, h2, h3⟩ := h
    rw [e]
    rcases h3 with h3 | h3
    · simp [yielded, h1, h2, ha.get _ _ h3]
    · simp [yielded, h1, h2, ha.get _ _ h3, undef]

/-- The general step: the operation yields a value; what is known turns. -/
theorem G_any (hg : Goes ops fs o) (hnd : ∀ c, o.op ≠ .defer c)
    (h : ∀ a w, Fr n ds fs a → St E L w → o.uponIn (Wd ro) 0 P a (wpListIn (Wd ro) 0 P ops Q rest) Q ((execOp a.eval o).run P w)) :
    G n ds fs E L (wpListIn (Wd ro) 0 P ops Q (o :: rest)) := by
  intro a w ha hw
  unfold wpListIn
  rw [if_pos (hg.wanted ha)]
  refine ⟨Wd.about, ?_⟩
  rw [Oper.semAt_eq _ _ _ hnd]
  exact h a w ha hw

theorem G_val {d : Nat} {v : Value} (hv : Val P o fs E L v) (hd : o.dst = some d) (hn : Nat.blt d n = true) (hg : Goes ops fs o)
    (h : G n ds ((d, v) :: fs) E L (wpListIn (Wd ro) 0 P ops Q rest)) : G n ds fs E L (wpListIn (Wd ro) 0 P ops Q (o :: rest)) :=
  G_any hg hv.1 fun a w ha hw => by
    rw [hv.2 n ds a w ha hw]
    simp only [Oper.uponIn_value, hd]
    exact h _ _ (ha.put hn v) hw

theorem G_stay {d : Nat} (hs : Stays ops fs o) (hd : o.dst = some d) (hn : Nat.blt d n = true) (h : G n ds ((d, undef) :: fs) E L (wpListIn (Wd ro) 0 P ops Q rest)) :
    G n ds fs E L (wpListIn (Wd ro) 0 P ops Q (o :: rest)) := by
  intro a w ha hw
  unfold wpListIn
  rw [if_neg (by rw [hs.wanted ha]; simp)]
  refine ⟨Wd.about, ?_⟩
  rw [hd]
  exact h _ _ (ha.put hn undef) hw
theorem G_end (h : G n ds fs E L (fun a w => Q .normal a w)) : G n ds fs E L (wpListIn (Wd ro) 0 P ops Q []) := h

/-! ### Control -/
variable {c c' : Code}
theorem G_seq (h : G n ds fs E L (c.wpIn (Wd ro) 0 P (Exit.then (c'.wpIn (Wd ro) 0 P Q) Q))) : G n ds fs E L ((Code.seq c c').wpIn (Wd ro) 0 P Q) :=
  fun a w ha hw => wpIn_seq (h a w ha hw)
theorem G_region {id : Nat} {l : List Oper} (h : G n ds fs E L (wpListIn (Wd ro) 0 P l.toArray Q l)) : G n ds fs E L ((Code.region id l.toArray false).wpIn (Wd ro) 0 P Q) :=
  fun a w ha hw => wpIn_region_lit (h a w ha hw)
theorem G_skip (h : G n ds fs E L (fun a w => Q .normal a w)) : G n ds fs E L (Code.skip.wpIn (Wd ro) 0 P Q) := fun a w ha hw => wpIn_skip (h a w ha hw)
theorem G_ret (h : G n ds fs E L (fun a w => Q .ret a w)) : G n ds fs E L (Code.ret.wpIn (Wd ro) 0 P Q) := fun a w ha hw => wpIn_ret (h a w ha hw)
theorem G_exit {id : Nat} (h : G n ds fs E L (fun a w => Q (.exit id) a w)) : G n ds fs E L ((Code.exit id).wpIn (Wd ro) 0 P Q) := fun a w ha hw => wpIn_exit (h a w ha hw)
theorem G_block {id : Nat} (h : G n ds fs E L (c.wpIn (Wd ro) 0 P (Exit.inBlock id Q))) : G n ds fs E L ((Code.block id c).wpIn (Wd ro) 0 P Q) := fun a w ha hw => wpIn_block (h a w ha hw)
theorem G_cond {x : Operand} {b : Bool} (hx : ev fs x = some (.bool b)) (ht : b = true → G n ds fs E L (c.wpIn (Wd ro) 0 P Q)) (hf : b = false → G n ds fs E L (c'.wpIn (Wd ro) 0 P Q)) :
    G n ds fs E L ((Code.cond x c c').wpIn (Wd ro) 0 P Q) :=
  fun a w ha hw => wpIn_cond_split (ha.eval hx) (fun e => ht e a w ha hw) (fun e => hf e a w ha hw)
theorem G_cond_t {x : Operand} {b : Bool} (hx : ev fs x = some (.bool b)) (hb : b = true) (ht : G n ds fs E L (c.wpIn (Wd ro) 0 P Q)) :
    G n ds fs E L ((Code.cond x c c').wpIn (Wd ro) 0 P Q) := G_cond hx (fun _ => ht) (fun e => by rw [hb] at e; cases e)
theorem G_cond_f {x : Operand} {b : Bool} (hx : ev fs x = some (.bool b)) (hb : b = false) (hf : G n ds fs E L (c'.wpIn (Wd ro) 0 P Q)) :
    G n ds fs E L ((Code.cond x c c').wpIn (Wd ro) 0 P Q) := G_cond hx (fun e => by rw [hb] at e; cases e) (fun _ => hf)

variable {K : Act → World → Prop}
theorem X_then (h : G n ds fs E L K) : G n ds fs E L (fun a w => Exit.then K Q .normal a w) := h
theorem X_block {id : Nat} (h : G n ds fs E L (fun a w => Q .normal a w)) : G n ds fs E L (fun a w => Exit.inBlock id Q .normal a w) := h
theorem X_then_ret (h : G n ds fs E L (fun a w => Q .ret a w)) : G n ds fs E L (fun a w => Exit.then K Q .ret a w) := h
theorem X_block_ret {id : Nat} (h : G n ds fs E L (fun a w => Q .ret a w)) : G n ds fs E L (fun a w => Exit.inBlock id Q .ret a w) := h
theorem X_then_exit {id : Nat} (h : G n ds fs E L (fun a w => Q (.exit id) a w)) : G n ds fs E L (fun a w => Exit.then K Q (.exit id) a w) := h
theorem X_block_hit {id : Nat} (h : G n ds fs E L (fun a w => Q .normal a w)) : G n ds fs E L (fun a w => Exit.inBlock id Q (.exit id) a w) := by
  intro a w ha hw
  simp only [Exit.inBlock, if_true]
  exact h a w ha hw
theorem X_block_miss {id id' : Nat} (hne : Nat.beq id' id = false) (h : G n ds fs E L (fun a w => Q (.exit id') a w)) : G n ds fs E L (fun a w => Exit.inBlock id Q (.exit id') a w) := by
  intro a w ha hw
  have : id' ≠ id := fun e => by subst e; simp at hne
  simp only [Exit.inBlock, if_neg this]
  exact h a w ha hw

theorem wpIn_scope_straight {F : Fence} {m : Nat} {a : Act} {w : World} (h : c.wpIn F m P (Exit.noGoto Q) a w) : (Code.scope c).wpIn F m P Q a w := by
  intro b k cs hro hb hr
  have s1 : step P (lone (b.atR a (.code (.scope c) :: k)) cs w) = .next (lone (b.atR a (.code c :: .inScope c :: k)) cs w) := step_lone_go (by simp [stepG, stepG.exec, Frame.atR])
  have s2 : ∀ (a' : Act) (w' : World), step P (lone (b.atR a' (.inScope c :: k)) cs w') = .next (lone (b.atR a' k) cs w') := fun a' w' => step_lone_go (by simp [stepG, stepG.exec, Frame.atR])
  have h0 : (lone (b.atR a (.code (.scope c) :: k)) cs w).fenced P F := fenced_calm hb hr rfl
  obtain ⟨e, a₁, w₁, hq, harr⟩ := h b (.inScope c :: k) cs hro hb hr
  cases e with
  | normal => exact ⟨.normal, a₁, w₁, hq, .head h0 s1 (StepsIn.trans harr (.one (fenced_calm hb hr rfl) (s2 a₁ w₁)))⟩
  | exit id =>
    have hx : exitTo id (.inScope c :: k) = exitTo id k := by simp [exitTo]
    exact ⟨.exit id, a₁, w₁, hq, fun k' hk => .head h0 s1 (harr.1 k' (by rw [hx]; exact hk)),
      fun hr' hk => let ⟨k₁, h1, h2⟩ := harr.2 hr' (by rw [hx]; exact hk); ⟨k₁, h1, .head h0 s1 h2⟩⟩
  | goto l => exact hq.elim
  | ret => exact ⟨_, a₁, w₁, hq, .of_steps (.one h0 s1) harr⟩
  | panic ch => exact ⟨_, a₁, w₁, hq, .of_steps (.one h0 s1) harr⟩
  | outgrown => exact ⟨_, a₁, w₁, hq, .of_steps (.one h0 s1) harr⟩
theorem G_scope (h : G n ds fs E L (c.wpIn (Wd ro) 0 P (Exit.noGoto Q))) : G n ds fs E L ((Code.scope c).wpIn (Wd ro) 0 P Q) := fun a w ha hw => wpIn_scope_straight (h a w ha hw)
theorem G_label {l : Nat} (h : G n ds fs E L (fun a w => Q .normal a w)) : G n ds fs E L ((Code.label l).wpIn (Wd ro) 0 P Q) := fun a w ha hw => wpIn_label (h a w ha hw)
theorem X_ng (h : G n ds fs E L (fun a w => Q .normal a w)) : G n ds fs E L (fun a w => Exit.noGoto Q .normal a w) := h
theorem X_ng_ret (h : G n ds fs E L (fun a w => Q .ret a w)) : G n ds fs E L (fun a w => Exit.noGoto Q .ret a w) := h
/-- A loop's next round: some state of the loop's own family. -/
def AgainD {α : Type} (n : Nat) (sd : α → List Deferred) (sf : α → List (Nat × Value)) (sE : α → Env) (sL : α → List Res) (I : α → Prop) (μ : α → Nat) (x : α) (a : Act) (w : World) : Prop :=
  ∃ y, I y ∧ μ y < μ x ∧ Fr n (sd y) (sf y) a ∧ St (sE y) (sL y) w
theorem G_loopD {α : Type} (sd : α → List Deferred) (sf : α → List (Nat × Value)) (sE : α → Env) (sL : α → List Res) (I : α → Prop) (μ : α → Nat) (x0 : α) (h0 : I x0) (hd : ds = sd x0) (hs : Sub (sf x0) fs) (hE : sE x0 = E) (hL : L = sL x0)
    (h : ∀ x, I x → G n (sd x) (sf x) (sE x) (sL x) (c.wpIn (Wd ro) 0 P (Exit.then (AgainD n sd sf sE sL I μ x) Q))) : G n ds fs E L ((Code.loop c).wpIn (Wd ro) 0 P Q) := by
  intro a w ha hw
  have key : ∀ m x a w, μ x < m → I x → Fr n (sd x) (sf x) a → St (sE x) (sL x) w → Code.roundsIn (Wd ro) 0 P c Q m a w := by
    intro m
    induction m with
    | zero => intro x a w hm; omega
    | succ m ih =>
      intro x a w hm hI ha hw
      refine wpIn_mono (h x hI a w ha hw) ?_
      intro e a' w' hq
      cases e <;> first | exact hq | skip
      obtain ⟨y, hy, hlt, hya, hyw⟩ := hq
      exact ih y a' w' (by omega) hy hya hyw
  exact wpIn_loop_rounds (μ x0 + 1) (key _ x0 a w (by omega) h0 (by rw [← hd]; exact ha.sub hs) (by rw [hE, ← hL]; exact hw))
theorem G_againD {α : Type} {sd : α → List Deferred} {sf : α → List (Nat × Value)} {sE : α → Env} {sL : α → List Res} {I : α → Prop} {μ : α → Nat} {x : α} (y : α) (hI : I y) (hμ : μ y < μ x) (hd : ds = sd y) (hs : Sub (sf y) fs) (hE : sE y = E) (hL : L = sL y) :
    G n ds fs E L (AgainD n sd sf sE sL I μ x) :=
  fun a w ha hw => ⟨y, hI, hμ, by rw [← hd]; exact ha.sub hs, by rw [hE, ← hL]; exact hw⟩
def Again {α : Type} (n : Nat) (ds : List Deferred) (sf : α → List (Nat × Value)) (sE : α → Env) (sL : α → List Res) (I : α → Prop) (μ : α → Nat) (x : α) (a : Act) (w : World) : Prop :=
  AgainD n (fun _ => ds) sf sE sL I μ x a w
theorem G_loop {α : Type} (sf : α → List (Nat × Value)) (sE : α → Env) (sL : α → List Res) (I : α → Prop) (μ : α → Nat) (x0 : α) (h0 : I x0) (hs : Sub (sf x0) fs) (hE : sE x0 = E) (hL : L = sL x0)
    (h : ∀ x, I x → G n ds (sf x) (sE x) (sL x) (c.wpIn (Wd ro) 0 P (Exit.then (Again n ds sf sE sL I μ x) Q))) : G n ds fs E L ((Code.loop c).wpIn (Wd ro) 0 P Q) :=
  G_loopD (fun _ => ds) sf sE sL I μ x0 h0 rfl hs hE hL h
theorem G_again {α : Type} {sf : α → List (Nat × Value)} {sE : α → Env} {sL : α → List Res} {I : α → Prop} {μ : α → Nat} {x : α} (y : α) (hI : I y) (hμ : μ y < μ x) (hs : Sub (sf y) fs) (hE : sE y = E) (hL : L = sL y) :
    G n ds fs E L (Again n ds sf sE sL I μ x) := G_againD y hI hμ rfl hs hE hL

/-! ### Calls -/
theorem evs_args {xs : List Operand} {vs : List Value} {a : Act} (ha : Fr n ds fs a) (h : xs.mapM (ev fs) = some vs) : (xs.toArray.map a.eval) = vs.toArray := by
  have : xs.map a.eval = vs := by
    induction xs generalizing vs with
    | nil => simp at h; subst h; rfl
    | cons x xs ih =>
      simp only [List.mapM_cons, Option.bind_eq_bind, Option.bind_eq_some_iff, Option.pure_def, Option.some.injEq] at h
      obtain ⟨v, hv, vs', hvs, rfl⟩ := h
      rw [List.map_cons, ha.eval hv, ih hvs]
  simp [this]

/-- What a call's operation asks for: the function k, with these arguments. -/
def Goesto (fs : List (Nat × Value)) (o : Oper) (k : FuncId) (args : Array Value) : Prop :=
  ∃ f xs ts vs cap, o.op = .call { callee := .value f, args := xs, argTypes := ts } ∧ ev fs f = some (.func (.func k) #[] cap) ∧ xs.toList.mapM (ev fs) = some vs ∧ args = vs.toArray ++ cap

theorem Goesto.mk {f : Operand} {xs : List Operand} {ts : Array TypeId} {vs : List Value} {k : FuncId} {cap args : Array Value} (ho : o.op = .call { callee := .value f, args := xs.toArray, argTypes := ts })
    (hf : ev fs f = some (.func (.func k) #[] cap)) (hx : xs.mapM (ev fs) = some vs) (ha : args = vs.toArray ++ cap) : Goesto fs o k args :=
  ⟨f, _, ts, vs, cap, ho, hf, by simpa using hx, ha⟩

theorem Goesto.run {k : FuncId} [Ent P k] {args : Array Value} {a : Act} {w : World} (h : Goesto fs o k args) (ha : Fr n ds fs a) : (execOp a.eval o).run P w = .ok (.enter k args) w := by
  obtain ⟨f, xs, ts, vs, cap, ho, hf, hx, rfl⟩ := h
  have e1 := evs_args ha hx
  simp only [Array.toArray_toList] at e1
  have e2 := ha.eval hf
  simp only [execOp, ho, resolve, e2, Deferred.ofValue, e1]
  simp [invoke, Ent.ent]

theorem G_call {k : FuncId} [Ent P k] {args : Array Value} {d : Nat} {Post : Value → Env → List Res → Prop} (ht : Goesto fs o k args) (hd : o.dst = some d) (hn : Nat.blt d n = true) (hg : Goes ops fs o)
    (hc : CallS P k args E L Post)
    (h : ∀ r E' L', E.Le E' → Post r E' L' → G n ds ((d, r) :: fs) E' L' (wpListIn (Wd ro) 0 P ops Q rest)) : G n ds fs E L (wpListIn (Wd ro) 0 P ops Q (o :: rest)) :=
  G_any hg (by obtain ⟨f, xs, ts, vs, cap, ho, _⟩ := ht; rw [ho]; intro c hc; cases hc) fun a w ha hw => by
    rw [ht.run ha]
    simp only [Oper.uponIn_enter]
    refine ⟨fun h => by simp [Wd] at h, (Wd.calls (hc w hw)).mono ?_⟩
    rintro e w' ⟨r, E', L', rfl, hE, hs, hp⟩
    simp only [hd]
    exact h r E' L' hE hp _ _ (ha.put hn r) hs

theorem G_callv {k : FuncId} [Ent P k] {args : Array Value} {d : Nat} {r : Value} (ht : Goesto fs o k args) (hd : o.dst = some d) (hn : Nat.blt d n = true) (hg : Goes ops fs o)
    (hc : CallV P k args E L r) (h : G n ds ((d, r) :: fs) E L (wpListIn (Wd ro) 0 P ops Q rest)) : G n ds fs E L (wpListIn (Wd ro) 0 P ops Q (o :: rest)) :=
  G_call ht hd hn hg (.ofV hc) fun r' E' L' _ ⟨h1, h2, h3⟩ => by subst h1 h2 h3; exact h

/-! ### A function's beginning and end -/
def RetP (E : Env) (Post : Value → Env → List Res → Prop) (e : Ending) (w : World) : Prop := ∃ r E' L', e = .returned r ∧ E.Le E' ∧ St E' L' w ∧ Post r E' L'

def slots : Nat → List Value → List (Nat × Value)
  | _, [] => []
  | i, v :: l => (i, v) :: slots (i + 1) l

theorem look_slots (l : List Value) : ∀ (k i : Nat) (v : Value), look (slots k l) i = some v → k ≤ i ∧ l[i - k]? = some v := by
  induction l with
  | nil => intro k i v h; cases h
  | cons u l ih =>
    intro k i v h
    simp only [slots, look] at h
    by_cases e : k = i
    · subst e; simp at h; subst h; simp
    · rw [beq_ne e] at h
      have := ih (k + 1) i v h
      refine ⟨by omega, ?_⟩
      rw [show i - k = (i - (k + 1)) + 1 by omega]
      simpa using this.2

theorem CallS.intro {fn : Func} {k : FuncId} {l : List Value} {Post : Value → Env → List Res → Prop} (m : Nat) (hf : P.funcs[k]? = some fn) (hb : fn.body = some c) (hm : fn.ntmps = m) (hl : Nat.ble l.length m = true)
    (h : G m [] (slots 0 l) E L (c.wpIn (Wd none) 0 P (bodyPostM (Wd none) 0 P fn (RetP E Post)))) : CallS P k l.toArray E L Post := by
  intro w hw
  refine (callsIn_wide (n := 0)).1 (callsIn_of_wp_marks (F := Wd none) hf hb trivial ?_)
  have hl' : l.length ≤ m := by simpa using hl
  refine h _ _ ⟨?_, rfl, ?_⟩ hw
  · simp [hm]; omega
  · intro i v hi
    have := look_slots l 0 i v hi
    have hlt : i < l.length := (List.getElem?_eq_some_iff.1 this.2).1
    simp only [Array.getElem?_append, List.size_toArray, if_pos hlt]
    simpa using this.2

/-- What the results are read as. -/
def Rv (P : Program) (fs : List (Nat × Value)) (E : Env) (L : List Res) (r : ResultVar) (v : Value) : Prop :=
  match r with
  | .tmp t => look fs t = some v
  | .cell t ty => ∃ p, look fs t = some (.pointer (some p)) ∧ ∀ w, St E L w → (loadVar ty p).run P w = .ok v w

def Rvs (P : Program) (fs : List (Nat × Value)) (E : Env) (L : List Res) : List ResultVar → List Value → Prop
  | [], [] => True
  | r :: rs, v :: vs => Rv P fs E L r v ∧ Rvs P fs E L rs vs
  | _, _ => False

theorem Rvs.nil : Rvs P fs E L [] [] := trivial
theorem Rvs.cons {r : ResultVar} {v : Value} {rs : List ResultVar} {vs : List Value} (h : Rv P fs E L r v) (hs : Rvs P fs E L rs vs) : Rvs P fs E L (r :: rs) (v :: vs) := ⟨h, hs⟩
theorem Rv.tmp {t : Nat} {v : Value} (h : look fs t = some v) : Rv P fs E L (.tmp t) v := h

def resVal : List Value → Value
  | [v] => v
  | l => .tuple l.toArray

theorem run_mapM_rvs {f : ResultVar → Sem Value} {w : World} (hf : ∀ r v, Rv P fs E L r v → (f r).run P w = .ok v w) : ∀ (rs : List ResultVar) (vs : List Value), Rvs P fs E L rs vs → (rs.mapM f).run P w = .ok vs w := by
  intro rs
  induction rs with
  | nil => intro vs h; cases vs with
    | nil => rfl
    | cons => exact h.elim
  | cons r rs ih =>
    intro vs h
    cases vs with
    | nil => exact h.elim
    | cons v vs =>
      obtain ⟨h1, h2⟩ := h
      rw [List.mapM_cons]
      simp only [Sem.run_bind, hf r v h1, Result.andThen, ih vs h2, Sem.run_pure]

theorem Rvs.run {fn : Func} {rs : List ResultVar} {vs : List Value} {a : Act} {w : World} (hr : fn.results = rs.toArray) (h : Rvs P fs E L rs vs) (ha : Fr n ds fs a) (hw : St E L w) :
    (results fn a.tmps).run P w = .ok (resVal vs) w := by
  unfold results
  rw [hr, List.mapM_toArray]
  rw [Sem.run_bind, Sem.run_map, run_mapM_rvs (P := P) (fs := fs) (E := E) (L := L) (w := w) ?hf rs vs h]
  case hf =>
    intro r v hrv
    cases r with
    | tmp t => simp [Array.getD_eq_getD_getElem?, ha.get t v hrv]
    | cell t ty =>
      obtain ⟨p, hp, hl⟩ := hrv
      simp only [Sem.run_bind, Array.getD_eq_getD_getElem?, ha.get t _ hp, Option.getD_some, asAddr, Sem.run_pure, Result.andThen, hl w hw]
  simp only [Result.andThen]
  match vs with
  | [] => simp [resVal]
  | [v] => simp [resVal]
  | v :: u :: vs => simp [resVal]

theorem St.dropK {w : World} (k : Nat) (h : St E L w) : St E (L.drop k) w := by
  have : L = L.take k ++ L.drop k := (List.take_append_drop k L).symm
  rw [this] at h
  exact h.dropAll

theorem G_leave {fn : Func} {vs : List Value} {E0 : Env} {Post : Value → Env → List Res → Prop} {r : Value} (k : Nat) (h : Rvs P fs E L fn.results.toList vs) (he : resVal vs = r) (hE : E0.Le E) (hp : Post r E (L.drop k)) :
    G n [] fs E L (fun a w => bodyPostM (Wd ro) 0 P fn (RetP E0 Post) .ret a w) := by
  intro a w ha hw
  show LeavesInM (Wd ro) 0 P fn a.tmps (RetP E0 Post) a.defers .returning w
  rw [ha.defers]
  exact ⟨_, h.run (by simp) ha hw, r, E, _, by rw [he], hE, hw.dropK k, hp⟩
theorem G_leave_n {fn : Func} {vs : List Value} {E0 : Env} {Post : Value → Env → List Res → Prop} {r : Value} (k : Nat) (h : Rvs P fs E L fn.results.toList vs) (he : resVal vs = r) (hE : E0.Le E) (hp : Post r E (L.drop k)) :
    G n [] fs E L (fun a w => bodyPostM (Wd ro) 0 P fn (RetP E0 Post) .normal a w) := G_leave k h he hE hp

end rules
end Go.Proofs.YtjhehanknkonnaaGreatDoor
namespace Go.Proofs.YtjhehanknkonnaaGreatDoor
open Go.RowKit

section rules
variable {P : Program} {ro : Option Nat} {n : Nat} {ds : List Deferred} {fs : List (Nat × Value)} {E : Env} {L : List Res} {ops : Array Oper} {Q : Exit → Act → World → Prop} {rest : List Oper} {o : Oper}

theorem Goes.none (h : o.guard = Option.none) : Goes ops fs o := by unfold Goes; rw [h]; trivial
theorem Goes.yes {j dj : Nat} {want : Bool} {oj : Oper} (h : o.guard = some (j, want)) (h1 : ops[j]? = some oj) (h2 : oj.dst = some dj) (h3 : look fs dj = some (.bool want)) : Goes ops fs o := by
  unfold Goes; rw [h]; exact ⟨oj, dj, h1, h2, h3⟩
theorem Stays.no {j dj : Nat} {want : Bool} {oj : Oper} (h : o.guard = some (j, want)) (h1 : ops[j]? = some oj) (h2 : oj.dst = some dj) (h3 : look fs dj = some (.bool (!want))) : Stays ops fs o := by
  unfold Stays; rw [h]; exact ⟨oj, dj, h1, h2, .inl h3⟩
theorem Stays.un {j dj : Nat} {want : Bool} {oj : Oper} (h : o.guard = some (j, want)) (h1 : ops[j]? = some oj) (h2 : oj.dst = some dj) (h3 : look fs dj = some undef) : Stays ops fs o := by
  unfold Stays; rw [h]; exact ⟨oj, dj, h1, h2, .inr h3⟩

/-- A string of these bytes. -/
def S (l : List UInt8) : ByteArray := ⟨⟨l⟩⟩
theorem S_size (l : List UInt8) : (S l).size = l.length := rfl
theorem S_toList (l : List UInt8) : (S l).toList = l := by
  rw [ByteArray.toList_eq]; rfl

theorem S_append (a b : List UInt8) : S a ++ S b = S (a ++ b) := by
  apply ByteArray.ext
  rw [ByteArray.data_append]
  simp [S]
theorem S_get? (l : List UInt8) (i : Nat) : (S l)[i]? = l[i]? := by
  by_cases h : i < l.length
  · rw [getElem?_pos (S l) i h, List.getElem?_eq_getElem h]; rfl
  · rw [getElem?_neg (S l) i h, List.getElem?_eq_none (by omega)]

theorem V_move {x : Operand} {v : Value} (ho : o.op = .move x) (hx : ev fs x = some v) : Val P o fs E L v :=
  ⟨(by rw [ho]; intro c h; cases h), fun n ds a w ha _ => by simp [execOp, ho, ha.eval hx]⟩
theorem V_assign {x : Operand} {v : Value} (ho : o.op = .assign x) (hx : ev fs x = some v) : Val P o fs E L v :=
  ⟨(by rw [ho]; intro c h; cases h), fun n ds a w ha _ => by simp [execOp, ho, ha.eval hx]⟩
theorem V_pick_t {c x y : Operand} {v : Value} (ho : o.op = .pick c x y) (hc : ev fs c = some (.bool true)) (hx : ev fs x = some v) : Val P o fs E L v :=
  ⟨(by rw [ho]; intro c h; cases h), fun n ds a w ha _ => by simp [execOp, ho, ha.eval hx, ha.eval hc, asBool]⟩
theorem V_pick_f {c x y : Operand} {v : Value} (ho : o.op = .pick c x y) (hc : ev fs c = some (.bool false)) (hx : ev fs y = some v) : Val P o fs E L v :=
  ⟨(by rw [ho]; intro c h; cases h), fun n ds a w ha _ => by simp [execOp, ho, ha.eval hx, ha.eval hc, asBool]⟩

theorem V_bin {op : BinOp} {t u : TypeId} {x y : Operand} {a b v : Value} (ho : o.op = .binOp op t x y u) (hx : ev fs x = some a) (hy : ev fs y = some b)
    (h : ∀ w, (eqGuard op t x y a b).run P w = .ok () w ∧ (binOp op t a b).run P w = .ok v w) : Val P o fs E L v :=
  ⟨(by rw [ho]; intro c h; cases h), fun n ds a w ha _ => by simp [execOp, ho, ha.eval hx, ha.eval hy, Result.andThen, (h w).1, (h w).2]⟩

/-! The bits of numbers, as Go reckons them. -/
def andI (k : IntKind) (a b : Int) : Int := k.wrap (BitVec.ofInt k.bits a &&& BitVec.ofInt k.bits b).toNat
def orI (k : IntKind) (a b : Int) : Int := k.wrap (BitVec.ofInt k.bits a ||| BitVec.ofInt k.bits b).toNat
def xorI (k : IntKind) (a b : Int) : Int := k.wrap (BitVec.ofInt k.bits a ^^^ BitVec.ofInt k.bits b).toNat
def shlI (k : IntKind) (a b : Int) : Int := k.wrap (a * 2 ^ min b.toNat k.bits)
def shrI (k : IntKind) (a b : Int) : Int := a.fdiv (2 ^ min b.toNat k.bits)

section ints
variable {t u : TypeId} {x y : Operand} {k k' : IntKind} {a b : Int}
theorem V_add (ho : o.op = .binOp .add t x y u) (hx : ev fs x = some (.int k a)) (hy : ev fs y = some (.int k b)) : Val P o fs E L (.int k (k.wrap (a + b))) :=
  V_bin ho hx hy fun w => ⟨by simp [eqGuard], by simp [binOp, Op.intArith]⟩
theorem V_sub (ho : o.op = .binOp .sub t x y u) (hx : ev fs x = some (.int k a)) (hy : ev fs y = some (.int k b)) : Val P o fs E L (.int k (k.wrap (a - b))) :=
  V_bin ho hx hy fun w => ⟨by simp [eqGuard], by simp [binOp, Op.intArith]⟩
theorem V_mul (ho : o.op = .binOp .mul t x y u) (hx : ev fs x = some (.int k a)) (hy : ev fs y = some (.int k b)) : Val P o fs E L (.int k (k.wrap (a * b))) :=
  V_bin ho hx hy fun w => ⟨by simp [eqGuard], by simp [binOp, Op.intArith]⟩
theorem V_quo (ho : o.op = .binOp .quo t x y u) (hx : ev fs x = some (.int k a)) (hy : ev fs y = some (.int k b)) (hb : b ≠ 0) : Val P o fs E L (.int k (k.wrap (a.tdiv b))) :=
  V_bin ho hx hy fun w => ⟨by simp [eqGuard], by simp [binOp, Op.intDiv, hb]⟩
theorem V_rem (ho : o.op = .binOp .rem t x y u) (hx : ev fs x = some (.int k a)) (hy : ev fs y = some (.int k b)) (hb : b ≠ 0) : Val P o fs E L (.int k (a.tmod b)) :=
  V_bin ho hx hy fun w => ⟨by simp [eqGuard], by simp [binOp, Op.intDiv, hb]⟩
theorem V_and (ho : o.op = .binOp .and t x y u) (hx : ev fs x = some (.int k a)) (hy : ev fs y = some (.int k b)) : Val P o fs E L (.int k (andI k a b)) :=
  V_bin ho hx hy fun w => ⟨by simp [eqGuard], by simp only [binOp, ne_eq, not_true_eq_false, if_false, Op.intBits]; rfl⟩
theorem V_or (ho : o.op = .binOp .or t x y u) (hx : ev fs x = some (.int k a)) (hy : ev fs y = some (.int k b)) : Val P o fs E L (.int k (orI k a b)) :=
  V_bin ho hx hy fun w => ⟨by simp [eqGuard], by simp only [binOp, ne_eq, not_true_eq_false, if_false, Op.intBits]; rfl⟩
theorem V_shl (ho : o.op = .binOp .shl t x y u) (hx : ev fs x = some (.int k a)) (hy : ev fs y = some (.int k' b)) (hb : 0 ≤ b) : Val P o fs E L (.int k (shlI k a b)) :=
  V_bin ho hx hy fun w => ⟨by simp [eqGuard], by simp [binOp, Op.shift, Int.not_lt.2 hb]; rfl⟩
theorem V_shr (ho : o.op = .binOp .shr t x y u) (hx : ev fs x = some (.int k a)) (hy : ev fs y = some (.int k' b)) (hb : 0 ≤ b) : Val P o fs E L (.int k (shrI k a b)) :=
  V_bin ho hx hy fun w => ⟨by simp [eqGuard], by simp [binOp, Op.shift, Int.not_lt.2 hb]; rfl⟩
theorem V_eql (ho : o.op = .binOp .eql t x y u) (hx : ev fs x = some (.int k a)) (hy : ev fs y = some (.int k b)) : Val P o fs E L (.bool (decide (a = b))) :=
  V_bin ho hx hy fun w => ⟨by simp [eqGuard], by simp [binOp, Op.intCmp]; rfl⟩
theorem V_neq (ho : o.op = .binOp .neq t x y u) (hx : ev fs x = some (.int k a)) (hy : ev fs y = some (.int k b)) : Val P o fs E L (.bool (decide (a ≠ b))) :=
  V_bin ho hx hy fun w => ⟨by simp [eqGuard], by simp [binOp, Op.intCmp, bne]; rfl⟩
theorem V_lss (ho : o.op = .binOp .lss t x y u) (hx : ev fs x = some (.int k a)) (hy : ev fs y = some (.int k b)) : Val P o fs E L (.bool (decide (a < b))) :=
  V_bin ho hx hy fun w => ⟨by simp [eqGuard], by simp [binOp, Op.intCmp]⟩
theorem V_leq (ho : o.op = .binOp .leq t x y u) (hx : ev fs x = some (.int k a)) (hy : ev fs y = some (.int k b)) : Val P o fs E L (.bool (decide (a ≤ b))) :=
  V_bin ho hx hy fun w => ⟨by simp [eqGuard], by simp [binOp, Op.intCmp]⟩
theorem V_gtr (ho : o.op = .binOp .gtr t x y u) (hx : ev fs x = some (.int k a)) (hy : ev fs y = some (.int k b)) : Val P o fs E L (.bool (decide (b < a))) :=
  V_bin ho hx hy fun w => ⟨by simp [eqGuard], by simp [binOp, Op.intCmp]⟩
theorem V_geq (ho : o.op = .binOp .geq t x y u) (hx : ev fs x = some (.int k a)) (hy : ev fs y = some (.int k b)) : Val P o fs E L (.bool (decide (b ≤ a))) :=
  V_bin ho hx hy fun w => ⟨by simp [eqGuard], by simp [binOp, Op.intCmp]⟩
theorem V_neg (ho : o.op = .unOp .neg t x) (hx : ev fs x = some (.int k a)) : Val P o fs E L (.int k (k.wrap (0 - a))) :=
  ⟨(by rw [ho]; intro c h; cases h), fun n ds a w ha _ => by simp [execOp, ho, ha.eval hx, Op.unary, Op.intArith]⟩
theorem V_conv {d : TypeDesc} {sz sz' : Nat} {ag ag' : Bool} [hs : Ty P t d sz ag] [hd : Ty P u (.int k') sz' ag'] (ho : o.op = .convert t u x) (hx : ev fs x = some (.int k a)) : Val P o fs E L (.int k' (k'.wrap a)) :=
  ⟨(by rw [ho]; intro c h; cases h), fun n ds a w ha _ => by simp [execOp, ho, ha.eval hx, Result.andThen, convert, hs.run, hd.run, Conv.intToInt]⟩
end ints

theorem V_not {t : TypeId} {x : Operand} {b : Bool} (ho : o.op = .unOp .not t x) (hx : ev fs x = some (.bool b)) : Val P o fs E L (.bool (!b)) :=
  ⟨(by rw [ho]; intro c h; cases h), fun n ds a w ha _ => by simp [execOp, ho, ha.eval hx, Op.unary]⟩

section bools
variable {t u : TypeId} {x y : Operand} {a b : Bool} {sz : Nat} {ag : Bool}
end bools

section strings
variable {t u : TypeId} {x y : Operand} {a b : List UInt8} {sz : Nat} {ag : Bool}
theorem V_seql (ho : o.op = .binOp .eql t x y u) (hx : ev fs x = some (.string (S a))) (hy : ev fs y = some (.string (S b))) : Val P o fs E L (.bool (decide (a = b))) :=
  V_bin ho hx hy fun w => ⟨by simp [eqGuard], by simp only [binOp, Op.stringOp, S_toList, Sem.run_pure]; rw [show (a == b) = decide (a = b) by rw [Bool.eq_iff_iff]; simp]⟩
theorem V_sneq (ho : o.op = .binOp .neq t x y u) (hx : ev fs x = some (.string (S a))) (hy : ev fs y = some (.string (S b))) : Val P o fs E L (.bool (decide (a ≠ b))) :=
  V_bin ho hx hy fun w => ⟨by simp [eqGuard], by simp only [binOp, Op.stringOp, S_toList, Sem.run_pure]; rw [show (a == b) = decide (a = b) by rw [Bool.eq_iff_iff]; simp]; simp⟩
theorem V_cat (ho : o.op = .binOp .add t x y u) (hx : ev fs x = some (.string (S a))) (hy : ev fs y = some (.string (S b))) (hl : a.length + b.length ≤ 9223372036854775807) : Val P o fs E L (.string (S (a ++ b))) :=
  V_bin ho hx hy fun w => ⟨by simp [eqGuard], by
    have : ¬ ((((S a).size + (S b).size : Nat) : Int) > IntKind.i64.max) := by
      rw [S_size, S_size]
      have : IntKind.i64.max = 9223372036854775807 := by decide
      omega
    have e : S a ++ S b = S (a ++ b) := by rw [S_append]
    simp only [binOp, Op.stringOp]
    rw [if_neg this, e]; rfl⟩
theorem V_len [ht : Ty P t .string sz ag] (ho : o.op = .call { callee := .builtin .len, args := #[x], argTypes := #[t] }) (hx : ev fs x = some (.string (S a))) : Val P o fs E L (.int .i64 a.length) :=
  ⟨(by rw [ho]; intro c h; cases h), fun n ds a' w ha _ => by simp [execOp, ho, ha.eval hx, resolve, invoke, builtin, Builtin.len_, ht.run, goInt, S_size]⟩
theorem V_sidx [ht : Ty P t .string sz ag] {k : IntKind} {i : Int} {c : UInt8} (ho : o.op = .index t x y) (hx : ev fs x = some (.string (S a))) (hy : ev fs y = some (.int k i)) (h0 : 0 ≤ i) (hc : a[i.toNat]? = some c) : Val P o fs E L (.int .u8 c.toNat) :=
  ⟨(by rw [ho]; intro c h; cases h), fun n ds a' w ha _ => by
    have : (S a)[i.toNat]? = some c := by rw [S_get?]; exact hc
    simp [execOp, ho, ha.eval hx, ha.eval hy, Result.andThen, Instr.index, asIntOf, ht.run, h0, this]⟩
end strings

/-! ### Bundles -/
theorem V_extract {x : Operand} {i : Nat} {vs : Array Value} {v : Value} (ho : o.op = .extract x i) (hx : ev fs x = some (.tuple vs)) (hv : vs.toList[i]? = some v) : Val P o fs E L v :=
  ⟨(by rw [ho]; intro c h; cases h), fun n ds a w ha _ => by
    have hv' : vs[i]? = some v := by simpa using hv
    simp [execOp, ho, ha.eval hx, Instr.extract, hv']⟩
theorem V_makeFunc {f : Fn} {first captured : List Operand} {vf vc : List Value} (ho : o.op = .makeFunc f first.toArray captured.toArray) (h1 : first.mapM (ev fs) = some vf) (h2 : captured.mapM (ev fs) = some vc) :
    Val P o fs E L (.func f vf.toArray vc.toArray) :=
  ⟨(by rw [ho]; intro c h; cases h), fun n ds a w ha _ => by simp [execOp, ho, Instr.makeFunc, evs_args ha h1, evs_args ha h2]⟩

end rules

/-! ### Numbers that stay within their kind -/
section
variable {P : Program} {fs : List (Nat × Value)} {E : Env} {L : List Res} {o : Oper} {t u : TypeId} {x y : Operand} {a b : Int}
theorem wrap_in {k : IntKind} {a : Int} (h0 : k.min ≤ a) (h1 : a ≤ k.max) : k.wrap a = a := by
  cases k <;> simp [IntKind.min, IntKind.max, IntKind.signed, IntKind.bits] at h0 h1 <;> simp [IntKind.wrap, IntKind.signed, IntKind.bits] <;> (try split) <;> omega
theorem wrap_i64 {a : Int} (h0 : -9223372036854775808 ≤ a) (h1 : a ≤ 9223372036854775807) : IntKind.i64.wrap a = a := by
  refine wrap_in ?_ ?_ <;> simp only [IntKind.min, IntKind.max, IntKind.signed, IntKind.bits] <;> simp <;> omega
theorem wrap_u64 {a : Int} (h0 : 0 ≤ a) (h1 : a ≤ 18446744073709551615) : IntKind.u64.wrap a = a := by
  refine wrap_in ?_ ?_ <;> simp only [IntKind.min, IntKind.max, IntKind.signed, IntKind.bits] <;> simp <;> omega
theorem wrap_u8 {a : Int} (h0 : 0 ≤ a) (h1 : a ≤ 255) : IntKind.u8.wrap a = a := by
  refine wrap_in ?_ ?_ <;> simp only [IntKind.min, IntKind.max, IntKind.signed, IntKind.bits] <;> simp <;> omega
theorem V_add_i64 (ho : o.op = .binOp .add t x y u) (hx : ev fs x = some (.int .i64 a)) (hy : ev fs y = some (.int .i64 b)) (h0 : -9223372036854775808 ≤ a + b) (h1 : a + b ≤ 9223372036854775807) : Val P o fs E L (.int .i64 (a + b)) := by
  have := V_add (P := P) (E := E) (L := L) ho hx hy
  rwa [wrap_i64 h0 h1] at this
theorem V_sub_i64 (ho : o.op = .binOp .sub t x y u) (hx : ev fs x = some (.int .i64 a)) (hy : ev fs y = some (.int .i64 b)) (h0 : -9223372036854775808 ≤ a - b) (h1 : a - b ≤ 9223372036854775807) : Val P o fs E L (.int .i64 (a - b)) := by
  have := V_sub (P := P) (E := E) (L := L) ho hx hy
  rwa [wrap_i64 h0 h1] at this
theorem V_mul_i64 (ho : o.op = .binOp .mul t x y u) (hx : ev fs x = some (.int .i64 a)) (hy : ev fs y = some (.int .i64 b)) (h0 : -9223372036854775808 ≤ a * b) (h1 : a * b ≤ 9223372036854775807) : Val P o fs E L (.int .i64 (a * b)) := by
  have := V_mul (P := P) (E := E) (L := L) ho hx hy
  rwa [wrap_i64 h0 h1] at this
theorem V_conv_i64 {k' : IntKind} {d : TypeDesc} {sz sz' : Nat} {ag ag' : Bool} [Ty P t d sz ag] [Ty P u (.int .i64) sz' ag'] (ho : o.op = .convert t u x) (hx : ev fs x = some (.int k' a)) (h0 : -9223372036854775808 ≤ a) (h1 : a ≤ 9223372036854775807) : Val P o fs E L (.int .i64 a) := by
  have := V_conv (P := P) (E := E) (L := L) (k' := .i64) ho hx
  rwa [wrap_i64 h0 h1] at this
theorem V_add_u64 (ho : o.op = .binOp .add t x y u) (hx : ev fs x = some (.int .u64 a)) (hy : ev fs y = some (.int .u64 b)) (h0 : 0 ≤ a + b) (h1 : a + b ≤ 18446744073709551615) : Val P o fs E L (.int .u64 (a + b)) := by
  have := V_add (P := P) (E := E) (L := L) ho hx hy
  rwa [wrap_u64 h0 h1] at this
theorem V_conv_u64 {k' : IntKind} {d : TypeDesc} {sz sz' : Nat} {ag ag' : Bool} [Ty P t d sz ag] [Ty P u (.int .u64) sz' ag'] (ho : o.op = .convert t u x) (hx : ev fs x = some (.int k' a)) (h0 : 0 ≤ a) (h1 : a ≤ 18446744073709551615) : Val P o fs E L (.int .u64 a) := by
  have := V_conv (P := P) (E := E) (L := L) (k' := .u64) ho hx
  rwa [wrap_u64 h0 h1] at this
theorem V_conv_u8 {k' : IntKind} {d : TypeDesc} {sz sz' : Nat} {ag ag' : Bool} [Ty P t d sz ag] [Ty P u (.int .u8) sz' ag'] (ho : o.op = .convert t u x) (hx : ev fs x = some (.int k' a)) (h0 : 0 ≤ a) (h1 : a ≤ 255) : Val P o fs E L (.int .u8 a) := by
  have := V_conv (P := P) (E := E) (L := L) (k' := .u8) ho hx
  rwa [wrap_u8 h0 h1] at this
theorem max_lt (k : IntKind) : k.max < 2 ^ k.bits := by cases k <;> decide
theorem min_le0 (k : IntKind) : k.min ≤ 0 := by cases k <;> decide
theorem nat_lt_bits {k : IntKind} {n : Nat} (h : (n : Int) ≤ k.max) : n < 2 ^ k.bits := by
  have := max_lt k
  have h2 : ((2 ^ k.bits : Nat) : Int) = 2 ^ k.bits := by push_cast; rfl
  omega
theorem wrap_nat {k : IntKind} {n : Nat} (h : (n : Int) ≤ k.max) : k.wrap (n : Int) = n := wrap_in (by have := min_le0 k; omega) h
theorem ofInt_nat {k : IntKind} {n : Nat} (h : (n : Int) ≤ k.max) : (BitVec.ofInt k.bits (n : Int)).toNat = n := by
  rw [BitVec.ofInt_natCast, BitVec.toNat_ofNat, Nat.mod_eq_of_lt (nat_lt_bits h)]
theorem andI_nat {k : IntKind} {n m : Nat} (hn : (n : Int) ≤ k.max) (hm : (m : Int) ≤ k.max) : andI k n m = ((n &&& m : Nat) : Int) := by
  unfold andI
  rw [BitVec.toNat_and, ofInt_nat hn, ofInt_nat hm]
  exact wrap_nat (by have := Nat.and_le_left (n := n) (m := m); omega)
theorem orI_nat {k : IntKind} {n m : Nat} (hn : (n : Int) ≤ k.max) (hm : (m : Int) ≤ k.max) (h : ((n ||| m : Nat) : Int) ≤ k.max) : orI k n m = ((n ||| m : Nat) : Int) := by
  unfold orI
  rw [BitVec.toNat_or, ofInt_nat hn, ofInt_nat hm]
  exact wrap_nat h
theorem shrI_nat {k : IntKind} {n s : Nat} (hs : s ≤ k.bits) : shrI k n s = ((n / 2 ^ s : Nat) : Int) := by
  unfold shrI
  rw [Int.toNat_natCast, Nat.min_eq_left hs, Int.fdiv_eq_ediv_of_nonneg _ (by exact Int.le_of_lt (Int.pow_pos (by decide)))]
  push_cast; rfl
theorem shlI_nat {k : IntKind} {n s : Nat} (hs : s ≤ k.bits) (h : ((n * 2 ^ s : Nat) : Int) ≤ k.max) : shlI k n s = ((n * 2 ^ s : Nat) : Int) := by
  unfold shlI
  rw [Int.toNat_natCast, Nat.min_eq_left hs]
  have := wrap_nat h
  push_cast at this
  rw [this]; push_cast; rfl
/-- Division and remainder of numbers that are not below 0. -/
theorem V_quo_n {k : IntKind} (ho : o.op = .binOp .quo t x y u) (hx : ev fs x = some (.int k a)) (hy : ev fs y = some (.int k b)) (ha : 0 ≤ a) (hb : 0 < b) (hk : a ≤ k.max) : Val P o fs E L (.int k (a / b)) := by
  have := V_quo (P := P) (E := E) (L := L) ho hx hy (by omega)
  have e : a.tdiv b = a / b := Int.tdiv_eq_ediv_of_nonneg ha
  have h1 : 0 ≤ a / b := Int.ediv_nonneg ha (by omega)
  have h2 : a / b ≤ a := Int.ediv_le_self b ha
  rw [e] at this
  have h3 : k.wrap (a / b) = a / b := by
    have h0 : k.min ≤ 0 := by cases k <;> decide
    exact wrap_in (by omega) (by omega)
  rwa [h3] at this
theorem V_rem_n {k : IntKind} (ho : o.op = .binOp .rem t x y u) (hx : ev fs x = some (.int k a)) (hy : ev fs y = some (.int k b)) (ha : 0 ≤ a) (hb : 0 < b) : Val P o fs E L (.int k (a % b)) := by
  have := V_rem (P := P) (E := E) (L := L) ho hx hy (by omega)
  rwa [Int.tmod_eq_emod_of_nonneg ha] at this
end

end Go.Proofs.YtjhehanknkonnaaGreatDoor
namespace Go.Proofs.YtjhehanknkonnaaGreatDoor
open Go.RowKit
theorem Gv {P : Program} {ro : Option Nat} {n : Nat} {ds : List Deferred} {fs : List (Nat × Value)} {E : Env} {L : List Res} {ops : Array Oper} {Q : Exit → Act → World → Prop} {rest : List Oper} {o : Oper} {d : Nat} {v : Value} (hv : Val P o fs E L v) (h : G n ds ((d, v) :: fs) E L (wpListIn (Wd ro) 0 P ops Q rest)) (hd : o.dst = some d := by exact rfl) (hn : Nat.blt d n = true := by exact rfl) (hg : Goes ops fs o := by exact .none rfl) : G n ds fs E L (wpListIn (Wd ro) 0 P ops Q (o :: rest)) := G_val hv hd hn hg h
theorem Gy {P : Program} {ro : Option Nat} {n : Nat} {ds : List Deferred} {fs : List (Nat × Value)} {E : Env} {L : List Res} {ops : Array Oper} {Q : Exit → Act → World → Prop} {rest : List Oper} {o : Oper} {d : Nat} {v : Value} (hv : Val P o fs E L v) (h : G n ds ((d, v) :: fs) E L (wpListIn (Wd ro) 0 P ops Q rest)) (hd : o.dst = some d := by exact rfl) (hn : Nat.blt d n = true := by exact rfl) (hg : Goes ops fs o := by exact .yes rfl rfl rfl rfl) : G n ds fs E L (wpListIn (Wd ro) 0 P ops Q (o :: rest)) := G_val hv hd hn hg h
theorem Gm {P : Program} {ro : Option Nat} {n : Nat} {ds : List Deferred} {fs : List (Nat × Value)} {E : Env} {L : List Res} {ops : Array Oper} {Q : Exit → Act → World → Prop} {rest : List Oper} {o : Oper} {d : Nat} {x : Operand} {v : Value} (h : G n ds ((d, v) :: fs) E L (wpListIn (Wd ro) 0 P ops Q rest)) (ho : o.op = .move x := by exact rfl) (hx : ev fs x = some v := by exact rfl) (hd : o.dst = some d := by exact rfl) (hn : Nat.blt d n = true := by exact rfl) (hg : Goes ops fs o := by exact .none rfl) : G n ds fs E L (wpListIn (Wd ro) 0 P ops Q (o :: rest)) := G_val (V_move ho hx) hd hn hg h
theorem Ga {P : Program} {ro : Option Nat} {n : Nat} {ds : List Deferred} {fs : List (Nat × Value)} {E : Env} {L : List Res} {ops : Array Oper} {Q : Exit → Act → World → Prop} {rest : List Oper} {o : Oper} {d : Nat} {x : Operand} {v : Value} (h : G n ds ((d, v) :: fs) E L (wpListIn (Wd ro) 0 P ops Q rest)) (ho : o.op = .assign x := by exact rfl) (hx : ev fs x = some v := by exact rfl) (hd : o.dst = some d := by exact rfl) (hn : Nat.blt d n = true := by exact rfl) (hg : Goes ops fs o := by exact .none rfl) : G n ds fs E L (wpListIn (Wd ro) 0 P ops Q (o :: rest)) := G_val (V_assign ho hx) hd hn hg h
theorem Gn {P : Program} {ro : Option Nat} {n : Nat} {ds : List Deferred} {fs : List (Nat × Value)} {E : Env} {L : List Res} {ops : Array Oper} {Q : Exit → Act → World → Prop} {rest : List Oper} {o : Oper} {d : Nat} (h : G n ds ((d, undef) :: fs) E L (wpListIn (Wd ro) 0 P ops Q rest)) (hs : Stays ops fs o := by exact .no rfl rfl rfl rfl) (hd : o.dst = some d := by exact rfl) (hn : Nat.blt d n = true := by exact rfl) : G n ds fs E L (wpListIn (Wd ro) 0 P ops Q (o :: rest)) := G_stay hs hd hn h
end Go.Proofs.YtjhehanknkonnaaGreatDoor
namespace Go.Proofs.YtjhehanknkonnaaGreatDoor
open Go.RowKit

section rules
variable {P : Program} {ro : Option Nat} {n : Nat} {ds : List Deferred} {fs : List (Nat × Value)} {E : Env} {L : List Res} {ops : Array Oper} {Q : Exit → Act → World → Prop} {rest : List Oper} {o : Oper}

/-- A cell that is known. -/
def Cell (E : Env) (L : List Res) (p : Addr) (v : Value) : Prop := ∀ w, St E L w → w.cell? p = some v
/-- A row of cells that is known. -/
def Cells (E : Env) (L : List Res) (p : Addr) (vs : List Value) : Prop := ∀ w, St E L w → ∀ j v, vs[j]? = some v → w.cell? (p.add j) = some v

theorem Cell.own {b off : Nat} {cs : Array Value} {T : TypeId} {fz : Nat × Nat} {v : Value} (hm : Res.blk b (.cells cs T fz) ∈ L) (hv : cs.toList[off]? = some v) : Cell E L ⟨b, off, none⟩ v := fun w hw => by
  have hv' : cs[off]? = some v := by simpa using hv
  have : w.heap[b]? = some (.cells cs T fz) := hw.own _ hm
  simp [World.cell?, this, hv']
theorem Cell.own1 {b : Nat} {T : TypeId} {fz : Nat × Nat} {v : Value} (hm : Res.blk b (.cells #[v] T fz) ∈ L) : Cell E L ⟨b, 0, none⟩ v := Cell.own hm rfl
theorem Cell.env {b off : Nat} {cs : Array Value} {T : TypeId} {fz : Nat × Nat} {v : Value} (hb : E.heap b = some (.cells cs T fz)) (hv : cs[off]? = some v) : Cell E L ⟨b, off, none⟩ v := fun w hw => by
  simp [World.cell?, hw.env _ _ hb, hv]
theorem Cells.own {b : Nat} {cs : Array Value} {T : TypeId} {fz : Nat × Nat} (hm : Res.blk b (.cells cs T fz) ∈ L) : Cells E L ⟨b, 0, none⟩ cs.toList := fun w hw j v hv => by
  have : w.heap[b]? = some (.cells cs T fz) := hw.own _ hm
  have hv' : cs[j]? = some v := by simpa using hv
  by_cases h : j = 0
  · subst h; simp [World.cell?, Addr.add, this, hv']
  · simp [World.cell?, Addr.add, h, this, hv']
theorem Cells.at {b off : Nat} {cs : Array Value} {T : TypeId} {fz : Nat × Nat} {vs : List Value} (hm : Res.blk b (.cells cs T fz) ∈ L) (hv : ∀ j v, vs[j]? = some v → cs[off + j]? = some v) : Cells E L ⟨b, off, none⟩ vs := fun w hw j v hj => by
  have : w.heap[b]? = some (.cells cs T fz) := hw.own _ hm
  have hv' := hv j v hj
  by_cases h : j = 0
  · subst h; simp at hv'; simp [World.cell?, Addr.add, this, hv']
  · simp [World.cell?, Addr.add, h, this, hv']

theorem run_loadVar1 {t : TypeId} {d : TypeDesc} {sz : Nat} [ht : Ty P t d sz false] {p : Addr} {v : Value} (hc : Cell E L p v) {w : World} (hw : St E L w) : (loadVar t p).run P w = .ok v w := by
  have := hc w hw
  simp [loadVar, ht.agg', Result.andThen, this]
theorem run_loadVarA {t : TypeId} {d : TypeDesc} {sz : Nat} [ht : Ty P t d sz true] {p : Addr} {vs : List Value} (hc : Cells E L p vs) (hs : vs.length = sz) {w : World} (hw : St E L w) : (loadVar t p).run P w = .ok (.agg vs.toArray) w := by
  have := run_loadCells_list (P := P) (w := w) p vs (hc w hw)
  simp only [loadVar, Sem.run_bind, ht.agg', Result.andThen, if_true, ht.size, ← hs, this, Sem.run_pure]

theorem V_load {t : TypeId} {x : Operand} {d : TypeDesc} {sz : Nat} [ht : Ty P t d sz false] {p : Addr} {v : Value} (ho : o.op = .load t x) (hx : ev fs x = some (.pointer (some p))) (hc : Cell E L p v) : Val P o fs E L v :=
  ⟨(by rw [ho]; intro c h; cases h), fun n ds a w ha hw => by simp [execOp, ho, ha.eval hx, Instr.loadAt, Instr.sureAddr, run_loadVar1 hc hw]⟩
theorem V_loadA {t : TypeId} {x : Operand} {d : TypeDesc} {sz : Nat} [ht : Ty P t d sz true] {p : Addr} {vs : List Value} (ho : o.op = .load t x) (hx : ev fs x = some (.pointer (some p))) (hc : Cells E L p vs) (hs : vs.length = sz) : Val P o fs E L (.agg vs.toArray) :=
  ⟨(by rw [ho]; intro c h; cases h), fun n ds a w ha hw => by simp [execOp, ho, ha.eval hx, Instr.loadAt, Instr.sureAddr, run_loadVarA hc hs hw]⟩

theorem Rv.cell1 {t : Nat} {ty : TypeId} {d : TypeDesc} {sz : Nat} [ht : Ty P ty d sz false] {p : Addr} {v : Value} (hx : look fs t = some (.pointer (some p))) (hc : Cell E L p v) : Rv P fs E L (.cell t ty) v :=
  ⟨p, hx, fun _ hw => run_loadVar1 hc hw⟩
theorem Rv.cellA {t : Nat} {ty : TypeId} {d : TypeDesc} {sz : Nat} [ht : Ty P ty d sz true] {p : Addr} {vs : List Value} (hx : look fs t = some (.pointer (some p))) (hc : Cells E L p vs) (hs : vs.length = sz) : Rv P fs E L (.cell t ty) (.agg vs.toArray) :=
  ⟨p, hx, fun _ hw => run_loadVarA hc hs hw⟩

/-- A new block. -/
theorem G_alloc {t : TypeId} {d : Nat} {z : Value} {cs : Array Value} [hz : Zero P t z cs] (ho : o.op = .alloc t) (hd : o.dst = some d) (hn : Nat.blt d n = true) (hg : Goes ops fs o)
    (h : ∀ b, G n ds ((d, .pointer (some ⟨b, 0, none⟩)) :: fs) E (.blk b (.cells cs t (0, 0)) :: L) (wpListIn (Wd ro) 0 P ops Q rest)) : G n ds fs E L (wpListIn (Wd ro) 0 P ops Q (o :: rest)) :=
  G_any hg (by rw [ho]; intro c h; cases h) fun a w ha hw => by
    have e : (execOp a.eval o).run P w = .ok (.value (.pointer (some ⟨w.heap.size, 0, none⟩))) (w.alloc (.cells cs t)) := by
      simp [execOp, ho, Instr.alloc, hz.zv, Result.andThen, newVar, newRow, hz.zc]
    rw [e]
    simp only [Oper.uponIn_value, hd]
    exact h w.heap.size _ _ (ha.put hn _) (hw.alloc _)

theorem G_box {t : TypeId} {x : Operand} {d : Nat} {v : Value} {cs : Array Value} (ho : o.op = .box t x) (hx : ev fs x = some v) (hc : v.cells = cs) (hd : o.dst = some d) (hn : Nat.blt d n = true) (hg : Goes ops fs o)
    (h : ∀ b, G n ds ((d, .pointer (some ⟨b, 0, none⟩)) :: fs) E (.blk b (.cells cs t (0, 0)) :: L) (wpListIn (Wd ro) 0 P ops Q rest)) : G n ds fs E L (wpListIn (Wd ro) 0 P ops Q (o :: rest)) :=
  G_any hg (by rw [ho]; intro c h; cases h) fun a w ha hw => by
    have e : (execOp a.eval o).run P w = .ok (.value (.pointer (some ⟨w.heap.size, 0, none⟩))) (w.alloc (.cells cs t)) := by
      simp [execOp, ho, ha.eval hx, Instr.box, newVar, newRow, hc]
    rw [e]
    simp only [Oper.uponIn_value, hd]
    exact h w.heap.size _ _ (ha.put hn _) (hw.alloc _)
theorem G_box1 {t : TypeId} {x : Operand} {d : Nat} {v : Value} (ho : o.op = .box t x) (hx : ev fs x = some v) (hc : v.cells = #[v]) (hd : o.dst = some d) (hn : Nat.blt d n = true) (hg : Goes ops fs o)
    (h : ∀ b, G n ds ((d, .pointer (some ⟨b, 0, none⟩)) :: fs) E (.blk b (.cells #[v] t (0, 0)) :: L) (wpListIn (Wd ro) 0 P ops Q rest)) : G n ds fs E L (wpListIn (Wd ro) 0 P ops Q (o :: rest)) :=
  G_box ho hx hc hd hn hg h
theorem G_boxA {t : TypeId} {x : Operand} {d : Nat} {cs : Array Value} (ho : o.op = .box t x) (hx : ev fs x = some (.agg cs)) (hd : o.dst = some d) (hn : Nat.blt d n = true) (hg : Goes ops fs o)
    (h : ∀ b, G n ds ((d, .pointer (some ⟨b, 0, none⟩)) :: fs) E (.blk b (.cells cs t (0, 0)) :: L) (wpListIn (Wd ro) 0 P ops Q rest)) : G n ds fs E L (wpListIn (Wd ro) 0 P ops Q (o :: rest)) :=
  G_box ho hx rfl hd hn hg h

/-- Stores into a row, one behind the other. -/
def putAll (cs : Array Value) (off : Nat) : List Value → Array Value
  | [] => cs
  | v :: vs => putAll (cs.setIfInBounds off v) (off + 1) vs

theorem setCell_putObj {w : World} {b off : Nat} {cs : Array Value} {T : TypeId} {fz : Nat × Nat} {v : Value} (h : w.heap[b]? = some (.cells cs T fz)) : w.setCell ⟨b, off, none⟩ v = w.putObj b (.cells (cs.setIfInBounds off v) T fz) := by
  obtain ⟨hlt, he⟩ := Array.getElem?_eq_some_iff.1 h
  unfold World.setCell World.putObj
  congr 1
  apply Array.ext
  · simp
  · intro i h1 h2
    by_cases e : b = i
    · subst e
      rw [Array.getElem_modify_self, Array.getElem_setIfInBounds_self, he]
      rfl
    · rw [Array.getElem_modify_of_ne e, Array.getElem_setIfInBounds_ne (by simpa using h1) e]

theorem putObj_putObj (w : World) (b : Nat) (o o' : Obj) : (w.putObj b o).putObj b o' = w.putObj b o' := by
  unfold World.putObj
  congr 1
  simp

theorem run_store1 {w : World} {b off : Nat} {cs : Array Value} {T : TypeId} {v : Value} (h : w.heap[b]? = some (.cells cs T (0, 0))) (hlt : off < cs.size) (hv : v.oneCell' = true) :
    (store ⟨b, off, none⟩ v).run P w = .ok () (w.putObj b (.cells (cs.setIfInBounds off v) T (0, 0))) := by
  rw [run_store P w _ v _ hv]
  have hc : w.cell? ⟨b, off, none⟩ = some cs[off] := by simp [World.cell?, h, hlt]
  have hf : w.frozen? ⟨b, off, none⟩ = false := by simp [World.frozen?, h]
  simp [hc, hf, setCell_putObj h]

theorem run_storeCells {b off : Nat} {T : TypeId} : ∀ (vs : List Value) (cs : Array Value) (i : Nat) (w : World), w.heap[b]? = some (.cells cs T (0, 0)) → off + i + vs.length ≤ cs.size → (∀ v, v ∈ vs → v.oneCell' = true) →
    (storeCells ⟨b, off, none⟩ vs i).run P w = .ok () (w.putObj b (.cells (putAll cs (off + i) vs) T (0, 0))) := by
  intro vs
  induction vs with
  | nil =>
    intro cs i w h _ _
    have : w.putObj b (.cells cs T (0, 0)) = w := by
      unfold World.putObj
      obtain ⟨hlt, he⟩ := Array.getElem?_eq_some_iff.1 h
      congr 1
      apply Array.ext
      · simp
      · intro j h1 h2
        by_cases e : b = j
        · subst e; rw [Array.getElem_setIfInBounds_self, he]
        · rw [Array.getElem_setIfInBounds_ne (by simpa using h1) e]
    rw [putAll, this]; rfl
  | cons v vs ih =>
    intro cs i w h hl hv
    simp only [List.length_cons] at hl
    have ea : (⟨b, off, none⟩ : Addr).add i = ⟨b, off + i, none⟩ := by
      by_cases e : i = 0
      · subst e; simp [Addr.add]
      · simp [Addr.add, e]
    have hlt := (Array.getElem?_eq_some_iff.1 h).1
    have hst := run_store1 (P := P) (off := off + i) (v := v) h (by omega) (hv v (.head _))
    simp only [storeCells, Sem.run_bind, ea, hst, Result.andThen]
    rw [ih (cs.setIfInBounds (off + i) v) (i + 1) _ (World.putObj_heap_same hlt) (by simp; omega) (fun u hu => hv u (.tail _ hu)), putObj_putObj]
    rfl

theorem G_storeAll {t : TypeId} {x y : Operand} {b off : Nat} {v : Value} {vs : List Value} {d : TypeDesc} {ag : Bool} {T : TypeId} {cs cs' : Array Value} {L' : List Res} {sz : Nat} [ht : Ty P t d sz ag]
    (ho : o.op = .store t x y) (hx : ev fs x = some (.pointer (some ⟨b, off, none⟩))) (hy : ev fs y = some v) (hc : v.cells = vs.toArray) (hs : vs.length = sz) (hone : ∀ v, v ∈ vs → v.oneCell' = true)
    (hd : o.dst = none) (hg : Goes ops fs o) (u : Upd L (.blk b (.cells cs T (0, 0))) (.blk b (.cells cs' T (0, 0))) L') (hl : off + vs.length ≤ cs.size) (hcs : putAll cs off vs = cs')
    (h : G n ds fs E L' (wpListIn (Wd ro) 0 P ops Q rest)) : G n ds fs E L (wpListIn (Wd ro) 0 P ops Q (o :: rest)) :=
  G_any hg (by rw [ho]; intro c h; cases h) fun a w ha hw => by
    have hb : w.heap[b]? = some (.cells cs T (0, 0)) := hw.own _ u.mem
    have e : (execOp a.eval o).run P w = .ok .skip (w.putObj b (.cells cs' T (0, 0))) := by
      have := run_storeCells (P := P) (b := b) (off := off) (T := T) vs cs 0 w hb (by simpa using hl) hone
      simp only [Nat.add_zero, hcs] at this
      simp [execOp, ho, ha.eval hx, ha.eval hy, Instr.storeAt, Instr.sureAddr, storeVar, ht.size, Result.andThen, hc, hs, this]
    rw [e]
    simp only [Oper.uponIn_skip, hd]
    exact h _ _ ha (hw.put u)

/-- A store of a whole variable of one cell. -/
theorem G_store1 {t : TypeId} {x y : Operand} {b : Nat} {v u : Value} {d : TypeDesc} {T : TypeId} {L' : List Res} {ag : Bool} [ht : Ty P t d 1 ag]
    (ho : o.op = .store t x y) (hx : ev fs x = some (.pointer (some ⟨b, 0, none⟩))) (hy : ev fs y = some v) (hc : v.cells = #[v]) (hone : v.oneCell' = true)
    (hd : o.dst = none) (hg : Goes ops fs o) (hu : Upd L (.blk b (.cells #[u] T (0, 0))) (.blk b (.cells #[v] T (0, 0))) L')
    (h : G n ds fs E L' (wpListIn (Wd ro) 0 P ops Q rest)) : G n ds fs E L (wpListIn (Wd ro) 0 P ops Q (o :: rest)) :=
  G_storeAll (vs := [v]) ho hx hy hc rfl (by simpa using hone) hd hg hu (by simp) (by simp [putAll]) h
/-- A store of one cell into a row. -/
theorem G_storeAt {t : TypeId} {x y : Operand} {b off : Nat} {v : Value} {d : TypeDesc} {T : TypeId} {cs cs' : Array Value} {L' : List Res} {ag : Bool} [ht : Ty P t d 1 ag]
    (ho : o.op = .store t x y) (hx : ev fs x = some (.pointer (some ⟨b, off, none⟩))) (hy : ev fs y = some v) (hc : v.cells = #[v]) (hone : v.oneCell' = true)
    (hd : o.dst = none) (hg : Goes ops fs o) (hu : Upd L (.blk b (.cells cs T (0, 0))) (.blk b (.cells cs' T (0, 0))) L') (hl : off < cs.size) (hcs : cs.setIfInBounds off v = cs')
    (h : G n ds fs E L' (wpListIn (Wd ro) 0 P ops Q rest)) : G n ds fs E L (wpListIn (Wd ro) 0 P ops Q (o :: rest)) :=
  G_storeAll (vs := [v]) ho hx hy hc rfl (by simpa using hone) hd hg hu (by simpa using Nat.succ_le_of_lt hl) (by simp [putAll, hcs]) h

theorem putAll_toList (vs : List Value) : ∀ (cs : Array Value) (off : Nat), off + vs.length ≤ cs.size → (putAll cs off vs).toList = cs.toList.take off ++ vs ++ cs.toList.drop (off + vs.length) := by
  induction vs with
  | nil => intro cs off _; simp [putAll]
  | cons v vs ih =>
    intro cs off hl
    simp only [List.length_cons] at hl
    simp only [putAll]
    rw [ih _ _ (by simp; omega)]
    simp only [Array.toList_setIfInBounds, List.length_cons]
    rw [List.take_succ_eq_append_getElem (by simp; omega), List.take_set_of_le (by omega), List.drop_set_of_lt (by omega)]
    simp [show off + 1 + vs.length = off + (vs.length + 1) by omega]
/-- A store of a whole struct. -/
theorem G_storeA {t : TypeId} {x y : Operand} {b : Nat} {vs : List Value} {d : TypeDesc} {T : TypeId} {cs : Array Value} {L' : List Res} {sz : Nat} {ag : Bool} [ht : Ty P t d sz ag]
    (ho : o.op = .store t x y) (hx : ev fs x = some (.pointer (some ⟨b, 0, none⟩))) (hy : ev fs y = some (.agg vs.toArray)) (hs : vs.length = sz) (hone : ∀ v, v ∈ vs → v.oneCell' = true)
    (hd : o.dst = none) (hg : Goes ops fs o) (hu : Upd L (.blk b (.cells cs T (0, 0))) (.blk b (.cells vs.toArray T (0, 0))) L') (hl : cs.size = vs.length)
    (h : G n ds fs E L' (wpListIn (Wd ro) 0 P ops Q rest)) : G n ds fs E L (wpListIn (Wd ro) 0 P ops Q (o :: rest)) :=
  G_storeAll ho hx hy rfl hs hone hd hg hu (by omega) (by
    apply Array.toList_inj.1
    rw [putAll_toList _ _ _ (by omega)]
    simp [show cs.toList.drop vs.length = [] from by apply List.drop_of_length_le; simp; omega]) h

end rules
end Go.Proofs.YtjhehanknkonnaaGreatDoor
namespace Go.Proofs.YtjhehanknkonnaaGreatDoor
open Go.RowKit

section draws
variable {P : Program} {ro : Option Nat} {n : Nat} {ds : List Deferred} {fs : List (Nat × Value)} {E : Env} {L : List Res} {ops : Array Oper} {Q : Exit → Act → World → Prop} {rest : List Oper} {o : Oper}

theorem wpIn_of_quiet {C : World → Prop} {a : Act} {K : Act → Prop} {K' : Act → World → Prop} {Q' : Exit → Act → World → Prop} {w : World} (hnd : ∀ c, o.op ≠ .defer c) (hw : C w) (h : ∀ a w', C w' → K a → K' a w') (hh : o.quiet P a C K) :
    o.wpIn (Wd ro) 0 P a w K' Q' := by
  obtain ⟨v, h1, h2⟩ := hh
  have h3 := h1 w hw
  refine ⟨Wd.about, ?_⟩
  rw [Oper.semAt_eq _ _ _ hnd]
  unfold Oper.quietAt at h3
  generalize (execOp a.eval o).run P w = r at *
  cases r with
  | ok x w' =>
    cases x <;> simp only [Oper.quietUpon] at h3 <;> simp only [Oper.uponIn]
    case value u =>
      obtain ⟨e1, e2⟩ := h3
      rw [e1, e2]
      exact h _ _ hw h2
    case skip =>
      obtain ⟨e1, e2⟩ := h3
      rw [e1, ← e2]
      exact h _ _ hw h2
    case enter f args =>
      obtain ⟨e1, hc⟩ := h3
      rw [e1]
      exact ⟨fun h => by simp [Wd] at h, (Wd.calls hc).mono fun e w'' ⟨he, hw''⟩ => by subst he; exact h _ _ hw'' h2⟩
  | halt x w' => simp only [Oper.quietUpon] at h3

theorem wpAnyIn_of_quiet {C : World → Prop} {md : Region.Mode} {Q1 : Act → Prop} {Q' : Exit → Act → World → Prop} (hnd : ∀ (i : Nat) (o : Oper) c, ops[i]? = some o → o.op ≠ .defer c) (hQ : ∀ a w, C w → Q1 a → Q' .normal a w) : ∀ (fuel : Nat) (listed : Array Bool) (a : Act) (w : World), C w →
    wpAnyQ P md ops C Q1 fuel listed a → wpAnyIn (Wd ro) 0 P md ops Q' fuel listed a w
  | 0, _, _, _, hw, h => ⟨h.1, hQ _ _ hw h.2⟩
  | fuel + 1, listed, a, w, hw, h => ⟨fun h0 => hQ _ _ hw (h.1 h0), fun i hi => by
      have hh := h.2 i hi
      unfold qOp at hh
      unfold wpOpIn
      split
      · rename_i ho
        simp only [ho] at hh
        exact wpAnyIn_of_quiet hnd hQ fuel _ _ _ hw hh
      · rename_i o ho
        simp only [ho] at hh
        split
        · rename_i hg; simp only [hg, if_true] at hh
          exact wpIn_of_quiet (hnd i o · ho) hw (fun a' w' hw' => wpAnyIn_of_quiet hnd hQ fuel _ a' w' hw') hh
        · rename_i hg; simp only [hg] at hh
          exact ⟨Wd.about, wpAnyIn_of_quiet hnd hQ fuel _ _ _ hw hh⟩⟩

def noDefer (l : List Oper) : Bool := l.all fun o => match o.op with | .defer _ => false | _ => true

/-- X holds in every frame of which this is known. -/
def GQ (n : Nat) (ds : List Deferred) (fs : List (Nat × Value)) (X : Act → Prop) : Prop := ∀ a, Fr n ds fs a → X a

theorem G_draw {id : Nat} {l : List Oper} (hm : P.follows .mixedOrders = true) (hB : (Region.lexB .any l.toArray && noDefer l) = true)
    (h : GQ n ds fs (wpQuiet P l.toArray (St E L) (fun a' => ∀ w', St E L w' → Q .normal a' w') l)) : G n ds fs E L ((Code.region id l.toArray true).wpIn (Wd ro) 0 P Q) := by
  intro a w ha hw
  simp only [Bool.and_eq_true, Region.lexB] at hB
  obtain ⟨⟨hB1, hB2⟩, hB3⟩ := hB
  refine wpIn_region_any hm (wpAnyIn_of_quiet (C := St E L) (Q1 := fun a' => ∀ w', St E L w' → Q .normal a' w') ?_ (fun _ w' hw' h => h w' hw') _ _ _ _ (hw.drew _) ?_)
  · intro i o c ho hc
    have hmem : o ∈ l := List.mem_of_getElem? (by simpa using ho)
    have := (List.all_eq_true.1 hB3) o hmem
    rw [hc] at this; cases this
  · have := wpAnyQ_lex (C := St E L) (md := .any) hB1 l 0 (Array.replicate l.toArray.size false) a (by simp) (by simpa using hB2) (h a ha)
    simpa using this

theorem Q_end (h : G n ds fs E L (fun a w => Q .normal a w)) : GQ n ds fs (wpQuiet P ops (St E L) (fun a' => ∀ w', St E L w' → Q .normal a' w') []) :=
  fun a ha w hw => h a w ha hw
variable {K : Act → Prop}
theorem Q_val {d : Nat} {v : Value} (hv : Val P o fs E L v) (hd : o.dst = some d) (hn : Nat.blt d n = true) (hg : Goes ops fs o)
    (h : GQ n ds ((d, v) :: fs) (wpQuiet P ops (St E L) K rest)) : GQ n ds fs (wpQuiet P ops (St E L) K (o :: rest)) := by
  intro a ha
  unfold wpQuiet
  rw [if_pos (hg.wanted ha)]
  refine ⟨v, fun w hw => ?_, ?_⟩
  · unfold Oper.quietAt; rw [hv.2 n ds a w ha hw]; exact ⟨rfl, rfl⟩
  · rw [hd]; exact h _ (ha.put hn v)
theorem Q_callv {k : FuncId} [Ent P k] {args : Array Value} {d : Nat} {r : Value} (ht : Goesto fs o k args) (hd : o.dst = some d) (hn : Nat.blt d n = true) (hg : Goes ops fs o)
    (hc : CallV P k args E L r) (h : GQ n ds ((d, r) :: fs) (wpQuiet P ops (St E L) K rest)) : GQ n ds fs (wpQuiet P ops (St E L) K (o :: rest)) := by
  intro a ha
  unfold wpQuiet
  rw [if_pos (hg.wanted ha)]
  refine ⟨r, fun w hw => ?_, ?_⟩
  · unfold Oper.quietAt; rw [ht.run ha]; exact ⟨rfl, hc w hw⟩
  · rw [hd]; exact h _ (ha.put hn r)
end draws

section ranges
variable {P : Program} {ro : Option Nat} {n : Nat} {ds : List Deferred} {fs : List (Nat × Value)} {E : Env} {L : List Res} {ops : Array Oper} {Q : Exit → Act → World → Prop} {rest : List Oper} {o : Oper}

/-- A call of yield, said of known memory. -/
def CallY (P : Program) (l : Nat) (args : Array Value) (E : Env) (L : List Res) (Post : Value → Env → List Res → Prop) : Prop :=
  ∀ w, St E L w → YieldAt Fence.wide 0 P l args w (RetP E Post)

theorem CallY.mono {l : Nat} {args : Array Value} {Post Post' : Value → Env → List Res → Prop} (h : CallY P l args E L Post) (hp : ∀ r E' L', E.Le E' → Post r E' L' → Post' r E' L') : CallY P l args E L Post' := fun w hw => by
  obtain ⟨fn, tmps, asn, bd, h1, h2⟩ := h w hw
  exact ⟨fn, tmps, asn, bd, h1, h2.mono fun e w' ⟨r, E', L', he, hE, hs, hq⟩ => ⟨r, E', L', he, hE, hs, hp r E' L' hE hq⟩⟩

/-- What a call's operation asks for: a round of loop l. -/
def Yieldsto (fs : List (Nat × Value)) (o : Oper) (l : Nat) (args : Array Value) : Prop :=
  ∃ f xs ts vs, o.op = .call { callee := .value f, args := xs, argTypes := ts } ∧ ev fs f = some (.func (.yield l) #[] #[]) ∧ xs.toList.mapM (ev fs) = some vs ∧ args = vs.toArray
theorem Yieldsto.mk {f : Operand} {xs : List Operand} {ts : Array TypeId} {vs : List Value} {l : Nat} {args : Array Value} (ho : o.op = .call { callee := .value f, args := xs.toArray, argTypes := ts })
    (hf : ev fs f = some (.func (.yield l) #[] #[])) (hx : xs.mapM (ev fs) = some vs) (ha : args = vs.toArray) : Yieldsto fs o l args :=
  ⟨f, _, ts, vs, ho, hf, by simpa using hx, ha⟩

theorem G_yield {l : Nat} {args : Array Value} {d : Nat} {Post : Value → Env → List Res → Prop} (ht : Yieldsto fs o l args) (hd : o.dst = some d) (hn : Nat.blt d n = true) (hg : Goes ops fs o)
    (hc : CallY P l args E L Post)
    (h : ∀ r E' L', E.Le E' → Post r E' L' → G n ds ((d, r) :: fs) E' L' (wpListIn (Wd ro) 0 P ops Q rest)) : G n ds fs E L (wpListIn (Wd ro) 0 P ops Q (o :: rest)) :=
  G_any hg (by obtain ⟨f, xs, ts, vs, ho, _⟩ := ht; rw [ho]; intro c hc; cases hc) fun a w ha hw => by
    obtain ⟨f, xs, ts, vs, ho, hf, hx, rfl⟩ := ht
    obtain ⟨fn, tmps, asn, bd, h1, h2⟩ := hc w hw
    have e1 := evs_args ha hx
    simp only [Array.toArray_toList] at e1
    have e2 := ha.eval hf
    have e : (execOp a.eval o).run P w = .ok (.round l fn tmps asn bd) w := by
      simp only [execOp, ho, resolve, e2, Deferred.ofValue, e1]
      simp [invoke, h1]
    rw [e]
    simp only [Oper.uponIn_round]
    refine ⟨fun h => by simp [Wd] at h, RoundIn.mono (R := RetP E Post) h2 ?_⟩
    rintro e w' ⟨r, E', L', rfl, hE, hs, hp⟩
    simp only [hd]
    exact h r E' L' hE hp _ _ (ha.put hn r) hs

/-- The state of a loop over a function, between two rounds. -/
def loopRec (fn : FuncId) (tmps : Array Value) (ps : Array Tmp) (assign body : Code) (D : Nat) (st : LoopState) (p : Option Code) : Obj :=
  .loop { state := st, pending := p, fn := fn, tmps := tmps, params := ps, assign := assign, body := body, defers := D }

def Begin (P : Program) (l : Nat) (body : Code) (R : Ending → World → Prop) (a : Act) (w : World) : Prop :=
  ∃ w₂, (Instr.beginRound l).run P w = .ok () w₂ ∧ body.wpIn (Wd (some l)) 0 P (roundPost P l R) a w₂

theorem G_begin {l : Nat} {body asn : Code} {R : Ending → World → Prop} {fn : FuncId} {tmps : Array Value} {ps : Array Tmp} {bd : Code} {D : Nat} {p : Option Code} {L' : List Res}
    (u : Upd L (.blk l (loopRec fn tmps ps asn bd D .ready p)) (.blk l (loopRec fn tmps ps asn bd D .busy p)) L') (h : G n ds fs E L' (body.wpIn (Wd (some l)) 0 P (roundPost P l R))) :
    G n ds fs E L (Begin P l body R) := fun a w ha hw => by
  have hb : w.heap[l]? = some (loopRec fn tmps ps asn bd D .ready p) := hw.own _ u.mem
  exact ⟨_, run_beginRound hb rfl, h a _ ha (hw.put u)⟩

/-- A round, out of the walk of its two codes. -/
theorem CallY.round {l : Nat} {fn : FuncId} {tmps : Array Value} {ps : Array Tmp} {asn bd : Code} {D : Nat} {p : Option Code} {args : Array Value} {Post : Value → Env → List Res → Prop}
    (hm : Res.blk l (loopRec fn tmps ps asn bd D .ready p) ∈ L) (hs : args.size = ps.size) (hfr : Fr n [] fs { tmps := (ps.zip args).foldl (fun tmps (t, a) => tmps.setIfInBounds t a) tmps, defers := [] })
    (h : G n [] fs E L (asn.wpIn (Wd (some l)) 0 P (Exit.then (Begin P l bd (RetP E Post)) (fun _ _ _ => False)))) : CallY P l args E L Post := fun w hw => by
  have hb : w.heap[l]? = some (loopRec fn tmps ps asn bd D .ready p) := hw.own _ hm
  exact ⟨fn, _, asn, bd, run_yield hb hs, roundIn_of_wpIn (F := Fence.wide) trivial (h _ _ hfr hw)⟩

def mark (D : Nat) : Deferred := { target := .collected D, args := #[] }

/-- 'for .. := range g { .. }', in no round. -/
theorem G_range {g : Operand} {ps : Array Tmp} {asn bd : Code} {gf : FuncId} [Ent P gf] {cap : Array Value} (hg : ev fs g = some (.func (.func gf) #[] cap))
    (Post : Nat → Nat → Array Value → FuncId → Value → Env → List Res → Prop)
    (hc : ∀ l D tm fn, Fr n ds fs ⟨tm, ds⟩ → CallS P gf (#[.func (.yield l) #[] #[]] ++ cap) E (.blk l (loopRec fn tm ps asn bd D .ready none) :: .blk D (.deferred (some [])) :: L) (Post l D tm fn))
    (hk : ∀ l D tm fn v E' L', E.Le E' → Post l D tm fn v E' L' → ∃ st p L'', Upd L' (.blk l (loopRec fn tm ps asn bd D st p)) (.blk l (loopRec fn tm ps asn bd D .exhausted p)) L'' ∧ st ≠ .busy ∧
      (match p with
       | none => G n (mark D :: ds) fs E' L'' (fun a w => Q .normal a w)
       | some c => G n (mark D :: ds) fs E' L'' (c.wpIn (Wd none) 0 P Q))) :
    G n ds fs E L ((Code.rangeFunc g ps asn bd).wpIn (Wd none) 0 P Q) := fun a w ha hw => by
  refine wpIn_rangeFunc ?_
  intro fn _
  have hg' := ha.eval hg
  have hst : St E (.blk (w.heap.size + 1) (loopRec fn a.tmps ps asn bd w.heap.size .ready none) :: .blk w.heap.size (.deferred (some [])) :: L) ((w.alloc (.deferred (some []))).alloc (loopRec fn a.tmps ps asn bd w.heap.size .ready none)) := by
    have := (hw.alloc (.deferred (some []))).alloc (loopRec fn a.tmps ps asn bd w.heap.size .ready none)
    rwa [World.size_alloc] at this
  have hfr : Fr n ds fs ⟨a.tmps, ds⟩ := ⟨ha.size, rfl, ha.get⟩
  let W1 := (w.alloc (.deferred (some []))).alloc (loopRec fn a.tmps ps asn bd w.heap.size .ready none)
  refine ⟨w.heap.size + 1, [mark w.heap.size], W1, { target := .fn (.func gf) cap, args := #[.func (.yield (w.heap.size + 1)) #[] #[]] }, W1, gf,
    #[.func (.yield (w.heap.size + 1)) #[] #[]] ++ cap, W1, run_enterLoop_outer _ _ _ _ _, ?_, fun _ _ => trivial, ?_, fun h => by simp [Wd] at h, ?_⟩
  · simp only [resolve, hg']
    simp [go_sem]
  · simp [invoke, Ent.ent]
  · refine (Wd.calls (hc (w.heap.size + 1) w.heap.size a.tmps fn hfr _ hst)).mono ?_
    rintro e w3 ⟨r, E', L', rfl, hE, hs, hp⟩
    obtain ⟨st, p, L'', u, hb, hq⟩ := hk _ _ _ _ _ _ _ hE hp
    have hb3 : w3.heap[w.heap.size + 1]? = some (loopRec fn a.tmps ps asn bd w.heap.size st p) := hs.own _ u.mem
    refine ⟨p, _, run_endLoop hb3 hb, ?_⟩
    have hs4 := hs.put u
    have hfr4 : Fr n (mark w.heap.size :: ds) fs { a with defers := [mark w.heap.size] ++ a.defers } := ⟨ha.size, by simp [ha.defers], ha.get⟩
    cases p with
    | none => exact hq _ _ hfr4 hs4
    | some c => exact hq _ _ hfr4 hs4

/-- A function's end, where marks of loops stand among its deferred calls. -/
theorem G_leave_m {fn : Func} {R : Ending → World → Prop} {D : Nat} {L' : List Res} (u : Upd L (.blk D (.deferred (some []))) (.blk D (.deferred none)) L')
    (h : G n ds fs E L' (fun a w => bodyPostM (Wd ro) 0 P fn R .ret a w)) : G n (mark D :: ds) fs E L (fun a w => bodyPostM (Wd ro) 0 P fn R .ret a w) := fun a w ha hw => by
  show LeavesInM (Wd ro) 0 P fn a.tmps R a.defers .returning w
  rw [ha.defers]
  have hb : w.heap[D]? = some (.deferred (some [])) := hw.own _ u.mem
  refine ⟨by simp, .inl ⟨D, _, rfl, run_takeDeferred hb, ?_⟩⟩
  have := h ⟨a.tmps, ds⟩ _ ⟨ha.size, rfl, ha.get⟩ (hw.put u)
  exact this

/-- The blocks of loops' marks. -/
def dblk (D : Nat) : Res := .blk D (.deferred (some []))
theorem G_leave_ms {fn : Func} {R : Ending → World → Prop} (Ds : List Nat) (h : G n [] fs E L (fun a w => bodyPostM (Wd ro) 0 P fn R .ret a w)) :
    G n (Ds.map mark) fs E (Ds.map dblk ++ L) (fun a w => bodyPostM (Wd ro) 0 P fn R .ret a w) := by
  induction Ds with
  | nil => exact h
  | cons D Ds ih => exact G_leave_m (.head _ _ _) ih.drop

theorem CallS.perm {k : FuncId} {args : Array Value} {L' : List Res} {Post : Value → Env → List Res → Prop} (p : L.Perm L') (h : CallS P k args E L' Post) : CallS P k args E L Post := fun w hw => h w (hw.perm p)
theorem CallY.perm {l : Nat} {args : Array Value} {L' : List Res} {Post : Value → Env → List Res → Prop} (p : L.Perm L') (h : CallY P l args E L' Post) : CallY P l args E L Post := fun w hw => h w (hw.perm p)

/-- How a call of yield must end. -/
def YPost {α : Type} (M : List Res) (Inv InvX : List α → Env → List Res → Prop) (pre : List α) (r : Value) (E' : Env) (L' : List Res) : Prop :=
  ∃ L3, L' = M ++ L3 ∧ ((r = .bool true ∧ Inv pre E' L3) ∨ (r = .bool false ∧ InvX pre E' L3))

/-- An iterator that yields xs, in this order, and then ends; it owns Li. -/
def Iter {α : Type} (P : Program) (gf : FuncId) (cap : Array Value) (enc : α → Array Value) (xs : List α) (E : Env) (Li : List Res) : Prop :=
  ∀ (l : Nat) (E1 : Env) (L1 : List Res) (Inv InvX : List α → Env → List Res → Prop), E.Le E1 → Inv [] E1 L1 →
    (∀ pre x E2 L2 M, E1.Le E2 → pre ++ [x] <+: xs → Inv pre E2 L2 → CallY P l (enc x) E2 (M ++ L2) (YPost M Inv InvX (pre ++ [x]))) →
    CallS P gf (#[.func (.yield l) #[] #[]] ++ cap) E1 (Li ++ L1) (fun _ E' L' => ∃ M L3, L' = M ++ L3 ∧ (Inv xs E' L3 ∨ ∃ pre, pre <+: xs ∧ InvX pre E' L3))

def pset : List Nat → List Value → List (Nat × Value) → List (Nat × Value)
  | p :: ps, v :: vs, fs => pset ps vs ((p, v) :: fs)
  | _, _, fs => fs
theorem Fr.pset : ∀ (ps : List Nat) (vs : List Value) (fs : List (Nat × Value)) (tm : Array Value), Fr n ds fs ⟨tm, ds⟩ → (ps.all fun p => Nat.blt p n) = true →
    Fr n [] (pset ps vs fs) { tmps := (ps.zip vs).foldl (fun tmps (t, a) => tmps.setIfInBounds t a) tm, defers := [] } := by
  intro ps
  induction ps with
  | nil => intro vs fs tm h _; cases vs <;> exact ⟨h.size, rfl, h.get⟩
  | cons p ps ih =>
    intro vs fs tm h hp
    simp only [List.all_cons, Bool.and_eq_true] at hp
    cases vs with
    | nil => exact ⟨h.size, rfl, h.get⟩
    | cons v vs =>
      have h' := h.put hp.1 v
      exact ih vs _ _ h' hp.2

def RInv {α σ : Type} (l : Nat) (rec : LoopState → Option Code → Obj) (D : Nat) (sE : σ → Env) (A : σ → List Res) (I : List α → σ → Prop) (pre : List α) (E' : Env) (L' : List Res) : Prop :=
  ∃ s, I pre s ∧ E' = sE s ∧ L' = .blk l (rec .ready none) :: dblk D :: A s
def RInvX {α σ : Type} (l : Nat) (rec : LoopState → Option Code → Obj) (D : Nat) (sE : σ → Env) (A : σ → List Res) (Ix : Code → List α → σ → Prop) (pre : List α) (E' : Env) (L' : List Res) : Prop :=
  ∃ c s, Ix c pre s ∧ E' = sE s ∧ L' = .blk l (rec .done (some c)) :: dblk D :: A s

/-- 'for x := range seq { .. }', in no round, over an iterator that has its contract. -/
theorem G_rangeI {α σ : Type} {g : Operand} {ps : List Tmp} {asn bd : Code} {gf : FuncId} [Ent P gf] {cap : Array Value} {enc : α → List Value} {xs : List α} {Li : List Res} (hg : ev fs g = some (.func (.func gf) #[] cap))
    (it : Iter P gf cap (fun x => (enc x).toArray) xs E Li) (sE : σ → Env) (A : σ → List Res) (I : List α → σ → Prop) (Ix : Code → List α → σ → Prop) (s0 : σ) (h0 : I [] s0) (hE0 : sE s0 = E) (hL : L.Perm (Li ++ A s0))
    (hps : (ps.all fun p => Nat.blt p n) = true) (henc : ∀ x, (enc x).length = ps.length)
    (hround : ∀ l D tm fn M pre x s, pre ++ [x] <+: xs → I pre s → E.Le (sE s) →
      G n [] (pset ps (enc x) fs) (sE s) (.blk l (loopRec fn tm ps.toArray asn bd D .ready none) :: dblk D :: (A s ++ M))
        (asn.wpIn (Wd (some l)) 0 P (Exit.then (Begin P l bd (RetP (sE s) (YPost M (RInv l (loopRec fn tm ps.toArray asn bd D) D sE A I) (RInvX l (loopRec fn tm ps.toArray asn bd D) D sE A Ix) (pre ++ [x])))) (fun _ _ _ => False))))
    (hdone : ∀ D s, I xs s → E.Le (sE s) → G n (mark D :: ds) fs (sE s) (dblk D :: A s) (fun a w => Q .normal a w))
    (hstop : ∀ D c pre s, pre <+: xs → Ix c pre s → E.Le (sE s) → G n (mark D :: ds) fs (sE s) (dblk D :: A s) (c.wpIn (Wd none) 0 P Q)) :
    G n ds fs E L ((Code.rangeFunc g ps.toArray asn bd).wpIn (Wd none) 0 P Q) := by
  refine G_range (gf := gf) hg (fun l D tm fn _ E' L' => ∃ M L3, L' = M ++ L3 ∧ (RInv l (loopRec fn tm ps.toArray asn bd D) D sE A I xs E' L3 ∨ ∃ pre, pre <+: xs ∧ RInvX l (loopRec fn tm ps.toArray asn bd D) D sE A Ix pre E' L3)) ?_ ?_
  · intro l D tm fn hfr
    refine CallS.perm ?_ (it l E (.blk l (loopRec fn tm ps.toArray asn bd D .ready none) :: dblk D :: A s0) _ _ (.refl E) ⟨s0, h0, hE0.symm, rfl⟩ ?_)
    · refine ((hL.cons _).cons _).trans ?_
      have : ∀ a b : Res, (a :: b :: (Li ++ A s0)).Perm (Li ++ (a :: b :: A s0)) := fun a b => by
        have h1 := List.perm_append_comm (l₁ := [a, b]) (l₂ := Li)
        have h2 := h1.append_right (A s0)
        simpa using h2
      exact this _ _
    · rintro pre x E2 L2 M hE2 hpre ⟨s, hs, rfl, rfl⟩
      refine CallY.perm (L' := .blk l (loopRec fn tm ps.toArray asn bd D .ready none) :: dblk D :: (A s ++ M)) (by simpa using List.perm_append_comm (l₁ := M) (l₂ := .blk l (loopRec fn tm ps.toArray asn bd D .ready none) :: dblk D :: A s)) ?_
      refine CallY.round (p := none) (.head _) (by simp [henc]) (fs := pset ps (enc x) fs) ?_ (hround l D tm fn M pre x s hpre hs hE2)
      have := Fr.pset ps (enc x) fs tm hfr hps
      simpa using this
  · rintro l D tm fn v E' L' hE ⟨M, L3, rfl, (⟨s, hs, rfl, rfl⟩ | ⟨pre, hpre, c, s, hs, rfl, rfl⟩)⟩
    · refine ⟨.ready, none, _, Upd.app M (.head _ _ _), by simp, ?_⟩
      exact G.dropAll M (G.drop (hdone D s hs hE))
    · refine ⟨.done, some c, _, Upd.app M (.head _ _ _), by simp, ?_⟩
      exact G.dropAll M (G.drop (hstop D c pre s hpre hs hE))

/-- A round's end. -/
theorem G_rEnd {α σ : Type} {l D : Nat} {fn : FuncId} {tm : Array Value} {ps : Array Tmp} {asn bd : Code} {sE : σ → Env} {A : σ → List Res} {I : List α → σ → Prop} {Ix : Code → List α → σ → Prop} {M : List Res} {pre : List α} {E0 : Env} (s : σ)
    (hs : I pre s) (hE : sE s = E) (hE0 : E0.Le E) (hL : L = .blk l (loopRec fn tm ps asn bd D .busy none) :: dblk D :: (A s ++ M)) :
    G n ds fs E L (fun a w => roundPost P l (RetP E0 (YPost M (RInv l (loopRec fn tm ps asn bd D) D sE A I) (RInvX l (loopRec fn tm ps asn bd D) D sE A Ix) pre)) .normal a w) := by
  subst hL
  intro a w ha hw
  have hb : w.heap[l]? = some (loopRec fn tm ps asn bd D .busy none) := hw.own _ (.head _)
  refine ⟨_, _, run_endRound none hb, _, E, M ++ (.blk l (loopRec fn tm ps asn bd D .ready none) :: dblk D :: A s), rfl, hE0, ?_, ⟨_, rfl, .inl ⟨rfl, s, hs, hE.symm, rfl⟩⟩⟩
  refine (hw.put (.head _ _ _)).perm ?_
  have hp : (.blk l (loopRec fn tm ps asn bd D .ready none) :: dblk D :: A s ++ M : List Res).Perm (M ++ (.blk l (loopRec fn tm ps asn bd D .ready none) :: dblk D :: A s)) := List.perm_append_comm
  exact hp
end ranges
end Go.Proofs.YtjhehanknkonnaaGreatDoor
namespace Go.Proofs.YtjhehanknkonnaaGreatDoor
open Go.RowKit

def Env.cell (E : Env) (p : Addr) : Option Value := match E.heap p.block with
  | some (.cells cs _ _) => if p.spot.isSome then none else cs[p.off]?
  | _ => none
theorem Env.cell_st {E : Env} {L : List Res} {w : World} {p : Addr} {v : Value} (h : E.cell p = some v) (hw : St E L w) : w.cell? p = some v := by
  unfold Env.cell at h
  split at h
  · rename_i cs T fz hb
    have := hw.env _ _ hb
    simp only [World.cell?, this]; exact h
  · cases h
theorem Env.cell_mono {E E' : Env} {p : Addr} {v : Value} (h : E.cell p = some v) (hE : E.Le E') : E'.cell p = some v := by
  unfold Env.cell at h ⊢
  split at h
  · rename_i cs T fz hb
    rw [hE.1 _ _ hb]; exact h
  · cases h

/-- A slice that is E's: n elements of sz cells each, which hold these values. -/
def SlE (E : Env) (sz : Nat) (a : Option Addr) (n : Nat) (vals : List Value) : Prop :=
  vals.length = n * sz ∧ ((a = none ∧ n = 0) ∨ ∃ p, a = some p ∧ (p.spot = none ∨ n = 0) ∧ ∀ j v, vals[j]? = some v → E.cell (p.add j) = some v)
theorem SlE.mono {E E' : Env} {sz : Nat} {a : Option Addr} {n : Nat} {vals : List Value} (h : SlE E sz a n vals) (hE : E.Le E') : SlE E' sz a n vals :=
  ⟨h.1, h.2.imp id fun ⟨p, h1, h2, h3⟩ => ⟨p, h1, h2, fun j v hj => Env.cell_mono (h3 j v hj) hE⟩⟩
theorem SlE.nil {E : Env} {sz : Nat} : SlE E sz none 0 [] := ⟨by simp, .inl ⟨rfl, rfl⟩⟩

theorem SlE.lit {E : Env} {b : Nat} {l : List Value} {T : TypeId} {fz : Nat × Nat} {n sz : Nat} (h : (Res.blk b (.cells l.toArray T fz)).ok E.heap) (hl : l.length = n * sz) : SlE E sz (some ⟨b, 0, none⟩) n l :=
  ⟨hl, .inr ⟨_, rfl, .inl rfl, fun j v hj => by
    have hb : E.heap b = some (.cells l.toArray T fz) := h
    by_cases e : j = 0
    · subst e; simpa [Env.cell, Addr.add, hb] using hj
    · simpa [Env.cell, Addr.add, e, hb] using hj⟩⟩

/-- A slice that can be read. -/
def Rd (E : Env) (L : List Res) (sz : Nat) (a : Option Addr) (n : Nat) (vals : List Value) : Prop :=
  vals.length = n * sz ∧ ∀ w, St E L w → ((a = none ∧ n = 0) ∨ ∃ p, a = some p ∧ (p.spot = none ∨ n = 0) ∧ ∀ j v, vals[j]? = some v → w.cell? (p.add j) = some v)
theorem SlE.rd {E : Env} {L : List Res} {sz : Nat} {a : Option Addr} {n : Nat} {vals : List Value} (h : SlE E sz a n vals) : Rd E L sz a n vals :=
  ⟨h.1, fun _ hw => h.2.imp id fun ⟨p, h1, h2, h3⟩ => ⟨p, h1, h2, fun j v hj => Env.cell_st (h3 j v hj) hw⟩⟩

/-- A slice of the call's own: it may be appended to. -/
def slOk (e : TypeId) (sz : Nat) (a : Option Addr) (n cap : Nat) (xs : List Value) (h : Nat → Option Obj) : Prop :=
  xs.length = n * sz ∧ ((a = none ∧ cap = 0 ∧ n = 0) ∨
    ∃ g cur, a = some ⟨g, 0, none⟩ ∧ h g = some (.cells cur e (0, 0)) ∧ n ≤ cap ∧ cap ≤ maxLen ∧ cur.size = cap * sz ∧ cur.toList.take (n * sz) = xs)
def Res.sl (e : TypeId) (sz : Nat) (a : Option Addr) (n cap : Nat) (xs : List Value) : Res :=
  ⟨(a.map (·.block)).toList, slOk e sz a n cap xs, fun h h' hh ⟨h1, h2⟩ => ⟨h1, h2.imp id fun ⟨g, cur, e1, e2, e3⟩ => ⟨g, cur, e1, by rw [← hh g (by simp [e1])]; exact e2, e3⟩⟩⟩

theorem slOk.owns {e : TypeId} {sz : Nat} {a : Option Addr} {n cap : Nat} {xs : List Value} {w : World} (h : slOk e sz a n cap xs (fun b => w.heap[b]?)) : w.ownsRow 0 e sz (.slice a n cap) n xs := by
  obtain ⟨h1, h2⟩ := h
  refine ⟨h1, ?_⟩
  rcases h2 with ⟨rfl, rfl, rfl⟩ | ⟨g, cur, rfl, e2, e3, e4, e5, e6⟩
  · exact .inl ⟨rfl, rfl⟩
  · exact .inr ⟨g, cap, cur, rfl, Nat.zero_le _, e2, e3, e4, e5, e6⟩
theorem slOk.of {e : TypeId} {sz : Nat} {v : Value} {n : Nat} {xs : List Value} {w : World} (h : w.ownsRow 0 e sz v n xs) : ∃ a cap, v = .slice a n cap ∧ slOk e sz a n cap xs (fun b => w.heap[b]?) := by
  obtain ⟨h1, h2⟩ := h
  rcases h2 with ⟨rfl, rfl⟩ | ⟨g, cap, cur, rfl, _, e2, e3, e4, e5, e6⟩
  · exact ⟨none, 0, rfl, h1, .inl ⟨rfl, rfl, rfl⟩⟩
  · exact ⟨_, cap, rfl, h1, .inr ⟨g, cur, rfl, e2, e3, e4, e5, e6⟩⟩

theorem addr_add (b off j : Nat) : (⟨b, off, none⟩ : Addr).add j = ⟨b, off + j, none⟩ := by
  by_cases h : j = 0
  · subst h; simp [Addr.add]
  · simp [Addr.add, h]

theorem Rd.sl {E : Env} {L : List Res} {e : TypeId} {sz : Nat} {a : Option Addr} {n cap : Nat} {xs : List Value} (hm : Res.sl e sz a n cap xs ∈ L) (hl : xs.length = n * sz) : Rd E L sz a n xs := ⟨hl, fun w hw => by
  obtain ⟨_, h2⟩ := hw.own _ hm
  rcases h2 with ⟨rfl, _, rfl⟩ | ⟨g, cur, rfl, e2, _, _, e5, e6⟩
  · exact .inl ⟨rfl, rfl⟩
  · refine .inr ⟨_, rfl, .inl rfl, fun j v hj => ?_⟩
    rw [addr_add]
    have hj' : cur.toList[j]? = some v := by
      rw [← e6] at hj
      rw [List.getElem?_take] at hj
      split at hj
      · exact hj
      · cases hj
    simp only [World.cell?]
    simp only at e2
    rw [e2]
    simpa using hj'⟩
theorem Rd.blk {E : Env} {L : List Res} {sz b off : Nat} {cs : Array Value} {T : TypeId} {fz : Nat × Nat} {n : Nat} {vals : List Value} (hm : Res.blk b (.cells cs T fz) ∈ L) (hl : vals.length = n * sz) (hv : ∀ j v, vals[j]? = some v → cs[off + j]? = some v) :
    Rd E L sz (some ⟨b, off, none⟩) n vals := ⟨hl, fun w hw => .inr ⟨_, rfl, .inl rfl, fun j v hj => Cells.at (E := E) hm hv w hw j v hj⟩⟩
/-- A block whole, as a slice. -/
theorem Rd.lit {E : Env} {L : List Res} {b : Nat} {l : List Value} {T : TypeId} {fz : Nat × Nat} {n sz : Nat} (hm : Res.blk b (.cells l.toArray T fz) ∈ L) (hl : l.length = n * sz) : Rd E L sz (some ⟨b, 0, none⟩) n l :=
  Rd.blk hm hl fun j v hj => by simpa using hj

/-- The address of cell k of a slice. -/
def elemAt (a : Option Addr) (k : Nat) : Addr := (a.getD default).add k

theorem Rd.cell {E : Env} {L : List Res} {sz : Nat} {a : Option Addr} {n : Nat} {vals : List Value} (h : Rd E L sz a n vals) {k : Nat} {v : Value} (hv : vals[k]? = some v) : Cell E L (elemAt a k) v := fun w hw => by
  rcases h.2 w hw with ⟨_, rfl⟩ | ⟨p, rfl, _, h3⟩
  · have := h.1; simp at this; subst this; simp at hv
  · exact h3 k v hv
theorem Rd.cells {E : Env} {L : List Res} {sz : Nat} {a : Option Addr} {n : Nat} {vals : List Value} (h : Rd E L sz a n vals) {k : Nat} {vs : List Value} (hv : ∀ j v, vs[j]? = some v → vals[k + j]? = some v) : Cells E L (elemAt a k) vs := fun w hw j v hj => by
  rcases h.2 w hw with ⟨_, rfl⟩ | ⟨p, rfl, hp, h3⟩
  · have h1 := h.1; simp at h1; subst h1; have := hv j v hj; simp at this
  · have := h3 (k + j) v (hv j v hj)
    obtain ⟨b, off, sp⟩ := p
    rcases hp with hp | hp
    case inr => have h1 := h.1; subst hp; simp at h1; subst h1; have := hv j v hj; simp at this
    simp only at hp
    subst hp
    simp only [elemAt, Option.getD_some, addr_add] at this ⊢
    rw [Nat.add_assoc]; exact this

section rules
variable {P : Program} {ro : Option Nat} {n : Nat} {ds : List Deferred} {fs : List (Nat × Value)} {E : Env} {L : List Res} {ops : Array Oper} {Q : Exit → Act → World → Prop} {rest : List Oper} {o : Oper}

theorem V_lenS {x : Operand} {t : TypeId} {e : TypeId} {sz : Nat} {ag : Bool} [ht : Ty P t (.slice e) sz ag] {a : Option Addr} {m c : Nat} (ho : o.op = .call { callee := .builtin .len, args := #[x], argTypes := #[t] })
    (hx : ev fs x = some (.slice a m c)) : Val P o fs E L (.int .i64 m) :=
  ⟨(by rw [ho]; intro c h; cases h), fun n ds a' w ha _ => by simp [execOp, ho, ha.eval hx, resolve, invoke, builtin, Builtin.len_, ht.run, goInt]⟩

theorem V_idxAddr {x y : Operand} {t e : TypeId} {d : TypeDesc} {sz sz' : Nat} {ag ag' : Bool} [ht : Ty P t (.slice e) sz' ag'] [he : Ty P e d sz ag] {a : Option Addr} {m c : Nat} {k : IntKind} {i : Int} {vals : List Value}
    (ho : o.op = .indexAddr t x y) (hx : ev fs x = some (.slice a m c)) (hy : ev fs y = some (.int k i)) (hr : Rd E L sz a m vals) (h0 : 0 ≤ i) (h1 : i < m) : Val P o fs E L (.pointer (some (elemAt a (i.toNat * sz)))) :=
  ⟨(by rw [ho]; intro c h; cases h), fun n ds a' w ha hw => by
    rcases hr.2 w hw with ⟨_, rfl⟩ | ⟨p, rfl, hp, _⟩
    · omega
    · simp [execOp, ho, ha.eval hx, ha.eval hy, Instr.indexAt, asIntOf, ht.run, h0, h1, he.size, elemAt]⟩

theorem V_loadS {t : TypeId} {x : Operand} {d : TypeDesc} {sz sz' : Nat} [ht : Ty P t d sz' false] {a : Option Addr} {k k' m : Nat} {vals : List Value} {v : Value} (ho : o.op = .load t x) (hx : ev fs x = some (.pointer (some (elemAt a k)))) (hr : Rd E L sz a m vals)
    (hv : vals[k']? = some v) (hk : k = k') : Val P o fs E L v := V_load ho hx (hr.cell (by rw [hk]; exact hv))

/-- A slice of one element, written out. -/
theorem G_lit1 {t e : TypeId} {td : TypeDesc} {sz : Nat} {ag ag' : Bool} [ht : Ty P t (.slice e) sz ag] [he : Ty P e td 1 ag'] {z : Value} {zc : Value} [hz : Zero P e z #[zc]] {x : Operand} {v : Value} {d : Nat}
    (ho : o.op = .buildSlice t 1 #[(0, x)]) (hx : ev fs x = some v) (hc : v.cells = #[v]) (hd : o.dst = some d) (hn : Nat.blt d n = true) (hg : Goes ops fs o)
    (h : ∀ b, G n ds ((d, .slice (some ⟨b, 0, none⟩) 1 1) :: fs) E (.blk b (.cells #[v] e (0, 0)) :: L) (wpListIn (Wd ro) 0 P ops Q rest)) : G n ds fs E L (wpListIn (Wd ro) 0 P ops Q (o :: rest)) :=
  G_any hg (by rw [ho]; intro c h; cases h) fun a w ha hw => by
    have e1 : (execOp a.eval o).run P w = .ok (.value (.slice (some ⟨w.heap.size, 0, none⟩) 1 1)) (w.alloc (.cells #[v] e)) := by
      simp [execOp, ho, ha.eval hx, Instr.buildSlice, ht.run, he.size, hz.zv, hz.zc, Result.andThen, Instr.fill, hc, newRow]
      rw [show Array.range 1 = #[0] by decide]
      simp
    rw [e1]
    simp only [Oper.uponIn_value, hd]
    exact h w.heap.size _ _ (ha.put hn _) (hw.alloc _)

end rules

class Inf (P : Program) (e : TypeId) (z : outParam Value) (sz : outParam Nat) (by' : outParam Nat) : Prop where
  inf : ∃ i, P.info? e = some i ∧ i.zero = some z ∧ i.size = sz ∧ i.bytes = by' ∧ z.cells.size = sz

/-- append onto a slice of the call's own, from a row of cells. -/
theorem run_append_sl {P : Program} {w : World} {t ty e : TypeId} {z : Value} {sz bytes : Nat} (ht : P.underlying t = some (.slice e)) (hi : Inf P e z sz bytes)
    {a : Option Addr} {k cap : Nat} {xs : List Value} (hok : slOk e sz a k cap xs (fun b => w.heap[b]?)) {p : Addr} {m c : Nat} {ys : List Value} (hl : ys.length = m * sz)
    (hy : ∀ j v, ys[j]? = some v → w.cell? (p.add j) = some v) (h1 : ∀ v, v ∈ ys → v.oneCell' = true) (hb : (k + m) * bytes ≤ 140737488355328) (h63 : k + m ≤ maxLen) :
    ∃ a' c' w', (Builtin.append_ #[t, t] ty #[.slice a k cap, .slice (some p) m c]).run P w = .ok (.slice a' (k + m) c') w' ∧ slOk e sz a' (k + m) c' (xs ++ ys) (fun b => w'.heap[b]?) ∧
      w.heap.size ≤ w'.heap.size ∧ w'.os = w.os ∧ w'.output = w.output ∧ w'.tape = w.tape ∧ (∀ b, some b ≠ a.map (·.block) → b < w.heap.size → w'.heap[b]? = w.heap[b]?) ∧
      (∀ p', a' = some p' → (some p'.block = a.map (·.block)) ∨ w.heap.size = p'.block) := by
  obtain ⟨i, hi1, hi2, rfl, rfl, hi5⟩ := hi.inf
  have hsmall : k + m ≤ 9223372036854775807 := by simp only [maxLen] at h63; omega
  have hlen : (xs ++ ys).length = (k + m) * i.size := by rw [List.length_append, hok.1, hl, Nat.add_mul]
  have fresh : ∀ old, old < k + m → slOk e i.size (some ⟨w.heap.size, 0, none⟩) (k + m) (grownCap w (k + m) old e) (xs ++ ys)
      (fun b => (w.drew.alloc (.cells (xs.toArray ++ ys.toArray ++ Builtin.zeroCells z.cells (grownCap w (k + m) old e - (k + m))) e)).heap[b]?) := fun old _ => by
    have hge := grownCap_ge w (k + m) old e
    refine ⟨hlen, .inr ⟨w.heap.size, _, rfl, World.alloc_heap_new w.drew _, hge, grownCap_le_maxLen w (k + m) old e h63, ?_, ?_⟩⟩
    · simp only [Array.size_append, List.size_toArray, size_zeroCells, hi5, hok.1, hl, ← Nat.add_mul]
      congr 1
      omega
    · simp only [Array.toList_append, List.append_assoc]
      rw [← List.append_assoc, ← hlen]
      exact List.take_left
  have keep : ∀ (o : Obj) (b : Nat), b < w.heap.size → (w.drew.alloc o).heap[b]? = w.heap[b]? := fun o b hb => Below.heap_alloc w.drew o b hb
  rcases hok.2 with ⟨rfl, rfl, rfl⟩ | ⟨g, cur, rfl, hg, hnc, hcm, hcs, htake⟩
  · have hx : xs = [] := List.eq_nil_of_length_eq_zero (by simpa using hok.1)
    subst hx
    by_cases hm : m = 0
    · subst hm
      have hn : ys = [] := List.eq_nil_of_length_eq_zero (by simpa using hl)
      subst hn
      refine ⟨none, 0, w, ?_, ⟨by simp, .inl ⟨rfl, rfl, rfl⟩⟩, Nat.le_refl _, rfl, rfl, rfl, fun _ _ _ => rfl, fun p' h => by cases h⟩
      simp [Builtin.append_, run_underlying ht, sizeOf, typeInfo, hi1, Builtin.lenOf, Builtin.firstCells, loadCells, loadCellsFrom]
    · have hr := run_append_nil (P := P) w t ty e i z ht hi1 hi2 p m c ys hl hy (by omega) (by omega) (by simp only [Nat.zero_add] at hb; omega)
      have hf := fresh 0 (by omega)
      simp only [Nat.zero_add, List.nil_append, Array.empty_append] at hf ⊢
      exact ⟨_, _, _, hr, hf, by simp, rfl, rfl, rfl, fun b _ hb => keep _ b hb, fun p' h => by cases h; exact .inr rfl⟩
  · by_cases hroom : k + m ≤ cap
    · have hfit : k * i.size + ys.length ≤ cur.size := by rw [hl, hcs, ← Nat.add_mul]; exact Nat.mul_le_mul_right _ hroom
      have hr := run_append_room (P := P) w t ty e i ht hi1 g k cap cur hg p m c ys hl hy h1 hroom hfit
      refine ⟨_, _, _, hr, ⟨hlen, .inr ⟨g, _, rfl, setRow_heap w g cur _ e _ hg, hroom, hcm, ?_, ?_⟩⟩, by simp, rfl, rfl, rfl, fun b hne _ => setRow_other w g b _ (fun e => hne (by simp [e])), fun p' h => by cases h; exact .inl rfl⟩
      · simp only [List.size_toArray, List.length_append, List.length_take, List.length_drop, Array.length_toList]
        omega
      · rw [htake, ← hlen]
        exact List.take_left
    · have holds : ∀ j u, xs[j]? = some u → w.cell? ((⟨g, 0, none⟩ : Addr).add j) = some u := hok.owns.cells (g := g) rfl
      have hr := run_append_grow (P := P) w t ty e i z ht hi1 hi2 ⟨g, 0, none⟩ k cap xs hok.1 holds p m c ys hl hy (by omega) (by omega) (growslice_fits (by omega) hb)
      exact ⟨_, _, _, hr, fresh cap (by omega), by simp, rfl, rfl, rfl, fun b _ hb => keep _ b hb, fun p' h => by cases h; exact .inr rfl⟩

theorem run_append_sl0 {P : Program} {w : World} {t ty e : TypeId} {z : Value} {sz bytes : Nat} (ht : P.underlying t = some (.slice e)) (hi : Inf P e z sz bytes)
    {a : Option Addr} {k cap : Nat} {xs : List Value} (hok : slOk e sz a k cap xs (fun b => w.heap[b]?)) {c : Nat} :
    (Builtin.append_ #[t, t] ty #[.slice a k cap, .slice none 0 c]).run P w = .ok (.slice a k cap) w := by
  obtain ⟨i, hi1, hi2, rfl, rfl, hi5⟩ := hi.inf
  rcases hok.2 with ⟨rfl, rfl, rfl⟩ | ⟨g, cur, rfl, _, hnc, _⟩
  · simp [Builtin.append_, run_underlying ht, sizeOf, typeInfo, hi1, Builtin.lenOf, Builtin.firstCells]
  · simp [Builtin.append_, run_underlying ht, sizeOf, typeInfo, hi1, Builtin.lenOf, Builtin.firstCells, hnc, storeCells]

section rules
variable {P : Program} {ro : Option Nat} {n : Nat} {ds : List Deferred} {fs : List (Nat × Value)} {E : Env} {L : List Res} {ops : Array Oper} {Q : Exit → Act → World → Prop} {rest : List Oper} {o : Oper}

/-- A nil slice is the call's own, if it likes. -/
theorem G.nilSl {X : Act → World → Prop} (e : TypeId) (sz : Nat) (h : G n ds fs E (.sl e sz none 0 0 [] :: L) X) : G n ds fs E L X := fun a w ha hw =>
  h a w ha ⟨hw.env, fun r hr => by
    rcases List.mem_cons.1 hr with rfl | hr
    · exact ⟨by simp, .inl ⟨rfl, rfl, rfl⟩⟩
    · exact hw.own r hr, by simpa [Res.sl] using hw.nodup, fun b hb => hw.apart b (by simpa [Res.sl] using hb), hw.os, hw.out, hw.tape⟩

/-- 'append(s, ys...)', s of the call's own. -/
theorem G_append {s x : Operand} {t e : TypeId} {d : Nat} {sz' : Nat} {ag' : Bool} {z : Value} {sz bytes : Nat} [ht : Ty P t (.slice e) sz' ag'] [hi : Inf P e z sz bytes] {a a2 : Option Addr} {k cap m c2 : Nat} {xs ys : List Value} {L' : Option Addr → Nat → List Res}
    (ho : o.op = .call { callee := .builtin .append, args := #[s, x], argTypes := #[t, t] }) (hs : ev fs s = some (.slice a k cap)) (hx : ev fs x = some (.slice a2 m c2)) (hr : Rd E L sz a2 m ys) (h1 : ∀ v, v ∈ ys → v.oneCell' = true)
    (hb : (k + m) * bytes ≤ 140737488355328) (h63 : k + m ≤ 9223372036854775807) (hd : o.dst = some d) (hn : Nat.blt d n = true) (hg : Goes ops fs o)
    (u : ∀ a' c', Upd L (.sl e sz a k cap xs) (.sl e sz a' (k + m) c' (xs ++ ys)) (L' a' c'))
    (h : ∀ a' c', G n ds ((d, .slice a' (k + m) c') :: fs) E (L' a' c') (wpListIn (Wd ro) 0 P ops Q rest)) : G n ds fs E L (wpListIn (Wd ro) 0 P ops Q (o :: rest)) :=
  G_any hg (by rw [ho]; intro c h; cases h) fun a0 w ha hw => by
    have hok : slOk e sz a k cap xs (fun b => w.heap[b]?) := hw.own _ (u none 0).mem
    have fin : ∀ a' c' w', (Builtin.append_ #[t, t] o.type #[.slice a k cap, .slice a2 m c2]).run P w = .ok (.slice a' (k + m) c') w' → slOk e sz a' (k + m) c' (xs ++ ys) (fun b => w'.heap[b]?) →
        w.heap.size ≤ w'.heap.size → w'.os = w.os → w'.output = w.output → w'.tape = w.tape → (∀ b, some b ≠ a.map (·.block) → b < w.heap.size → w'.heap[b]? = w.heap[b]?) →
        (∀ p', a' = some p' → (some p'.block = a.map (·.block)) ∨ w.heap.size = p'.block) →
        o.uponIn (Wd ro) 0 P a0 (wpListIn (Wd ro) 0 P ops Q rest) Q ((execOp a0.eval o).run P w) := by
      intro a' c' w' hrun hok' hsz hos hout htape hkeep hnew
      have e1 : (execOp a0.eval o).run P w = .ok (.value (.slice a' (k + m) c')) w' := by
        simp [execOp, ho, resolve, invoke, builtin, ha.eval hs, ha.eval hx, hrun, Result.andThen]
      rw [e1]
      simp only [Oper.uponIn_value, hd]
      refine h a' c' _ _ (ha.put hn _) (hw.update (u a' c') hsz (fun b hb' hlt => hkeep b (fun he => hb' ?_) hlt) hok' (fun b hb' => ?_) ?_ hos hout htape)
      · cases a with
        | none => simp at he
        | some p => simp at he; subst he; simp [Res.sl]
      · cases a' with
        | none => simp [Res.sl] at hb'
        | some p' =>
          simp [Res.sl] at hb'
          subst hb'
          have hlt : p'.block < w'.heap.size := by
            rcases hok'.2 with ⟨h, _⟩ | ⟨g, cur, h, hg', _⟩
            · cases h
            · cases h; exact (Array.getElem?_eq_some_iff.1 hg').1
          rcases hnew _ rfl with h' | h'
          · left
            cases a with
            | none => simp at h'
            | some p => simp at h'; exact ⟨by simp [Res.sl, h'], hlt⟩
          · exact .inr ⟨by omega, hlt⟩
      · cases a' <;> simp [Res.sl]
    rcases hr.2 w hw with ⟨rfl, rfl⟩ | ⟨p, rfl, _, hy⟩
    · have hys : ys = [] := List.eq_nil_of_length_eq_zero (by simpa using hr.1)
      subst hys
      refine fin a cap w (by simpa using run_append_sl0 (ty := o.type) ht.und hi hok) (by simpa using hok) (Nat.le_refl _) rfl rfl rfl (fun _ _ _ => rfl) (fun p' h => .inl (by simp [h]))
    · obtain ⟨a', c', w', r1, r2, r3, r4, r5, r6, r7, r8⟩ := run_append_sl (ty := o.type) ht.und hi hok (c := c2) hr.1 hy h1 hb (by simp only [maxLen]; omega)
      exact fin a' c' w' r1 r2 r3 r4 r5 r6 r7 r8

theorem push_foldl (ns : List UInt8) : ∀ (acc : ByteArray), (ns.map (fun b : UInt8 => (b.toNat : Int))).foldl (fun (r : ByteArray) n => r.push (UInt8.ofNat n.toNat)) acc = acc ++ S ns := by
  induction ns with
  | nil => intro acc; apply ByteArray.ext; simp [S]
  | cons b ns ih =>
    intro acc
    simp only [List.map_cons, List.foldl_cons, Int.toNat_natCast]
    rw [ih]
    apply ByteArray.ext
    rw [ByteArray.data_append, ByteArray.data_append]
    apply Array.ext'
    simp [S]

/-- 'string(bytes)'. -/
theorem V_b2s {x : Operand} {t t' e : TypeId} {sz sz' sz2 : Nat} {ag ag' ag2 : Bool} [ht : Ty P t (.slice e) sz ag] [ht' : Ty P t' .string sz' ag'] [he : Ty P e (.int .u8) sz2 ag2] {a : Option Addr} {m c : Nat} {l : List UInt8}
    (ho : o.op = .convert t t' x) (hx : ev fs x = some (.slice a m c)) (hr : Rd E L 1 a m (l.map fun b => .int .u8 b.toNat)) : Val P o fs E L (.string (S l)) :=
  ⟨(by rw [ho]; intro c h; cases h), fun n ds a' w ha hw => by
    have e1 : (Conv.bytesToString (.slice a m c)).run P w = .ok (.string (S l)) w := by
      rcases hr.2 w hw with ⟨rfl, rfl⟩ | ⟨p, rfl, _, h3⟩
      · have := hr.1; simp at this; subst this; rfl
      · have hm : m = l.length := by have := hr.1; simp at this; exact this.symm
        have hlc := run_loadCells_list (P := P) (w := w) p (l.map fun b => .int .u8 b.toNat) h3
        have := run_bytesToString (P := P) w p m c (l.map fun b : UInt8 => (b.toNat : Int)) (by rw [hm]; simpa [Function.comp_def] using hlc)
        rw [this, push_foldl]
        congr 2
    simp [execOp, ho, ha.eval hx, run_convert_bytes_string w t t' e a m c ht.und he.und ht'.und, e1, Result.andThen]⟩

end rules
end Go.Proofs.YtjhehanknkonnaaGreatDoor
namespace Go.Proofs.YtjhehanknkonnaaGreatDoor
open Go.RowKit

/-- Where a struct's fields lie: first cell, number of cells. -/
class Places (P : Program) (t : TypeId) (pl : outParam (List (Nat × Nat))) : Prop where
  pl : ∃ fields, P.underlying t = some (.struct fields) ∧ ∀ w, (fields.mapM (m := Sem) fun f => do pure (f.offset, ← sizeOf f.type)).run P w = .ok pl.toArray w
/-- A struct's field i. -/
class Fld (P : Program) (t : TypeId) (i : Nat) (off : outParam Nat) (ft : outParam TypeId) : Prop where
  fld : ∃ fields f, P.underlying t = some (.struct fields) ∧ fields[i]? = some f ∧ f.offset = off ∧ f.type = ft

def setL : List Value → Nat → Value → List Value
  | [], _, _ => []
  | _ :: l, 0, v => v :: l
  | x :: l, n + 1, v => x :: setL l n v
def setLs : List Value → Nat → List Value → List Value
  | l, _, [] => l
  | l, off, v :: vs => setLs (setL l off v) (off + 1) vs
def fillV (pl : List (Nat × Nat)) : List Value → List (Nat × Value) → Option (List Value)
  | l, [] => some l
  | l, (i, v) :: r => match pl[i]? with
    | some (off, sz) => if v.cells.size = sz ∧ off + sz ≤ l.length then fillV pl (setLs l off v.cells.toList) r else none
    | none => none

theorem setL_eq (l : List Value) (n : Nat) (v : Value) : setL l n v = l.set n v := by
  induction l generalizing n with
  | nil => rfl
  | cons x l ih => cases n with
    | zero => rfl
    | succ n => simp [setL, ih]

theorem foldl_set (vs : List Value) : ∀ (l : List Value) (off k : Nat), ((vs.zipIdx k).foldl (fun (cs : Array Value) (p : Value × Nat) => cs.setIfInBounds (off + p.2) p.1) l.toArray) = (setLs l (off + k) vs).toArray := by
  induction vs with
  | nil => intro l off k; rfl
  | cons v vs ih =>
    intro l off k
    simp only [List.zipIdx_cons, List.foldl_cons, setLs]
    rw [show (l.toArray.setIfInBounds (off + k) v) = (setL l (off + k) v).toArray by rw [setL_eq]; simp, ih]
    rw [Nat.add_assoc]

theorem fill_of {pl : List (Nat × Nat)} : ∀ (ps : List (Nat × Value)) (l cells : List Value), fillV pl l ps = some cells → Instr.fill (pl.toArray[·]?) l.toArray ps = some cells.toArray := by
  intro ps
  induction ps with
  | nil => intro l cells h; simp only [fillV, Option.some.injEq] at h; subst h; rfl
  | cons p ps ih =>
    obtain ⟨i, v⟩ := p
    intro l cells h
    simp only [fillV] at h
    split at h
    · rename_i off sz hp
      split at h
      · rename_i hc
        simp only [Instr.fill, List.getElem?_toArray, hp]
        have : ¬ ((decide (v.cells.size ≠ sz) || decide (off + v.cells.size > l.toArray.size)) = true) := by
          simp; omega
        rw [if_neg (by simpa using this)]
        have e := foldl_set v.cells.toList l off 0
        have h2 : (v.cells.zipIdx.foldl (fun cs (p : Value × Nat) => cs.setIfInBounds (off + p.2) p.1) l.toArray) = (setLs l off v.cells.toList).toArray := by
          rw [← Array.foldl_toList, Array.toList_zipIdx]; exact e
        rw [show (Array.foldl (fun cs x => match x with | (c, j) => cs.setIfInBounds (off + j) c) l.toArray v.cells.zipIdx) = (setLs l off v.cells.toList).toArray from h2]
        have := ih _ _ h
        simpa only [List.getElem?_toArray] using this
      · cases h
    · cases h

section rules
variable {P : Program} {ro : Option Nat} {n : Nat} {ds : List Deferred} {fs : List (Nat × Value)} {E : Env} {L : List Res} {ops : Array Oper} {Q : Exit → Act → World → Prop} {rest : List Oper} {o : Oper}

def evps (fs : List (Nat × Value)) : List (Nat × Operand) → Option (List (Nat × Value))
  | [] => some []
  | (i, x) :: r => match ev fs x, evps fs r with
    | some v, some vs => some ((i, v) :: vs)
    | _, _ => none
theorem evps_eval {a : Act} (ha : Fr n ds fs a) : ∀ (ps : List (Nat × Operand)) (vs : List (Nat × Value)), evps fs ps = some vs → ps.map (fun p => (p.1, a.eval p.2)) = vs := by
  intro ps
  induction ps with
  | nil => intro vs h; simp [evps] at h; subst h; rfl
  | cons p ps ih =>
    obtain ⟨i, x⟩ := p
    intro vs h
    simp only [evps] at h
    split at h
    · rename_i v vs' h1 h2
      cases h
      simp [ha.eval h1, ih _ h2]
    · cases h

theorem V_build {t : TypeId} {pl : List (Nat × Nat)} {zc : List Value} [hp : Places P t pl] [hz : Zero P t (.agg zc.toArray) zc.toArray] {ps : List (Nat × Operand)} {vs : List (Nat × Value)} {cells : List Value} (ho : o.op = .build t ps.toArray)
    (hx : evps fs ps = some vs) (hf : fillV pl zc vs = some cells) : Val P o fs E L (.agg cells.toArray) :=
  ⟨(by rw [ho]; intro c h; cases h), fun n ds a w ha _ => by
    obtain ⟨fields, h1, h2⟩ := hp.pl
    have e1 := evps_eval ha ps vs hx
    have e2 := fill_of vs zc cells hf
    have e3 : ((ps.toArray.map fun (i, x) => (i, a.eval x)) : Array (Nat × Value)) = vs.toArray := by
      rw [← e1]; simp
    simp only [execOp, ho, e3]
    simp only [Instr.build, Sem.run_bind, hz.zv, Result.andThen, run_underlying h1, h2, hz.zc, e2, Sem.run_pure]⟩

theorem V_fieldAddr {t ft : TypeId} {x : Operand} {i off b o' : Nat} {d : TypeDesc} {sz : Nat} {ag : Bool} [hf : Fld P t i off ft] [hft : Ty P ft d sz ag] (ho : o.op = .fieldAddr t x i) (hx : ev fs x = some (.pointer (some ⟨b, o', none⟩))) (hs : sz ≠ 0) : Val P o fs E L (.pointer (some ⟨b, o' + off, none⟩)) :=
  ⟨(by rw [ho]; intro c h; cases h), fun n ds a w ha _ => by
    obtain ⟨fields, f, h1, h2, rfl, rfl⟩ := hf.fld
    simp only [execOp, ho, ha.eval hx]
    simp [Instr.fieldAt, run_underlying h1, h2, Instr.sureAddr, fieldPlace, hft.size, hs, addr_add]⟩
theorem V_nilCheck {x : Operand} {p : Addr} (ho : o.op = .nilCheck x) (hx : ev fs x = some (.pointer (some p))) : Val P o fs E L (.pointer (some p)) :=
  ⟨(by rw [ho]; intro c h; cases h), fun n ds a w ha _ => by simp [execOp, ho, ha.eval hx]⟩
end rules

/-! A test, decided. -/
section
variable {P : Program} {ro : Option Nat} {n : Nat} {ds : List Deferred} {fs : List (Nat × Value)} {E : Env} {L : List Res} {X : Act → World → Prop}
theorem G.bool_t (i : Nat) {b : Bool} (hi : look fs i = some (.bool b)) (hb : b = true) (h : G n ds ((i, .bool true) :: fs) E L X) : G n ds fs E L X := G.bool i hi (fun _ => h) (fun e => by rw [hb] at e; cases e)
theorem G.bool_f (i : Nat) {b : Bool} (hi : look fs i = some (.bool b)) (hb : b = false) (h : G n ds ((i, .bool false) :: fs) E L X) : G n ds fs E L X := G.bool i hi (fun e => by rw [hb] at e; cases e) (fun _ => h)
end
end Go.Proofs.YtjhehanknkonnaaGreatDoor
namespace Go.Proofs.YtjhehanknkonnaaGreatDoor
open Go.RowKit

section
variable {P : Program} {ops : Array Oper} {md : Region.Mode} {C : World → Prop} {ro : Option Nat}

/-- The first n operations, quiet in the class C, in whatever order; then T. -/
def HeadQ (P : Program) (md : Region.Mode) (ops : Array Oper) (C : World → Prop) (n : Nat) (T : Array Bool → Act → Prop) : Nat → Array Bool → Act → Prop
  | 0, listed, a => T listed a
  | f + 1, listed, a => Region.ready md ops listed ≠ [] ∧ ∀ i, i ∈ Region.ready md ops listed → i < n ∧ qOp P ops C i (HeadQ P md ops C n T f (listed.setIfInBounds i true)) a

theorem HeadQ.wp {n g : Nat} {T : Array Bool → Act → Prop} {Q' : Exit → Act → World → Prop} (hnd : ∀ (i : Nat) (o : Oper) c, ops[i]? = some o → o.op ≠ .defer c)
    (hT : ∀ listed a w, C w → T listed a → wpAnyIn (Wd ro) 0 P md ops Q' g listed a w) :
    ∀ (f : Nat) (listed : Array Bool) (a : Act) (w : World), C w → HeadQ P md ops C n T f listed a → wpAnyIn (Wd ro) 0 P md ops Q' (f + g) listed a w := by
  intro f
  induction f with
  | zero => intro listed a w hw h; rw [Nat.zero_add]; exact hT _ _ _ hw h
  | succ f ih =>
    intro listed a w hw h
    rw [show f + 1 + g = (f + g) + 1 by omega]
    refine ⟨fun h0 => absurd h0 h.1, fun i hi => ?_⟩
    have hh := (h.2 i hi).2
    unfold qOp at hh
    unfold wpOpIn
    split
    · rename_i ho
      simp only [ho] at hh
      exact ih _ _ _ hw hh
    · rename_i o ho
      simp only [ho] at hh
      split
      · rename_i hg; simp only [hg, if_true] at hh
        exact wpIn_of_quiet (hnd i o · ho) hw (fun a' w' hw' => ih _ a' w' hw') hh
      · rename_i hg; simp only [hg] at hh
        exact ⟨Wd.about, ih _ _ _ hw hh⟩

/-- An operation of the head that may come up now may be taken first. -/
theorem HeadQ.first {n i : Nat} {oi : Oper} {v : Value} {T : Array Bool → Act → Prop} (hi : ops[i]? = some oi) (hsel : ∀ (j : Nat) (o : Oper) cs b, ops[j]? = some o → o.op ≠ .select cs b)
    (hs : Region.sinkB md ops n = true) (hc : Region.chainB md ops n = true) (hn : n < ops.size) (hin : i < n) (hdone : ∀ listed a, T listed a → ∀ j, j ∈ Region.ready md ops listed → n ≤ j) :
    ∀ (f : Nat) (listed : Array Bool) (a : Act), HeadInv md ops n listed →
      (∀ j oj, ops[j]? = some oj → j ≠ i → listed.getD j true = false → (∀ e, e ∈ oj.after → Region.binds md e = true → e.on ≠ i) → oi.apart ops oj = true) →
      i ∈ Region.ready md ops listed → YieldsIn P ops C oi v a →
      HeadQ P md ops C n T f (listed.setIfInBounds i true) (a.put oi.dst v) → HeadQ P md ops C n T (f + 1) listed a := by
  intro f
  induction f with
  | zero =>
    intro listed a inv _ hr hy H
    have hun := (mem_ready.1 hr).1
    refine ⟨fun h => (by rw [h] at hr; cases hr), fun j hj => ?_⟩
    have hjn : j < n := Nat.lt_of_not_le fun h => tail_waits hs hc hn inv _ i rfl hin hun j h hj
    refine ⟨hjn, ?_⟩
    by_cases hji : j = i
    · subst hji; exact hy.qOp hi H
    · exact absurd (hdone _ _ H j (ready_mono hj hji)) (by omega)
  | succ f ih =>
    intro listed a inv hfree hr hy H
    have hun := (mem_ready.1 hr).1
    refine ⟨fun h => (by rw [h] at hr; cases hr), fun j hj => ?_⟩
    have hjn : j < n := Nat.lt_of_not_le fun h => tail_waits hs hc hn inv _ i rfl hin hun j h hj
    refine ⟨hjn, ?_⟩
    by_cases hji : j = i
    · subst hji; exact hy.qOp hi H
    · obtain ⟨hjun, oj, hoj, hall⟩ := mem_ready.1 hj
      have hnot : ∀ e, e ∈ oj.after → Region.binds md e = true → e.on ≠ i := fun e he hb heq => by
        have h1 := hall e he hb
        rw [heq, getD_both hun] at h1
        cases h1
      have h2 := qOp_put hoj (hfree j oj hoj hji hjun hnot) (fun cs b => hsel i oi cs b hi) (fun cs b => hsel j oj cs b hoj) hy (H.2 j (ready_mono hj hji)).2
      refine qOp_mono (fun a' h3 => ih (listed.setIfInBounds j true) a' (inv.set hj hjn) ?_ (ready_mono hr (Ne.symm hji)) h3.1 ?_) h2
      · intro k ok hk hki hunk hno
        refine hfree k ok hk hki ?_ hno
        by_cases hjk : j = k
        · subst hjk; exact hjun
        · rwa [getD_set_ne true hjk] at hunk
      · rw [Array.setIfInBounds_comm _ _ hji]
        exact h3.2

theorem seqIn {Q' : Exit → Act → World → Prop} : ∀ (l : List Oper) (k : Nat) (listed : Array Bool) (a : Act) (w : World), (∀ j, l[j]? = ops[k + j]?) →
    Region.seqB md ops l.length k listed = true → wpListIn (Wd ro) 0 P ops Q' l a w → wpAnyIn (Wd ro) 0 P md ops Q' l.length listed a w := by
  intro l
  induction l with
  | nil => intro k listed a w _ hB h; exact ⟨by simpa [Region.seqB] using hB, h⟩
  | cons o l ih =>
    intro k listed a w hl hB h
    have h0 : ops[k]? = some o := by simpa using (hl 0).symm
    simp only [List.length_cons, Region.seqB, Bool.and_eq_true, decide_eq_true_eq] at hB
    refine ⟨fun h1 => (by rw [hB.1] at h1; cases h1), fun i hi => ?_⟩
    rw [hB.1] at hi
    obtain rfl : i = k := by simpa using hi
    have hw : wpOpIn (Wd ro) 0 P ops Q' i (wpListIn (Wd ro) 0 P ops Q' l) a w := by unfold wpOpIn; simp only [h0]; exact h
    exact wpOpIn_mono (fun a' w' h' => ih (i + 1) _ a' w' (fun j => by have := hl (j + 1); simpa [Nat.add_assoc, Nat.add_comm 1 j] using this) hB.2 h') hw

theorem HeadQ.lex {n g : Nat} {K : Act → Prop} (hsel : Region.noSelect ops = true) (hs : Region.sinkB md ops n = true) (hc : Region.chainB md ops n = true) (hn : n < ops.size) :
    ∀ (l : List Oper) (k : Nat) (listed : Array Bool) (a : Act), (∀ j, j < l.length → l[j]? = ops[k + j]?) → k + l.length = n → HeadInv md ops n listed →
    Region.lexHead md ops g l.length k listed = true → wpQuiet P ops C K l a → HeadQ P md ops C n (fun listed' a' => Region.seqB md ops g n listed' = true ∧ K a') l.length listed a := by
  intro l
  induction l with
  | nil =>
    intro k listed a _ hk _ hB h
    obtain rfl : k = n := by simpa using hk
    exact ⟨by simpa [Region.lexHead] using hB, h⟩
  | cons o l ih =>
    intro k listed a hl hk inv hB h
    have h0 : ops[k]? = some o := by simpa using (hl 0 (by simp)).symm
    simp only [List.length_cons, Region.lexHead, Bool.and_eq_true] at hB
    obtain ⟨⟨hr, hf⟩, hB'⟩ := hB
    have hkn : k < n := by simp only [List.length_cons] at hk; omega
    have hr' : k ∈ Region.ready md ops listed := by simpa using hr
    have hq : qOp P ops C k (wpQuiet P ops C K l) a := by unfold qOp; simp only [h0]; exact h
    obtain ⟨v, hy, hK⟩ := yieldsIn_of_qOp h0 hq
    exact HeadQ.first h0 (Region.noSelect_spec hsel) hs hc hn hkn (fun _ _ hT => seqB_ready hT.1) l.length listed a inv (Region.free_spec h0 hf) hr' hy
      (ih (k + 1) _ _ (fun j hj => by have := hl (j + 1) (by simp; omega); simpa [Nat.add_assoc, Nat.add_comm 1 j] using this) (by simp only [List.length_cons] at hk; omega) (inv.set hr' hkn) hB' hK)
end

section
variable {P : Program} {ro : Option Nat} {n : Nat} {ds : List Deferred} {fs : List (Nat × Value)} {E : Env} {L : List Res} {Q : Exit → Act → World → Prop}
theorem G_drawT {id : Nat} {l : List Oper} (m : Nat) (hm : P.follows .mixedOrders = true) (hB : (Region.lexTailB .any l.toArray m && noDefer l) = true)
    (h : GQ n ds fs (wpQuiet P l.toArray (St E L) (fun a' => ∀ w', St E L w' → wpListIn (Wd ro) 0 P l.toArray Q (l.drop m) a' w') (l.take m))) : G n ds fs E L ((Code.region id l.toArray true).wpIn (Wd ro) 0 P Q) := by
  intro a w ha hw
  simp only [Bool.and_eq_true, Region.lexTailB, decide_eq_true_eq] at hB
  obtain ⟨⟨⟨⟨⟨hsel, hn⟩, hs⟩, hc⟩, hlex⟩, hnd⟩ := hB
  have hn' : m < l.length := by simpa using hn
  have htl : (l.take m).length = m := by simp; omega
  have hdl : (l.drop m).length = l.toArray.size - m := by simp
  have hnd' : ∀ (i : Nat) (o : Oper) c, l.toArray[i]? = some o → o.op ≠ .defer c := by
    intro i o c ho hc'
    have hmem : o ∈ l := List.mem_of_getElem? (by simpa using ho)
    have := (List.all_eq_true.1 hnd) o hmem
    rw [hc'] at this; cases this
  have inv0 : HeadInv .any l.toArray m (Array.replicate l.toArray.size false) :=
    ⟨by simp, fun j oj _ hl => (by rw [getD_replicate_false] at hl; cases hl), fun t _ ht => getD_in (by simpa using ht) (getD_replicate_false _ _)⟩
  have H := HeadQ.lex (md := .any) (g := l.toArray.size - m) hsel hs hc hn (l.take m) 0 _ a (fun j hj => by
    have hj' : j < m := by rw [htl] at hj; exact hj
    simp [hj']) (by simpa using htl) inv0 (by rw [htl]; exact hlex) (h a ha)
  refine wpIn_region_any hm ?_
  have e : l.toArray.size = (l.take m).length + (l.toArray.size - m) := by rw [htl]; omega
  have := HeadQ.wp (ro := ro) (Q' := Q) (g := l.toArray.size - m) hnd' (fun listed a' w' hw' hT => by
    have := seqIn (ro := ro) (P := P) (Q' := Q) (l.drop m) m listed a' w' (fun j => by simp) (by rw [hdl]; exact hT.1) (hT.2 w' hw')
    rwa [hdl] at this) _ _ a _ (hw.drew (w.drawn + 1)) H
  rwa [← e] at this
theorem Q_endT {ops : Array Oper} {l : List Oper} (h : G n ds fs E L (wpListIn (Wd ro) 0 P ops Q l)) : GQ n ds fs (wpQuiet P ops (St E L) (fun a' => ∀ w', St E L w' → wpListIn (Wd ro) 0 P ops Q l a' w') []) :=
  fun a ha w hw => h a w ha hw
end
end Go.Proofs.YtjhehanknkonnaaGreatDoor
namespace Go.Proofs.YtjhehanknkonnaaGreatDoor
open Go.RowKit

theorem CallV.run {P : Program} {k : FuncId} {args : Array Value} {r : Value} (w : World) (h : CallV P k args (Env.of w) [] r) : Calls P k args w (fun e w' => e = .returned r ∧ Below w.heap.size w w') :=
  (h w (St.start w)).mono fun _ _ ⟨he, hs⟩ => ⟨he, St.below (.refl _) hs⟩
theorem CallS.run {P : Program} {k : FuncId} {args : Array Value} {r : Value} (w : World) (h : CallS P k args (Env.of w) [] (fun r' _ L' => r' = r ∧ L' = [])) : Calls P k args w (fun e w' => e = .returned r ∧ Below w.heap.size w w') :=
  (h w (St.start w)).mono fun _ _ ⟨_, _, _, he, hE, hs, hr, _⟩ => ⟨by rw [he, hr], St.below hE hs⟩
theorem wf_i64 {a : Int} (h : (Lit.int .i64 a).wf = true) : -9223372036854775808 ≤ a ∧ a ≤ 9223372036854775807 := by
  simp [Lit.wf, IntKind.min, IntKind.max, IntKind.signed, IntKind.bits] at h
  omega
section rules
variable {P : Program} {ro : Option Nat} {n : Nat} {ds : List Deferred} {fs : List (Nat × Value)} {E : Env} {L : List Res} {ops : Array Oper} {Q : Exit → Act → World → Prop} {rest : List Oper} {o : Oper}
theorem G_lit2 {t e : TypeId} {td : TypeDesc} {sz : Nat} {ag ag' : Bool} [ht : Ty P t (.slice e) sz ag] [he : Ty P e td 1 ag'] {z : Value} {zc : Value} [hz : Zero P e z #[zc]] {x y : Operand} {v v' : Value} {d : Nat}
    (ho : o.op = .buildSlice t 2 #[(0, x), (1, y)]) (hx : ev fs x = some v) (hy : ev fs y = some v') (hc : v.cells = #[v]) (hc' : v'.cells = #[v']) (hd : o.dst = some d) (hn : Nat.blt d n = true) (hg : Goes ops fs o)
    (h : ∀ b, G n ds ((d, .slice (some ⟨b, 0, none⟩) 2 2) :: fs) E (.blk b (.cells #[v, v'] e (0, 0)) :: L) (wpListIn (Wd ro) 0 P ops Q rest)) : G n ds fs E L (wpListIn (Wd ro) 0 P ops Q (o :: rest)) :=
  G_any hg (by rw [ho]; intro c h; cases h) fun a w ha hw => by
    have e1 : (execOp a.eval o).run P w = .ok (.value (.slice (some ⟨w.heap.size, 0, none⟩) 2 2)) (w.alloc (.cells #[v, v'] e)) := by
      simp [execOp, ho, ha.eval hx, ha.eval hy, Instr.buildSlice, ht.run, he.size, hz.zv, hz.zc, Result.andThen, Instr.fill, hc, hc', newRow]
      rw [show Array.range 2 = #[0, 1] by decide]
      simp
    rw [e1]
    simp only [Oper.uponIn_value, hd]
    exact h w.heap.size _ _ (ha.put hn _) (hw.alloc _)
end rules

theorem SlE.sl {E : Env} {e : TypeId} {sz : Nat} {a : Option Addr} {n cap : Nat} {xs : List Value} (h : (Res.sl e sz a n cap xs).ok E.heap) : SlE E sz a n xs := by
  obtain ⟨h1, h2⟩ := h
  refine ⟨h1, ?_⟩
  rcases h2 with ⟨rfl, _, rfl⟩ | ⟨g, cur, rfl, e2, _, _, e5, e6⟩
  · exact .inl ⟨rfl, rfl⟩
  · refine .inr ⟨_, rfl, .inl rfl, fun j v hj => ?_⟩
    rw [addr_add]
    have hj' : cur.toList[j]? = some v := by
      rw [← e6] at hj
      rw [List.getElem?_take] at hj
      split at hj
      · exact hj
      · cases hj
    simp only [Env.cell]
    rw [e2]
    simpa using hj'
end Go.Proofs.YtjhehanknkonnaaGreatDoor
set_option linter.unusedSimpArgs false
set_option linter.unusedVariables false
namespace Go.Proofs.YtjhehanknkonnaaGreatDoor
open Go.RowKit

section rules
variable {P : Program} {ro : Option Nat} {n : Nat} {ds : List Deferred} {fs : List (Nat × Value)} {E : Env} {L : List Res} {ops : Array Oper} {Q : Exit → Act → World → Prop} {rest : List Oper} {o : Oper}
end rules

theorem S_extract (l : List UInt8) (h : Nat) : (S l).extract 0 h = S (l.take h) := by
  apply ByteArray.ext
  simp [S]

section vals
variable {P : Program} {fs : List (Nat × Value)} {E : Env} {L : List Res} {o : Oper} {t : TypeId} {sz : Nat} {ag : Bool} {x y : Operand} {s : List UInt8} {i : Int}
theorem V_front [ht : Ty P t .string sz ag] (ho : o.op = .slice t x none (some y) none) (hx : ev fs x = some (.string (S s))) (hy : ev fs y = some (.int .i64 i)) (h0 : 0 ≤ i) (h1 : i ≤ s.length) : Val P o fs E L (.string (S (s.take i.toNat))) :=
  ⟨(by rw [ho]; intro c h; cases h), fun n ds a w ha _ => by
    have hl : ¬ i < 0 := by omega
    have hh : ¬ ((s.length : Int) < i) := by omega
    simp [execOp, ho, ha.eval hx, ha.eval hy, Instr.sliceAt, Instr.slice, Instr.sliceBounds, Instr.sliceBound, ht.run, Result.andThen, asIntOf, S_size, h0, h1, S_extract]⟩
end vals
end Go.Proofs.YtjhehanknkonnaaGreatDoor
