/-
  A small layer over the walk: what is known of a frame's slots and of memory, as two lists. Nothing here speaks of one program.
-/
import Derived.WalkKit
import Derived.OwnWalkIn
import Derived.TacticsInMore
import Derived.RangeFuncIn
import Derived.RangeFuncLeaves
import Derived.RangeFuncRecord
import Derived.RangeFuncStops
import Derived.Deep.Quiet
import Derived.Shelf.Abstract
namespace Go.Proofs.Ytaoinojdijbhaaa
open Go.RowKit

theorem beq_ne {i j : Nat} (h : i ≠ j) : Nat.beq i j = false := by
  cases e : Nat.beq i j with
  | false => rfl
  | true => exact absurd (Nat.eq_of_beq_eq_true e) h

/-! ### Memory -/

/-- What is known of memory for good: blocks that nobody writes any more, and what does not turn. -/
structure Env where
  heap : Nat → Option Obj
  os : Os
  output : Array (Nat × ByteArray)
  tape : Nat → Question → Nat

def Env.Le (E E' : Env) : Prop := (∀ b o, E.heap b = some o → E'.heap b = some o) ∧ E'.os = E.os ∧ E'.output = E.output ∧ E'.tape = E.tape

theorem Env.Le.refl (E : Env) : E.Le E := ⟨fun _ _ h => h, rfl, rfl, rfl⟩
theorem Env.Le.trans {A B C : Env} (h : A.Le B) (k : B.Le C) : A.Le C :=
  ⟨fun b o x => k.1 b o (h.1 b o x), k.2.1.trans h.2.1, k.2.2.1.trans h.2.2.1, k.2.2.2.trans h.2.2.2⟩

/-- A piece of memory that is owned: which blocks, and what holds of them. -/
structure Res where
  ids : List Nat
  ok : (Nat → Option Obj) → Prop
  loc : ∀ h h', (∀ b, b ∈ ids → h b = h' b) → ok h → ok h'

/-- A block that is known whole. -/
def Res.blk (b : Nat) (o : Obj) : Res := ⟨[b], fun h => h b = some o, fun h h' e k => by rw [← e b (by simp)]; exact k⟩

/-- What memory is, beside the owned pieces: E's blocks as they were. -/
structure St (E : Env) (L : List Res) (w : World) : Prop where
  env : ∀ b o, E.heap b = some o → w.heap[b]? = some o
  own : ∀ r, r ∈ L → r.ok (fun b => w.heap[b]?)
  nodup : (L.flatMap Res.ids).Nodup
  apart : ∀ b, b ∈ L.flatMap Res.ids → E.heap b = none ∧ b < w.heap.size
  os : w.os = E.os
  out : w.output = E.output
  tape : w.tape = E.tape

theorem St.perm {E : Env} {L L' : List Res} {w : World} (h : St E L w) (p : L.Perm L') : St E L' w :=
  ⟨h.env, fun r hr => h.own r (p.mem_iff.2 hr), (p.flatMap_right _).nodup_iff.1 h.nodup, fun b hb => h.apart b ((p.flatMap_right _).mem_iff.2 hb), h.os, h.out, h.tape⟩

/-- The one start: all of memory is as it is, nothing is owned. -/
def Env.of (w : World) : Env := ⟨fun b => w.heap[b]?, w.os, w.output, w.tape⟩
theorem St.start (w : World) : St (Env.of w) [] w :=
  ⟨fun _ _ h => h, fun r h => by simp at h, by simp, fun b h => by simp at h, rfl, rfl, rfl⟩

theorem St.below {w w' : World} {E : Env} {L : List Res} (hE : (Env.of w).Le E) (h : St E L w') : Below w.heap.size w w' := by
  have hb : ∀ k, k < w.heap.size → w'.heap[k]? = w.heap[k]? := fun k hk => by
    have e : w.heap[k]? = some w.heap[k] := Array.getElem?_eq_getElem hk
    rw [e]; exact h.env k _ (hE.1 k _ e)
  refine ⟨h.os.trans hE.2.1, h.tape.trans hE.2.2.2, h.out.trans hE.2.2.1, ?_, hb⟩
  by_cases hz : w.heap.size = 0
  · rw [hz]; exact Nat.zero_le _
  · have h1 := hb (w.heap.size - 1) (by omega)
    rw [Array.getElem?_eq_getElem (show w.heap.size - 1 < w.heap.size by omega)] at h1
    have := (Array.getElem?_eq_some_iff.1 h1).1
    omega

theorem St.drew {E : Env} {L : List Res} {w : World} (h : St E L w) (n : Nat) : St E L { w with drawn := n } :=
  ⟨h.env, h.own, h.nodup, h.apart, h.os, h.out, h.tape⟩

theorem St.alloc {E : Env} {L : List Res} {w : World} (h : St E L w) (o : Obj) : St E (Res.blk w.heap.size o :: L) (w.alloc o) := by
  have hpush : ∀ b, b < w.heap.size → (w.alloc o).heap[b]? = w.heap[b]? := fun b hb => Below.heap_alloc w o b hb
  refine ⟨fun b o' hb => ?_, fun r hr => ?_, ?_, fun b hb => ?_, h.os, h.out, h.tape⟩
  · have := h.env b o' hb
    rw [hpush b (Array.getElem?_eq_some_iff.1 this).1]; exact this
  · rcases List.mem_cons.1 hr with rfl | hr
    · exact World.alloc_heap_new w o
    · exact r.loc _ _ (fun b hb => (hpush b (h.apart b (List.mem_flatMap.2 ⟨r, hr, hb⟩)).2).symm) (h.own r hr)
  · simp only [List.flatMap_cons, Res.blk, List.singleton_append, List.nodup_cons]
    exact ⟨fun hm => by have := (h.apart _ hm).2; omega, h.nodup⟩
  · simp only [List.flatMap_cons, Res.blk, List.singleton_append, List.mem_cons] at hb
    rcases hb with rfl | hb
    · refine ⟨?_, by simp⟩
      cases hE : E.heap w.heap.size with
      | none => rfl
      | some o' => have := (Array.getElem?_eq_some_iff.1 (h.env _ _ hE)).1; omega
    · exact ⟨(h.apart b hb).1, by have := (h.apart b hb).2; simp; omega⟩

/-- r stands in L; with r' in its place it is L'. -/
inductive Upd : List Res → Res → Res → List Res → Prop
  | head (r r' : Res) (L : List Res) : Upd (r :: L) r r' (r' :: L)
  | tail (x : Res) {L L' : List Res} {r r' : Res} (h : Upd L r r' L') : Upd (x :: L) r r' (x :: L')

theorem Upd.perm {L L' : List Res} {r r' : Res} (u : Upd L r r' L') : ∃ M, L.Perm (r :: M) ∧ L'.Perm (r' :: M) := by
  induction u with
  | head r r' L => exact ⟨L, .refl _, .refl _⟩
  | tail x _ ih =>
    obtain ⟨M, h1, h2⟩ := ih
    exact ⟨x :: M, (h1.cons x).trans (.swap ..), (h2.cons x).trans (.swap ..)⟩

theorem Upd.mem {L L' : List Res} {r r' : Res} (u : Upd L r r' L') : r ∈ L := by
  induction u with
  | head => exact .head _
  | tail x _ ih => exact .tail _ ih

theorem Upd.app (M : List Res) {L L' : List Res} {r r' : Res} (u : Upd L r r' L') : Upd (M ++ L) r r' (M ++ L') := by
  induction M with
  | nil => exact u
  | cons x M ih => exact .tail x ih

/-- A step that turns one owned piece. -/
theorem St.update {E : Env} {L L' : List Res} {w w' : World} {r r' : Res} (h : St E L w) (u : Upd L r r' L') (hsz : w.heap.size ≤ w'.heap.size)
    (hsame : ∀ b, b ∉ r.ids → b < w.heap.size → w'.heap[b]? = w.heap[b]?) (hok : r'.ok (fun b => w'.heap[b]?))
    (hids : ∀ b, b ∈ r'.ids → (b ∈ r.ids ∧ b < w'.heap.size) ∨ (w.heap.size ≤ b ∧ b < w'.heap.size)) (hnd : r'.ids.Nodup)
    (hos : w'.os = w.os) (hout : w'.output = w.output) (htape : w'.tape = w.tape) : St E L' w' := by
  obtain ⟨M, p1, p2⟩ := u.perm
  have h1 := h.perm p1
  refine St.perm (L := r' :: M) ?_ p2.symm
  have hn := h1.nodup
  simp only [List.flatMap_cons] at hn
  obtain ⟨hn1, hn2, hn3⟩ := List.nodup_append.1 hn
  have hM : ∀ b, b ∈ M.flatMap Res.ids → b ∉ r.ids ∧ b < w.heap.size ∧ E.heap b = none := fun b hb =>
    ⟨fun hr => hn3 b hr b hb rfl, (h1.apart b (by simp only [List.flatMap_cons]; exact List.mem_append.2 (.inr hb))).2, (h1.apart b (by simp only [List.flatMap_cons]; exact List.mem_append.2 (.inr hb))).1⟩
  have hEr : ∀ b, b ∈ r.ids → E.heap b = none := fun b hb => (h1.apart b (by simp only [List.flatMap_cons]; exact List.mem_append.2 (.inl hb))).1
  refine ⟨fun b o hb => ?_, fun x hx => ?_, ?_, fun b hb => ?_, hos.trans h.os, hout.trans h.out, htape.trans h.tape⟩
  · have e := h.env b o hb
    rw [hsame b (fun hr => by rw [hEr b hr] at hb; cases hb) (Array.getElem?_eq_some_iff.1 e).1]; exact e
  · rcases List.mem_cons.1 hx with rfl | hx
    · exact hok
    · refine x.loc _ _ (fun b hb => ?_) (h1.own x (.tail _ hx))
      have := hM b (List.mem_flatMap.2 ⟨x, hx, hb⟩)
      exact (hsame b this.1 this.2.1).symm
  · simp only [List.flatMap_cons]
    refine List.nodup_append.2 ⟨hnd, hn2, fun a ha b hb e => ?_⟩
    subst e
    have hb' := hM a hb
    rcases hids a ha with hi | hi
    · exact hb'.1 hi.1
    · omega
  · simp only [List.flatMap_cons] at hb
    rcases List.mem_append.1 hb with hb | hb
    · rcases hids b hb with hi | hi
      · exact ⟨hEr b hi.1, hi.2⟩
      · refine ⟨?_, hi.2⟩
        cases hE : E.heap b with
        | none => rfl
        | some o' => have := (Array.getElem?_eq_some_iff.1 (h.env _ _ hE)).1; omega
    · have := hM b hb
      exact ⟨this.2.2, by omega⟩

/-- An owned block is turned. -/
theorem St.put {E : Env} {L L' : List Res} {w : World} {b : Nat} {o o' : Obj} (h : St E L w) (u : Upd L (.blk b o) (.blk b o') L') : St E L' (w.putObj b o') := by
  have hb : w.heap[b]? = some o := h.own _ u.mem
  have hlt := (Array.getElem?_eq_some_iff.1 hb).1
  refine h.update u (by simp) (fun c hc _ => World.putObj_heap_other (fun e => hc (by subst e; simp [Res.blk]))) (World.putObj_heap_same hlt) (fun c hc => ?_) (by simp [Res.blk]) rfl rfl rfl
  simp only [Res.blk, List.mem_singleton] at hc ⊢
  subst hc
  exact .inl ⟨rfl, by simpa using hlt⟩

/-- What is owned may be let go for good. -/
theorem St.drop {E : Env} {L : List Res} {r : Res} {w : World} (h : St E (r :: L) w) : St E L w := by
  have hn := h.nodup
  simp only [List.flatMap_cons] at hn
  exact ⟨h.env, fun x hx => h.own x (.tail _ hx), (List.nodup_append.1 hn).2.1, fun b hb => h.apart b (by simp only [List.flatMap_cons]; exact List.mem_append.2 (.inr hb)), h.os, h.out, h.tape⟩

theorem St.dropAll {E : Env} {M L : List Res} {w : World} (h : St E (M ++ L) w) : St E L w := by
  induction M with
  | nil => exact h
  | cons r M ih => exact ih h.drop

/-- What is owned may be shut for good: it is E's from now on. -/
noncomputable def Env.add (E : Env) (h : Nat → Option Obj) (ids : List Nat) : Env :=
  open Classical in ⟨fun b => if b ∈ ids then h b else E.heap b, E.os, E.output, E.tape⟩

theorem St.freeze {E : Env} {L : List Res} {r : Res} {w : World} (h : St E (r :: L) w) : ∃ E', E.Le E' ∧ St E' L w ∧ r.ok E'.heap := by
  have hn := h.nodup
  simp only [List.flatMap_cons] at hn
  obtain ⟨_, hn2, hn3⟩ := List.nodup_append.1 hn
  have hr : ∀ b, b ∈ r.ids → E.heap b = none := fun b hb => (h.apart b (by simp only [List.flatMap_cons]; exact List.mem_append.2 (.inl hb))).1
  refine ⟨E.add (fun b => w.heap[b]?) r.ids, ⟨fun b o hb => ?_, rfl, rfl, rfl⟩, ⟨fun b o hb => ?_, fun x hx => h.own x (.tail _ hx), hn2, fun b hb => ?_, h.os, h.out, h.tape⟩, ?_⟩
  · simp only [Env.add]
    rw [if_neg (fun hm => by rw [hr b hm] at hb; cases hb)]; exact hb
  · simp only [Env.add] at hb
    split at hb
    · exact hb
    · exact h.env b o hb
  · have h' := h.apart b (by simp only [List.flatMap_cons]; exact List.mem_append.2 (.inr hb))
    refine ⟨?_, h'.2⟩
    simp only [Env.add]
    rw [if_neg (fun hm => hn3 b hm b hb rfl)]; exact h'.1
  · refine r.loc _ _ (fun b hb => ?_) (h.own r (.head _))
    simp only [Env.add, if_pos hb]

inductive Del : List Res → Res → List Res → Prop
  | head (r : Res) (L : List Res) : Del (r :: L) r L
  | tail (x : Res) {L L' : List Res} {r : Res} (h : Del L r L') : Del (x :: L) r (x :: L')
theorem Del.perm {L L' : List Res} {r : Res} (d : Del L r L') : L.Perm (r :: L') := by
  induction d with
  | head r L => exact .refl _
  | tail x _ ih => exact (ih.cons x).trans (.swap ..)
theorem perm3 (a b c : Res) (l : List Res) : (a :: b :: c :: l).Perm (b :: c :: a :: l) := (List.Perm.swap ..).trans (.cons _ (.swap ..))

theorem St.weaken {E E' : Env} {L : List Res} {w : World} (h : St E' L w) (hE : E.Le E') : St E L w :=
  ⟨fun b o hb => h.env b o (hE.1 b o hb), h.own, h.nodup, fun b hb => ⟨(by
    have := (h.apart b hb).1
    cases e : E.heap b with
    | none => rfl
    | some o => rw [hE.1 b o e] at this; cases this), (h.apart b hb).2⟩, h.os.trans hE.2.1, h.out.trans hE.2.2.1, h.tape.trans hE.2.2.2⟩

/-! ### Slots -/

def look : List (Nat × Value) → Nat → Option Value
  | [], _ => none
  | (j, v) :: fs, i => bif Nat.beq j i then some v else look fs i

/-- What is known of a frame. -/
structure Fr (n : Nat) (ds : List Deferred) (fs : List (Nat × Value)) (a : Act) : Prop where
  size : a.tmps.size = n
  defers : a.defers = ds
  get : ∀ i v, look fs i = some v → a.tmps[i]? = some v

def ev (fs : List (Nat × Value)) : Operand → Option Value
  | .tmp t => look fs t
  | .const v => some v
  | .global g => some (.pointer (some ⟨g, 0, none⟩))
  | .func f => some (.func (.func f) #[] #[])

theorem Fr.eval {n : Nat} {ds : List Deferred} {fs : List (Nat × Value)} {a : Act} {x : Operand} {v : Value} (h : Fr n ds fs a) (hx : ev fs x = some v) : a.eval x = v := by
  cases x with
  | tmp t =>
    have := h.get t v hx
    simp [Act.eval, Array.getD_eq_getD_getElem?, this]
  | const c => simpa [ev, Act.eval] using hx
  | global g => simpa [ev, Act.eval] using hx
  | func f => simpa [ev, Act.eval] using hx

theorem Fr.put {n : Nat} {ds : List Deferred} {fs : List (Nat × Value)} {a : Act} (h : Fr n ds fs a) {d : Nat} (hd : Nat.blt d n = true) (v : Value) : Fr n ds ((d, v) :: fs) (a.put (some d) v) := by
  have hd' : d < a.tmps.size := by rw [h.size]; simpa using hd
  refine ⟨by simp [Act.put, h.size], h.defers, fun i u hi => ?_⟩
  simp only [look] at hi
  by_cases e : d = i
  · subst e
    simp at hi
    subst hi
    simp [Act.put, hd']
  · have : Nat.beq d i = false := beq_ne e
    rw [this] at hi
    simp only [cond_false] at hi
    simp [Act.put, Array.getElem?_setIfInBounds_ne e, h.get i u hi]

theorem Fr.put_none {n : Nat} {ds : List Deferred} {fs : List (Nat × Value)} {a : Act} (h : Fr n ds fs a) (v : Value) : Fr n ds fs (a.put none v) := h

def Sub : List (Nat × Value) → List (Nat × Value) → Prop
  | [], _ => True
  | (i, v) :: r, fs => look fs i = some v ∧ Sub r fs

theorem Sub.look {fs fs' : List (Nat × Value)} (h : Sub fs' fs) : ∀ i v, look fs' i = some v → look fs i = some v := by
  induction fs' with
  | nil => intro i v hi; cases hi
  | cons p r ih =>
    obtain ⟨j, u⟩ := p
    intro i v hi
    simp only [Ytaoinojdijbhaaa.look] at hi
    by_cases e : j = i
    · subst e; simp at hi; subst hi; exact h.1
    · have : Nat.beq j i = false := beq_ne e
      rw [this] at hi
      exact ih h.2 i v hi

theorem Fr.sub {n : Nat} {ds : List Deferred} {fs fs' : List (Nat × Value)} {a : Act} (h : Fr n ds fs a) (hs : Sub fs' fs) : Fr n ds fs' a :=
  ⟨h.size, h.defers, fun i v hi => h.get i v (hs.look i v hi)⟩

/-- X holds in every frame and every memory of which this is known. -/
def G (n : Nat) (ds : List Deferred) (fs : List (Nat × Value)) (E : Env) (L : List Res) (X : Act → World → Prop) : Prop := ∀ a w, Fr n ds fs a → St E L w → X a w

theorem G.sub {n : Nat} {ds : List Deferred} {fs : List (Nat × Value)} {E : Env} {L : List Res} {X : Act → World → Prop} (fs' : List (Nat × Value)) (hs : Sub fs' fs) (h : G n ds fs' E L X) : G n ds fs E L X :=
  fun a w ha hw => h a w (ha.sub hs) hw

theorem G.perm {n : Nat} {ds : List Deferred} {fs : List (Nat × Value)} {E : Env} {L : List Res} {X : Act → World → Prop} (L' : List Res) (p : L.Perm L') (h : G n ds fs E L' X) : G n ds fs E L X :=
  fun a w ha hw => h a w ha (hw.perm p)

theorem G.dropAll {n : Nat} {ds : List Deferred} {fs : List (Nat × Value)} {E : Env} {L : List Res} {X : Act → World → Prop} (M : List Res) (h : G n ds fs E L X) : G n ds fs E (M ++ L) X :=
  fun a w ha hw => h a w ha hw.dropAll

theorem G.drop {n : Nat} {ds : List Deferred} {fs : List (Nat × Value)} {E : Env} {L : List Res} {r : Res} {X : Act → World → Prop} (h : G n ds fs E L X) : G n ds fs E (r :: L) X :=
  fun a w ha hw => h a w ha hw.drop

/-- A piece is shut for good: it is E's. -/
theorem G.freeze {n : Nat} {ds : List Deferred} {fs : List (Nat × Value)} {E : Env} {L L' : List Res} {r : Res} {X : Act → World → Prop} (d : Del L r L') (h : ∀ E', E.Le E' → r.ok E'.heap → G n ds fs E' L' X) : G n ds fs E L X := fun a w ha hw => by
  obtain ⟨E', h1, h2, h3⟩ := (hw.perm d.perm).freeze
  exact h E' h1 h3 a w ha h2

/-- A piece is let go. -/
theorem G.rm {n : Nat} {ds : List Deferred} {fs : List (Nat × Value)} {E : Env} {L L' : List Res} {r : Res} {X : Act → World → Prop} (d : Del L r L') (h : G n ds fs E L' X) : G n ds fs E L X := G.perm _ d.perm (G.drop h)

/-- A slot that holds a bool: one of two. -/
theorem G.bool {n : Nat} {ds : List Deferred} {fs : List (Nat × Value)} {E : Env} {L : List Res} {X : Act → World → Prop} (i : Nat) {b : Bool} (hi : look fs i = some (.bool b))
    (ht : b = true → G n ds ((i, .bool true) :: fs) E L X) (hf : b = false → G n ds ((i, .bool false) :: fs) E L X) : G n ds fs E L X := by
  have key : ∀ a : Act, Fr n ds fs a → Fr n ds ((i, .bool b) :: fs) a := fun a h => ⟨h.size, h.defers, fun j v hj => by
    simp only [look] at hj
    by_cases e : i = j
    · subst e; simp at hj; subst hj; exact h.get _ _ hi
    · have : Nat.beq i j = false := beq_ne e
      rw [this] at hj
      exact h.get j v hj⟩
  intro a w ha hw
  cases b with
  | true => exact ht rfl a w (key a ha) hw
  | false => exact hf rfl a w (key a ha) hw

/-- A slot's value, spelt anew. -/
theorem G.spell {n : Nat} {ds : List Deferred} {fs : List (Nat × Value)} {E : Env} {L : List Res} {X : Act → World → Prop} (i : Nat) {v : Value} (v' : Value) (hi : look fs i = some v) (hv : v = v')
    (h : G n ds ((i, v') :: fs) E L X) : G n ds fs E L X := by
  subst hv
  intro a w ha hw
  refine h a w ⟨ha.size, ha.defers, fun j u hj => ?_⟩ hw
  simp only [look] at hj
  by_cases e : i = j
  · subst e; simp at hj; subst hj; exact ha.get _ _ hi
  · have : Nat.beq i j = false := beq_ne e
    rw [this] at hj
    exact ha.get j u hj

end Go.Proofs.Ytaoinojdijbhaaa
