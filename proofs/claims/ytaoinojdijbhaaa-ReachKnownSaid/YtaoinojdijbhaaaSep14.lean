/-
  The same, its theorem: every order comes to what the walk in our order comes to.
-/
import Derived.Test.YtaoinojdijbhaaaSep13
set_option linter.unusedSimpArgs false
set_option linter.unusedVariables false
namespace Go.Proofs.Ytaoinojdijbhaaa
open Go.RowKit

section
variable {P : Program} {ops : Array Oper} {ro : Option Nat}

/-- What was carried out ahead of its place: number, value, what it owns. -/
structure Early where
  j : Nat
  v : Value
  r : List Res
def blocks (X : List Early) : List Res := X.flatMap Early.r

/-- The frame, with what was carried out ahead of its place. -/
structure Rel (ops : Array Oper) (X : List Early) (a a0 : Act) : Prop where
  size : a0.tmps.size = a.tmps.size
  defers : a0.defers = a.defers
  old : ∀ t, (∀ e, e ∈ X → ∀ o, ops[e.j]? = some o → o.dst ≠ some t) → a0.tmps[t]? = a.tmps[t]?
  new : ∀ e, e ∈ X → ∀ o, ops[e.j]? = some o → ∀ t, o.dst = some t → t < a.tmps.size → a0.tmps[t]? = some e.v

theorem Rel.nil {a a0 : Act} (h : Rel ops [] a a0) : a0 = a := by
  obtain ⟨t0, d0⟩ := a0
  obtain ⟨t, d⟩ := a
  obtain ⟨h1, h2, h3, _⟩ := h
  simp only at h1 h2 h3
  subst h2
  congr 1
  apply Array.ext_getElem?
  intro i
  exact h3 i (by simp)

theorem put_tmps (a : Act) (d : Option Tmp) (v : Value) (t : Nat) : (a.put d v).tmps[t]? = if d = some t then (if t < a.tmps.size then some v else none) else a.tmps[t]? := by
  cases d with
  | none => simp [Act.put]
  | some d =>
    simp only [Act.put, Option.some.injEq]
    by_cases h : d = t
    · subst h
      rw [if_pos rfl]
      split
      · simp [*]
      · simp [*]
    · rw [if_neg h, Array.getElem?_setIfInBounds_ne h]
theorem put_size (a : Act) (d : Option Tmp) (v : Value) : (a.put d v).tmps.size = a.tmps.size := by cases d <;> simp [Act.put]
theorem put_defers' (a : Act) (d : Option Tmp) (v : Value) : (a.put d v).defers = a.defers := by cases d <;> rfl

/-- One more, ahead of its place. -/
theorem Rel.early {X : List Early} {a a0 : Act} {e : Early} {o : Oper} (h : Rel ops X a a0) (ho : ops[e.j]? = some o) (hd : ∀ e', e' ∈ X → ∀ o', ops[e'.j]? = some o' → ∀ d, o.dst = some d → o'.dst ≠ some d) : Rel ops (e :: X) a (a0.put o.dst e.v) := by
  refine ⟨by rw [put_size]; exact h.size, by rw [put_defers']; exact h.defers, fun t ht => ?_, fun e' he' o' ho' t ht htl => ?_⟩
  · rw [put_tmps, if_neg (ht e (.head _) o ho)]
    exact h.old t fun e' he' => ht e' (.tail _ he')
  · rw [put_tmps]
    rcases List.mem_cons.1 he' with rfl | he'
    · have : o' = o := Option.some.inj (ho'.symm.trans ho)
      subst this
      rw [if_pos ht, if_pos (by rw [h.size]; exact htl)]
    · rw [if_neg (fun e1 => hd e' he' o' ho' t e1 ht)]
      exact h.new e' he' o' ho' t ht htl
/-- Its place comes. -/
theorem Rel.pop {X Y : List Early} {a a0 : Act} {e : Early} {o : Oper} (h : Rel ops X a a0) (hp : X.Perm (e :: Y)) (ho : ops[e.j]? = some o) (hd : ∀ e', e' ∈ Y → ∀ o', ops[e'.j]? = some o' → ∀ d, o.dst = some d → o'.dst ≠ some d) : Rel ops Y (a.put o.dst e.v) a0 := by
  refine ⟨by rw [put_size]; exact h.size, by rw [put_defers']; exact h.defers, fun t ht => ?_, fun e' he' o' ho' t ht htl => ?_⟩
  · rw [put_tmps]
    split
    · rename_i e1
      split
      · rename_i hl
        exact h.new e (hp.mem_iff.2 (.head _)) o ho t e1 hl
      · rename_i hl
        have : ¬ t < a0.tmps.size := by rw [h.size]; exact hl
        simp [this]
    · rename_i e1
      refine h.old t fun e' he' o' ho' => ?_
      rcases List.mem_cons.1 (hp.mem_iff.1 he') with rfl | he'
      · have : o' = o := Option.some.inj (ho'.symm.trans ho)
        subst this; exact e1
      · exact ht e' he' o' ho'
  · rw [put_size] at htl
    exact h.new e' (hp.mem_iff.2 (.tail _ he')) o' ho' t ht htl
/-- A step in its place. -/
theorem Rel.step {X : List Early} {a a0 : Act} {o : Oper} (h : Rel ops X a a0) (u : Value) (hd : ∀ e', e' ∈ X → ∀ o', ops[e'.j]? = some o' → ∀ d, o.dst = some d → o'.dst ≠ some d) : Rel ops X (a.put o.dst u) (a0.put o.dst u) := by
  refine ⟨by rw [put_size, put_size]; exact h.size, by rw [put_defers', put_defers']; exact h.defers, fun t ht => ?_, fun e' he' o' ho' t ht htl => ?_⟩
  · rw [put_tmps, put_tmps, h.size, h.old t ht]
  · rw [put_size] at htl
    rw [put_tmps, if_neg (fun e1 => hd e' he' o' ho' t e1 ht)]
    exact h.new e' he' o' ho' t ht htl

theorem Rel.look {X : List Early} {a a0 : Act} {o : Oper} (h : Rel ops X a a0) (hd : ∀ e', e' ∈ X → ∀ o', ops[e'.j]? = some o' → ∀ d, o'.dst = some d → d ∉ o.looksAt ops) :
    ∀ t, t ∈ o.looksAt ops → a0.tmps[t]? = a.tmps[t]? := fun t ht => h.old t fun e he o' ho' hd' => hd e he o' ho' t hd' ht
theorem exec_look {a a0 : Act} {o : Oper} (hs : ∀ cs b, o.op ≠ .select cs b) (h : ∀ t, t ∈ o.looksAt ops → a0.tmps[t]? = a.tmps[t]?) : execOp a0.eval o = execOp a.eval o :=
  execOp_congr o hs fun x hx => by
    cases x with
    | tmp t =>
      have : t ∈ o.looksAt ops := List.mem_append_left _ (List.mem_filterMap.2 ⟨.tmp t, by simpa using hx, rfl⟩)
      simp [Act.eval, Array.getD_eq_getD_getElem?, h t this]
    | const v => rfl
    | global g => rfl
    | func f => rfl
theorem wanted_look {a a0 : Act} {o : Oper} (h : ∀ t, t ∈ o.looksAt ops → a0.tmps[t]? = a.tmps[t]?) : Region.wanted o (yielded ops a0.tmps) = Region.wanted o (yielded ops a.tmps) := by
  unfold Region.wanted
  cases hg : o.guard with
  | none => rfl
  | some gw =>
    obtain ⟨g, want⟩ := gw
    have hy : yielded ops a0.tmps g = yielded ops a.tmps g := by
      unfold yielded
      cases ht : (ops[g]?).bind (·.dst) with
      | none => rfl
      | some t =>
        have : a0.tmps[t]? = a.tmps[t]? := h t (by simp [Oper.looksAt, hg, ht])
        simp [this]
    simp only [hy]

/-- What is known of an operation that was carried out ahead of its place, or may be. -/
def Did (P : Program) (ops : Array Oper) (k : Nat) (o : Oper) (a : Act) (v : Value) (r : List Res) : Prop :=
  (Region.wanted o (yielded ops a.tmps) = true ∧ ((k = 0 ∧ r = [] ∧ ∀ w, (execOp a.eval o).run P w = .ok (.value v) w) ∨ (k = 2 ∧ ∃ val obj b, AllocsTo P o a.eval val obj ∧ v = val b ∧ r = [.blk b obj])))
  ∨ (Region.wanted o (yielded ops a.tmps) = false ∧ v = undef ∧ r = [])
theorem Did.look {k : Nat} {o : Oper} {a a0 : Act} {v : Value} {r : List Res} (hs : ∀ cs b, o.op ≠ .select cs b) (h : ∀ t, t ∈ o.looksAt ops → a0.tmps[t]? = a.tmps[t]?) (hd : Did P ops k o a v r) : Did P ops k o a0 v r := by
  unfold Did AllocsTo at *
  rw [exec_look hs h, wanted_look h]
  exact hd

/-- The pairs of an order of ours: whatever may come before i though it stands behind it. -/
def allowed (k k' : Nat) : Bool := match k with
  | 0 | 1 => true
  | _ => k' == 0 || k' == 2
def ssa (ops : Array Oper) (x y : Oper) : Bool := match y.dst with
  | some d => !(x.looksAt ops).contains d && x.dst != some d
  | none => true
theorem ssa_spec {x y : Oper} (h : ssa ops x y = true) : ∀ d, y.dst = some d → d ∉ x.looksAt ops ∧ x.dst ≠ some d := by
  intro d hd
  simp [ssa, hd] at h
  exact h
def pairB (ops : Array Oper) (D : List Nat) (x : Oper) (k : Nat) (p : Nat × Nat) : Bool := match ops[p.1]? with
  | some y => ssa ops x y && (D.contains p.1 || (x.apart ops y && allowed k p.2))
  | none => false
def selfB (ops : Array Oper) (x : Oper) : Bool := match x.dst with
  | some d => !(x.looksAt ops).contains d
  | none => true
theorem selfB_spec {x : Oper} (h : selfB ops x = true) : ∀ d, x.dst = some d → d ∉ x.looksAt ops := by
  intro d hd
  simp [selfB, hd] at h
  exact h
def walkB (ops : Array Oper) (g m : Nat) : List (Nat × Nat) → Array Bool → Bool
  | [], listed => Region.seqB .any ops g m listed
  | (i, k) :: π, listed => (match ops[i]? with
    | some x => selfB ops x && (let D := descs ops i; π.all (pairB ops D x k))
    | none => false) && (Region.ready .any ops listed).contains i && decide (i < m) && walkB ops g m π (listed.setIfInBounds i true)

/-- What the check of an order says. -/
structure Ord (ops : Array Oper) (m : Nat) (i k : Nat) (x : Oper) (π : List (Nat × Nat)) : Prop where
  at_ : ops[i]? = some x
  lt : i < m
  self : ∀ d, x.dst = some d → d ∉ x.looksAt ops
  pair : ∀ p, p ∈ π → ∃ y, ops[p.1]? = some y ∧ (∀ d, y.dst = some d → d ∉ x.looksAt ops ∧ x.dst ≠ some d) ∧ (p.1 ∈ descs ops i ∨ (x.apart ops y = true ∧ allowed k p.2 = true))
theorem Ord.of {g m i k : Nat} {π : List (Nat × Nat)} {listed : Array Bool} (h : walkB ops g m ((i, k) :: π) listed = true) :
    (∃ x, Ord ops m i k x π) ∧ i ∈ Region.ready .any ops listed ∧ walkB ops g m π (listed.setIfInBounds i true) = true := by
  simp only [walkB, Bool.and_eq_true, decide_eq_true_eq, List.contains_iff_mem] at h
  obtain ⟨⟨⟨h1, h2⟩, h3⟩, h4⟩ := h
  refine ⟨?_, h2, h4⟩
  split at h1
  · rename_i x hx
    simp only [Bool.and_eq_true, List.all_eq_true] at h1
    refine ⟨x, hx, h3, selfB_spec h1.1, fun p hp => ?_⟩
    have := h1.2 p hp
    unfold pairB at this
    split at this
    · rename_i y hy
      simp only [Bool.and_eq_true, Bool.or_eq_true, List.contains_iff_mem] at this
      exact ⟨y, hy, ssa_spec this.1, this.2⟩
    · cases this
  · cases h1

/-- The order that is left, and where the regions stands. -/
structure At (ops : Array Oper) (g m : Nat) (π : List (Nat × Nat)) (X : List Early) (can listed : Array Bool) : Prop where
  chk : walkB ops g m π can = true
  inv : HeadInv .any ops m listed
  can_le : ∀ i, can.getD i false = true → listed.getD i false = true
  size : can.size = ops.size
  left : ∀ i, i < m → (listed.getD i true = false ↔ (∃ k, (i, k) ∈ π) ∧ ∀ e, e ∈ X → e.j ≠ i)
  nodup : (π.map Prod.fst).Nodup
  xin : ∀ e, e ∈ X → ∃ k, (e.j, k) ∈ π ∧ (k = 0 ∨ k = 2)
  xnd : (X.map Early.j).Nodup
  cl : ∀ i, i < m → (can.getD i true = false ↔ ∃ k, (i, k) ∈ π)
  ct : ∀ t, m ≤ t → t < ops.size → can.getD t true = false

theorem getD_set_self {l : Array Bool} {i : Nat} (d : Bool) (h : i < l.size) : (l.setIfInBounds i true).getD i d = true := by
  simp [h]
theorem getD_true_of {l : Array Bool} {i : Nat} (h : i < l.size) (h1 : ¬ l.getD i true = false) : l.getD i false = true := by
  simp [h] at h1 ⊢; exact h1

variable {g m i k : Nat} {π : List (Nat × Nat)} {X : List Early} {can listed : Array Bool} {x : Oper}
theorem At.unl (h : At ops g m ((i, k) :: π) X can listed) (hx : ∀ e, e ∈ X → e.j ≠ i) (him : i < m) : listed.getD i true = false := (h.left i him).2 ⟨⟨k, .head _⟩, hx⟩
theorem At.ready (h : At ops g m ((i, k) :: π) X can listed) (hx : ∀ e, e ∈ X → e.j ≠ i) (him : i < m) : i ∈ Region.ready .any ops listed := by
  obtain ⟨_, h2, _⟩ := Ord.of h.chk
  obtain ⟨_, o, ho, hall⟩ := mem_ready.1 h2
  exact mem_ready.2 ⟨h.unl hx him, o, ho, fun e he hb => h.can_le _ (hall e he hb)⟩
theorem At.notin (h : At ops g m ((i, k) :: π) X can listed) : ∀ k', (i, k') ∉ π := fun k' hm => by
  have := h.nodup
  simp only [List.map_cons, List.nodup_cons] at this
  exact this.1 (List.mem_map.2 ⟨_, hm, rfl⟩)
theorem At.cl_set (h : At ops g m ((i, k) :: π) X can listed) (him : i < m) : (∀ j, j < m → ((can.setIfInBounds i true).getD j true = false ↔ ∃ k, (j, k) ∈ π)) ∧ ∀ t, m ≤ t → t < ops.size → (can.setIfInBounds i true).getD t true = false := by
  obtain ⟨⟨x, hx⟩, _, _⟩ := Ord.of h.chk
  have hlt : i < can.size := by rw [h.size]; exact (Array.getElem?_eq_some_iff.1 hx.at_).1
  refine ⟨fun j hj => ?_, fun t ht ht' => by rw [getD_set_ne true (by omega)]; exact h.ct t ht ht'⟩
  by_cases e : i = j
  · subst e
    rw [getD_set_self _ hlt]
    constructor
    · intro hh; cases hh
    · rintro ⟨k', hk'⟩; exact absurd hk' (h.notin k')
  · rw [getD_set_ne true e, h.cl j hj]
    constructor
    · rintro ⟨k', hk'⟩
      rcases List.mem_cons.1 hk' with h4 | h4
      · cases h4; exact absurd rfl e
      · exact ⟨k', h4⟩
    · rintro ⟨k', hk'⟩; exact ⟨k', .tail _ hk'⟩
theorem At.step (h : At ops g m ((i, k) :: π) X can listed) (hx : ∀ e, e ∈ X → e.j ≠ i) (him : i < m) : At ops g m π X (can.setIfInBounds i true) (listed.setIfInBounds i true) := by
  have hr := h.ready hx him
  obtain ⟨_, _, h3⟩ := Ord.of h.chk
  have hni := h.notin
  refine ⟨h3, h.inv.set hr him, fun j hj => ?_, by simp [h.size], fun j hjm => ?_, ?_, fun e he => ?_, h.xnd, (h.cl_set him).1, (h.cl_set him).2⟩
  · by_cases e : i = j
    · subst e
      refine getD_set_self _ ?_
      rw [h.inv.size]
      obtain ⟨_, o, ho, _⟩ := mem_ready.1 hr
      exact (Array.getElem?_eq_some_iff.1 ho).1
    · rw [getD_set_ne false e] at hj ⊢
      exact h.can_le j hj
  · by_cases e : i = j
    · subst e
      constructor
      · intro hh
        have hlt : i < listed.size := by
          rw [h.inv.size]
          obtain ⟨_, o, ho, _⟩ := mem_ready.1 hr
          exact (Array.getElem?_eq_some_iff.1 ho).1
        rw [getD_set_self _ hlt] at hh; cases hh
      · rintro ⟨⟨k', hk'⟩, _⟩
        exact absurd hk' (hni k')
    · rw [getD_set_ne true e, h.left j hjm]
      constructor
      · rintro ⟨⟨k', hk'⟩, h2⟩
        rcases List.mem_cons.1 hk' with h4 | h4
        · cases h4; exact absurd rfl e
        · exact ⟨⟨k', h4⟩, h2⟩
      · rintro ⟨⟨k', hk'⟩, h2⟩
        exact ⟨⟨k', .tail _ hk'⟩, h2⟩
  · have := h.nodup
    simp only [List.map_cons, List.nodup_cons] at this
    exact this.2
  · obtain ⟨k', hk', hk2⟩ := h.xin e he
    rcases List.mem_cons.1 hk' with h4 | h4
    · cases h4; exact absurd rfl (hx e he)
    · exact ⟨k', h4, hk2⟩
theorem At.pop {Y : List Early} {e : Early} (h : At ops g m ((e.j, k) :: π) X can listed) (hp : X.Perm (e :: Y)) (him : e.j < m) : At ops g m π Y (can.setIfInBounds e.j true) listed := by
  obtain ⟨⟨x, hx⟩, _, h3⟩ := Ord.of h.chk
  have hni := h.notin
  have hnd := (hp.map Early.j).nodup_iff.1 h.xnd
  simp only [List.map_cons, List.nodup_cons] at hnd
  have hne : ∀ e', e' ∈ Y → e'.j ≠ e.j := fun e' he' hh => hnd.1 (List.mem_map.2 ⟨e', he', hh⟩)
  have hlt : e.j < ops.size := (Array.getElem?_eq_some_iff.1 hx.at_).1
  refine ⟨h3, h.inv, fun j hj => ?_, by simp [h.size], fun j hjm => ?_, ?_, fun e' he' => ?_, hnd.2, (h.cl_set him).1, (h.cl_set him).2⟩
  · by_cases e1 : e.j = j
    · subst e1
      refine getD_true_of (by rw [h.inv.size]; exact hlt) fun hh => ?_
      exact ((h.left _ him).1 hh).2 e (hp.mem_iff.2 (.head _)) rfl
    · rw [getD_set_ne false e1] at hj
      exact h.can_le j hj
  · rw [h.left j hjm]
    constructor
    · rintro ⟨⟨k', hk'⟩, h2⟩
      have hej := h2 e (hp.mem_iff.2 (.head _))
      rcases List.mem_cons.1 hk' with h4 | h4
      · cases h4; exact absurd rfl hej
      · exact ⟨⟨k', h4⟩, fun e' he' => h2 e' (hp.mem_iff.2 (.tail _ he'))⟩
    · rintro ⟨⟨k', hk'⟩, h2⟩
      refine ⟨⟨k', .tail _ hk'⟩, fun e' he' => ?_⟩
      rcases List.mem_cons.1 (hp.mem_iff.1 he') with rfl | he'
      · intro hh; subst hh; exact hni k' hk'
      · exact h2 e' he'
  · have := h.nodup
    simp only [List.map_cons, List.nodup_cons] at this
    exact this.2
  · obtain ⟨k', hk', hk2⟩ := h.xin e' (hp.mem_iff.2 (.tail _ he'))
    rcases List.mem_cons.1 hk' with h4 | h4
    · exact absurd (congrArg Prod.fst h4) (hne e' he')
    · exact ⟨k', h4, hk2⟩
theorem At.early {e : Early} {k' : Nat} (h : At ops g m π X can listed) (hr : e.j ∈ Region.ready .any ops listed) (hjm : e.j < m) (hin : (e.j, k') ∈ π) (hk : k' = 0 ∨ k' = 2) : At ops g m π (e :: X) can (listed.setIfInBounds e.j true) := by
  have hun := (mem_ready.1 hr).1
  have hlt : e.j < listed.size := by
    rw [h.inv.size]
    obtain ⟨_, o, ho, _⟩ := mem_ready.1 hr
    exact (Array.getElem?_eq_some_iff.1 ho).1
  refine ⟨h.chk, h.inv.set hr hjm, fun j hj => getD_set_true (h.can_le j hj), h.size, fun j hj => ?_, h.nodup, fun e' he' => ?_, ?_, h.cl, h.ct⟩
  · by_cases e1 : e.j = j
    · subst e1
      rw [getD_set_self _ hlt]
      constructor
      · intro hh; cases hh
      · rintro ⟨_, h2⟩; exact absurd rfl (h2 e (.head _))
    · rw [getD_set_ne true e1, h.left j hj]
      constructor
      · rintro ⟨h1, h2⟩
        refine ⟨h1, fun e' he' => ?_⟩
        rcases List.mem_cons.1 he' with rfl | he'
        · exact e1
        · exact h2 e' he'
      · rintro ⟨h1, h2⟩
        exact ⟨h1, fun e' he' => h2 e' (.tail _ he')⟩
  · rcases List.mem_cons.1 he' with rfl | he'
    · exact ⟨k', hin, hk⟩
    · exact h.xin e' he'
  · simp only [List.map_cons, List.nodup_cons]
    refine ⟨fun hh => ?_, h.xnd⟩
    obtain ⟨e', he', hh⟩ := List.mem_map.1 hh
    exact ((h.left _ hjm).1 hun).2 e' he' hh

/-- Slots of what was carried out ahead of its place, seen from an operation that stands before. -/
theorem At.xap (h : At ops g m ((i, k) :: π) X can listed) (hx : ∀ e, e ∈ X → e.j ≠ i) (o : Ord ops m i k x π) : ∀ e, e ∈ X → ∀ o', ops[e.j]? = some o' → (∀ d, o'.dst = some d → d ∉ x.looksAt ops ∧ x.dst ≠ some d) ∧ x.apart ops o' = true := by
  intro e he o' ho'
  obtain ⟨k', hk', _⟩ := h.xin e he
  have hin : (e.j, k') ∈ π := by
    rcases List.mem_cons.1 hk' with h4 | h4
    · cases h4; exact absurd rfl (hx e he)
    · exact h4
  obtain ⟨y, hy, h1, h2⟩ := o.pair _ hin
  have : y = o' := Option.some.inj (hy.symm.trans ho')
  subst this
  refine ⟨h1, h2.elim (fun hd => ?_) And.left⟩
  have hun := h.unl hx o.lt
  have h5 := descs_unlisted h.inv (getD_both hun) e.j hd
  have h6 := getD_in (i := e.j) (listed := listed) (by rw [h.inv.size]; exact (Array.getElem?_eq_some_iff.1 ho').1) h5
  exfalso
  by_cases hem : e.j < m
  · exact ((h.left _ hem).1 h6).2 e he rfl
  · -- every index of the order lies below m
    have hall : ∀ (π : List (Nat × Nat)) (can : Array Bool), walkB ops g m π can = true → ∀ p, p ∈ π → p.1 < m := by
      intro π
      induction π with
      | nil => intro can _ p hp; cases hp
      | cons q π ih =>
        obtain ⟨i', k''⟩ := q
        intro can hc p hp
        obtain ⟨⟨x', hx'⟩, _, hc'⟩ := Ord.of hc
        rcases List.mem_cons.1 hp with rfl | hp
        · exact hx'.lt
        · exact ih _ hc' p hp
    exact hem (hall _ _ h.chk _ hk')
end
end Go.Proofs.Ytaoinojdijbhaaa
