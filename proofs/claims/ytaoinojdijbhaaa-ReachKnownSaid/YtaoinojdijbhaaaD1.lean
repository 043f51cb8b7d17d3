import Derived.Test.YtaoinojdijbhaaaH8
namespace Go.Proofs.Ytaoinojdijbhaaa

/-! Least costs, in plain Lean. -/
abbrev Tab := List (Option Nat)
def tget (f : Tab) (s : Int) : Option Nat := (f[(s - 16).toNat]?).getD none
def symc (t : Option Nat) (f : Tab) (s : Int) : Option Nat := if s < 16 then t else tget f s
def addO : Option Nat → Option Nat → Option Nat
  | some a, some b => some (a + b)
  | _, _ => none
theorem addO_assoc (a b c : Option Nat) : addO (addO a b) c = addO a (addO b c) := by
  cases a <;> cases b <;> cases c <;> simp [addO, Nat.add_assoc]
theorem addO_zero (a : Option Nat) : addO a (some 0) = a := by cases a <;> rfl
theorem addO_zero' (a : Option Nat) : addO (some 0) a = a := by cases a <;> simp [addO]
theorem addO_some {a b : Option Nat} {c : Nat} (h : addO a b = some c) : ∃ x y, a = some x ∧ b = some y ∧ c = x + y := by
  cases a with
  | none => cases h
  | some x => cases b with
    | none => cases h
    | some y => exact ⟨x, y, rfl, rfl, (Option.some.inj h).symm⟩
def cost (t : Option Nat) (f : Tab) : List Int → Option Nat
  | [] => some 0
  | s :: r => addO (symc t f s) (cost t f r)
theorem cost_snoc (t : Option Nat) (f : Tab) (l : List Int) (s : Int) : cost t f (l ++ [s]) = addO (cost t f l) (symc t f s) := by
  induction l with
  | nil => show addO _ (some 0) = addO (some 0) _; rw [addO_zero, addO_zero']
  | cons x l ih => show addO _ (cost t f (l ++ [s])) = addO (addO _ _) _; rw [ih, addO_assoc]
theorem cost_take (t : Option Nat) (f : Tab) {l : List Int} {k : Nat} (h : k < l.length) : cost t f (l.take (k + 1)) = addO (cost t f (l.take k)) (symc t f l[k]) := by
  rw [List.take_succ_eq_append_getElem h, cost_snoc]
/-- What a string of symbols may cost. -/
inductive D (ps : List Pr) (t : Option Nat) (own : Nat) : List Int → Nat → Prop
  | nil : D ps t own [] 0
  | term {s : Int} {r : List Int} {k c : Nat} : s < 16 → t = some k → D ps t own r c → D ps t own (s :: r) (k + c)
  | non {p : Pr} {r : List Int} {a b : Nat} : p ∈ ps → 16 ≤ p.1 → D ps t own p.2 a → D ps t own r b → D ps t own (p.1 :: r) (own + a + b)
def Stable (ps : List Pr) (t : Option Nat) (own : Nat) (f : Tab) : Prop := ∀ p, p ∈ ps → ∀ c, cost t f p.2 = some c → ∃ c', tget f p.1 = some c' ∧ c' ≤ own + c
def Sound (ps : List Pr) (t : Option Nat) (own : Nat) (f : Tab) : Prop := ∀ s c, 16 ≤ s → tget f s = some c → D ps t own [s] c
section
variable {ps : List Pr} {t : Option Nat} {own : Nat} {f : Tab}
theorem D.cons {s : Int} {a : Nat} {r : List Int} {b : Nat} (h : D ps t own [s] a) (hr : D ps t own r b) : D ps t own (s :: r) (a + b) := by
  generalize hl : [s] = l at h
  cases h with
  | nil => cases hl
  | term h1 h2 h3 =>
    obtain ⟨rfl, rfl⟩ := List.cons.inj hl
    cases h3
    exact D.term h1 h2 hr
  | non h1 h2 h3 h4 =>
    obtain ⟨rfl, rfl⟩ := List.cons.inj hl
    cases h4
    exact D.non h1 h2 h3 hr
theorem D.one {p : Pr} {a : Nat} (h1 : p ∈ ps) (h2 : 16 ≤ p.1) (h3 : D ps t own p.2 a) : D ps t own [p.1] (own + a) := D.non h1 h2 h3 .nil
theorem Stable.le (hs : Stable ps t own f) {r : List Int} {c : Nat} (h : D ps t own r c) : ∃ c', cost t f r = some c' ∧ c' ≤ c := by
  induction h with
  | nil => exact ⟨0, rfl, Nat.le_refl _⟩
  | term h1 h2 _ ih =>
    obtain ⟨x, hx, hle⟩ := ih
    refine ⟨_, ?_, Nat.add_le_add_left hle _⟩
    rw [cost, hx, symc, if_pos h1, h2]; rfl
  | non h1 h2 _ _ ih1 ih2 =>
    obtain ⟨x, hx, hle⟩ := ih1
    obtain ⟨y, hy, hle2⟩ := ih2
    obtain ⟨z, hz, hle3⟩ := hs _ h1 _ hx
    refine ⟨z + y, ?_, by omega⟩
    rw [cost, hy, symc, if_neg (by omega), hz]; rfl
theorem Sound.cost (hs : Sound ps t own f) {r : List Int} {c : Nat} (h : cost t f r = some c) : D ps t own r c := by
  induction r generalizing c with
  | nil => rw [Option.some.inj h.symm]; exact .nil
  | cons s r ih =>
    obtain ⟨x, y, hx, hy, rfl⟩ := addO_some h
    rw [symc] at hx
    by_cases hlt : s < 16
    · rw [if_pos hlt] at hx
      exact .term hlt hx (ih hy)
    · rw [if_neg hlt] at hx
      exact (hs s x (by omega) hx).cons (ih hy)
theorem tget_ext {f f' : Tab} (hl : f.length = f'.length) (h : ∀ s, 16 ≤ s → tget f s = tget f' s) : f = f' := by
  apply List.ext_getElem hl
  intro i h1 h2
  have := h (16 + i) (by omega)
  have e : ((16 : Int) + i - 16).toNat = i := by omega
  simpa [tget, e, h1, h2] using this
/-- The least costs of n nonterminals. -/
structure IsLeast (ps : List Pr) (n : Nat) (t : Option Nat) (own : Nat) (f : Tab) : Prop where
  len : f.length = n
  stable : Stable ps t own f
  sound : Sound ps t own f
theorem IsLeast.uniq {n : Nat} {f' : Tab} (h : IsLeast ps n t own f) (h' : IsLeast ps n t own f') : f = f' := by
  apply tget_ext (h.len.trans h'.len.symm)
  have key : ∀ {g g' : Tab}, IsLeast ps n t own g → IsLeast ps n t own g' → ∀ s, 16 ≤ s → ∀ c, tget g s = some c → ∃ c', tget g' s = some c' ∧ c' ≤ c := by
    intro g g' h h' s hs c hc
    obtain ⟨c', h1, h2⟩ := h'.stable.le (h.sound s c hs hc)
    have e : cost t g' [s] = tget g' s := by show addO (symc t g' s) (some 0) = _; rw [addO_zero, symc, if_neg (by omega)]
    rw [e] at h1
    exact ⟨c', h1, h2⟩
  intro s hs
  cases h1 : tget f s with
  | none =>
    cases h2 : tget f' s with
    | none => rfl
    | some c =>
      obtain ⟨c', h3, _⟩ := key h' h s hs c h2
      rw [h1] at h3; cases h3
  | some c =>
    obtain ⟨c', h3, h4⟩ := key h h' s hs c h1
    obtain ⟨c'', h5, h6⟩ := key h' h s hs c' h3
    rw [h1] at h5
    have := Option.some.inj h5
    rw [h3]
    congr 1
    omega
end
end Go.Proofs.Ytaoinojdijbhaaa
