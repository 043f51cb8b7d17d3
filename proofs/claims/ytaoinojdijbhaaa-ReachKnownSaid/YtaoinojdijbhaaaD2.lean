import Derived.Test.YtaoinojdijbhaaaD1
namespace Go.Proofs.Ytaoinojdijbhaaa

/-! Least costs exist, and are found step by step. -/
def wide (f : Tab) : Nat := f.countP Option.isSome
def mo : Option Nat → Nat
  | none => 1099511627777
  | some c => c
def meas (f : Tab) : Nat := (f.map mo).sum
def Bd (f : Tab) : Prop := ∀ s c, tget f s = some c → c ≤ 16 ^ wide f
structure Wf (ps : List Pr) (n : Nat) : Prop where
  nn : n ≤ 10
  left : ∀ p, p ∈ ps → 16 ≤ p.1 ∧ p.1 < 16 + n
  right : ∀ p, p ∈ ps → p.2.length ≤ 8
  syms : ∀ p, p ∈ ps → ∀ s, s ∈ p.2 → s < 16 + n
structure Small (t : Option Nat) (own : Nat) : Prop where
  t : ∀ k, t = some k → k ≤ 1
  own : own ≤ 1
structure Inv (ps : List Pr) (n : Nat) (t : Option Nat) (own : Nat) (f : Tab) : Prop where
  len : f.length = n
  sound : Sound ps t own f
  bd : Bd f
def better (t : Option Nat) (own : Nat) (f : Tab) (p : Pr) : Option Nat :=
  match cost t f p.2 with
  | none => none
  | some c => match tget f p.1 with
    | none => some (own + c)
    | some c' => if own + c < c' then some (own + c) else none
def upd (f : Tab) (p : Pr) (v : Nat) : Tab := f.set (p.1 - 16).toNat (some v)
theorem better_iff {t : Option Nat} {own : Nat} {f : Tab} {p : Pr} {v : Nat} : better t own f p = some v ↔ ∃ c, cost t f p.2 = some c ∧ v = own + c ∧ ∀ c', tget f p.1 = some c' → own + c < c' := by
  rw [better]
  cases h1 : cost t f p.2 with
  | none => simp
  | some c =>
    cases h2 : tget f p.1 with
    | none =>
      constructor
      · intro h; exact ⟨c, rfl, (Option.some.inj h).symm, fun c' h => by cases h⟩
      · rintro ⟨c', h, rfl, _⟩; rw [Option.some.inj h]
    | some c' =>
      show (if own + c < c' then some (own + c) else none) = some v ↔ _
      by_cases hlt : own + c < c'
      · rw [if_pos hlt]
        constructor
        · intro h; exact ⟨c, rfl, (Option.some.inj h).symm, fun c' h => by rw [Option.some.inj h.symm]; exact hlt⟩
        · rintro ⟨c', h, rfl, _⟩; rw [Option.some.inj h]
      · rw [if_neg hlt]
        constructor
        · intro h; cases h
        · rintro ⟨x, h, rfl, h3⟩
          have := h3 c' rfl
          rw [Option.some.inj h] at hlt
          exact absurd this hlt
theorem better_stable {t : Option Nat} {own : Nat} {f : Tab} {ps : List Pr} : Stable ps t own f ↔ ∀ p, p ∈ ps → better t own f p = none := by
  constructor
  · intro h p hp
    cases hb : better t own f p with
    | none => rfl
    | some v =>
      obtain ⟨c, h1, _, h3⟩ := better_iff.1 hb
      obtain ⟨c', h4, h5⟩ := h p hp c h1
      have := h3 c' h4
      omega
  · intro h p hp c hc
    cases h2 : tget f p.1 with
    | none =>
      have := h p hp
      simp [better, hc, h2] at this
    | some c' =>
      refine ⟨c', rfl, ?_⟩
      have := h p hp
      simp only [better, hc, h2] at this
      by_cases hlt : own + c < c'
      · rw [if_pos hlt] at this; cases this
      · omega
theorem tget_upd {f : Tab} {p : Pr} {v : Nat} {s : Int} (h : (p.1 - 16).toNat < f.length) : tget (upd f p v) s = if (p.1 - 16).toNat = (s - 16).toNat then some v else tget f s := by
  rw [tget, upd, List.getElem?_set]
  by_cases he : (p.1 - 16).toNat = (s - 16).toNat
  · rw [if_pos he, if_pos he, if_pos h]; rfl
  · rw [if_neg he, if_neg he]; rfl
theorem wide_upd {f : Tab} {p : Pr} {v : Nat} (h : (p.1 - 16).toNat < f.length) : wide (upd f p v) = wide f + (if tget f p.1 = none then 1 else 0) := by
  have key : ∀ (f : Tab) (k : Nat), k < f.length → (f.set k (some v)).countP Option.isSome = f.countP Option.isSome + (if (f[k]?).getD none = none then 1 else 0) := by
    intro f
    induction f with
    | nil => intro k h; cases h
    | cons x f ih =>
      intro k h
      cases k with
      | zero => cases x <;> simp
      | succ k =>
        have := ih k (Nat.lt_of_succ_lt_succ h)
        simp only [List.set_cons_succ, List.countP_cons, this, List.getElem?_cons_succ]
        omega
  exact key f _ h
theorem meas_upd {f : Tab} {p : Pr} {v : Nat} (h : (p.1 - 16).toNat < f.length) (hv : v < mo (tget f p.1)) : meas (upd f p v) < meas f := by
  have key : ∀ (f : Tab) (k : Nat), k < f.length → v < mo ((f[k]?).getD none) → ((f.set k (some v)).map mo).sum < (f.map mo).sum := by
    intro f
    induction f with
    | nil => intro k h; cases h
    | cons x f ih =>
      intro k h hv
      cases k with
      | zero =>
        simp only [List.getElem?_cons_zero, Option.getD_some] at hv
        simp only [List.set_cons_zero, List.map_cons, List.sum_cons]
        have e : mo (some v) = v := rfl
        omega
      | succ k =>
        have := ih k (Nat.lt_of_succ_lt_succ h) hv
        simp only [List.set_cons_succ, List.map_cons, List.sum_cons]
        omega
  exact key f _ h hv
theorem cost_le {t : Option Nat} {f : Tab} {B : Nat} (ht : ∀ k, t = some k → k ≤ B) (hf : ∀ s c, tget f s = some c → c ≤ B) : ∀ (l : List Int) (c : Nat), cost t f l = some c → c ≤ l.length * B := by
  intro l
  induction l with
  | nil => intro c h; rw [Option.some.inj h.symm]; exact Nat.zero_le _
  | cons s l ih =>
    intro c h
    obtain ⟨x, y, hx, hy, rfl⟩ := addO_some h
    have h1 := ih y hy
    have h2 : x ≤ B := by
      rw [symc] at hx
      by_cases hlt : s < 16
      · rw [if_pos hlt] at hx; exact ht x hx
      · rw [if_neg hlt] at hx; exact hf s x hx
    rw [List.length_cons, Nat.succ_mul]
    omega
theorem wide_le (f : Tab) : wide f ≤ f.length := List.countP_le_length
theorem Inv.le {ps : List Pr} {n : Nat} {t : Option Nat} {own : Nat} {f : Tab} (h : Inv ps n t own f) (hw : Wf ps n) {s : Int} {c : Nat} (hc : tget f s = some c) : c ≤ 1099511627776 := by
  have h1 := h.bd s c hc
  have h2 := wide_le f
  have h3 : wide f ≤ 10 := by have := h.len; have := hw.nn; omega
  have h4 : 16 ^ wide f ≤ 16 ^ 10 := Nat.pow_le_pow_right (by decide) h3
  have h5 : (16 : Nat) ^ 10 = 1099511627776 := by decide
  omega
theorem Inv.upd {ps : List Pr} {n : Nat} {t : Option Nat} {own : Nat} {f : Tab} (h : Inv ps n t own f) (hw : Wf ps n) (hs : Small t own) {p : Pr} (hp : p ∈ ps) {v : Nat} (hb : better t own f p = some v) :
    Inv ps n t own (upd f p v) ∧ meas (Proofs.Ytaoinojdijbhaaa.upd f p v) < meas f ∧ v ≤ 1099511627776 := by
  obtain ⟨c, hc, rfl, hlt⟩ := better_iff.1 hb
  have hl := hw.left p hp
  have hlen := h.len
  have hk : (p.1 - 16).toNat < f.length := by omega
  have hinv : Inv ps n t own (Proofs.Ytaoinojdijbhaaa.upd f p (own + c)) := by
    refine ⟨by simp [Proofs.Ytaoinojdijbhaaa.upd, h.len], ?_, ?_⟩
    · intro s x hs16 hx
      rw [tget_upd hk] at hx
      by_cases he : (p.1 - 16).toNat = (s - 16).toNat
      · rw [if_pos he] at hx
        have : s = p.1 := by omega
        subst this
        rw [← Option.some.inj hx]
        exact D.one hp hs16 (h.sound.cost hc)
      · rw [if_neg he] at hx
        exact h.sound s x hs16 hx
    · have hB : 1 ≤ 16 ^ wide f := Nat.pow_pos (by decide)
      have hcl : c ≤ p.2.length * 16 ^ wide f := cost_le (fun k hk => Nat.le_trans (hs.t k hk) hB) h.bd p.2 c hc
      have h8 : p.2.length * 16 ^ wide f ≤ 8 * 16 ^ wide f := Nat.mul_le_mul_right _ (hw.right p hp)
      have hown := hs.own
      intro s x hx
      rw [tget_upd hk] at hx
      rw [wide_upd hk]
      by_cases he : (p.1 - 16).toNat = (s - 16).toNat
      · rw [if_pos he] at hx
        have hx := Option.some.inj hx
        cases hn : tget f p.1 with
        | none =>
          rw [if_pos rfl, Nat.pow_succ]
          omega
        | some c' =>
          rw [if_neg (by simp)]
          have h1 := hlt c' hn
          have h2 := h.bd _ _ hn
          show x ≤ 16 ^ wide f
          omega
      · rw [if_neg he] at hx
        have h1 := h.bd s x hx
        have h2 : 16 ^ wide f ≤ 16 ^ (wide f + if tget f p.1 = none then 1 else 0) := Nat.pow_le_pow_right (by decide) (Nat.le_add_right _ _)
        omega
  have hv : own + c ≤ 1099511627776 := by
    refine hinv.le hw (s := p.1) ?_
    rw [tget_upd hk, if_pos rfl]
  refine ⟨hinv, meas_upd hk ?_, hv⟩
  cases hn : tget f p.1 with
  | none => show _ < 1099511627777; omega
  | some c' => exact hlt c' hn
/-- The first production that makes a cost less. -/
def step (t : Option Nat) (own : Nat) (f : Tab) : List Pr → Option Tab
  | [] => none
  | p :: ps => match better t own f p with
    | some v => some (upd f p v)
    | none => step t own f ps
theorem step_none {t : Option Nat} {own : Nat} {f : Tab} {ps : List Pr} (h : step t own f ps = none) : Stable ps t own f := by
  rw [better_stable]
  induction ps with
  | nil => intro p hp; cases hp
  | cons q ps ih =>
    intro p hp
    rw [step] at h
    cases hb : better t own f q with
    | some v => rw [hb] at h; cases h
    | none =>
      rw [hb] at h
      cases hp with
      | head => exact hb
      | tail _ hp => exact ih h p hp
theorem step_some {t : Option Nat} {own : Nat} {f f' : Tab} {ps : List Pr} (h : step t own f ps = some f') : ∃ p v, p ∈ ps ∧ better t own f p = some v ∧ f' = upd f p v := by
  induction ps with
  | nil => cases h
  | cons q ps ih =>
    rw [step] at h
    cases hb : better t own f q with
    | some v => rw [hb] at h; exact ⟨q, v, .head _, hb, (Option.some.inj h).symm⟩
    | none =>
      rw [hb] at h
      obtain ⟨p, v, h1, h2, h3⟩ := ih h
      exact ⟨p, v, .tail _ h1, h2, h3⟩
def lfp (t : Option Nat) (own : Nat) (ps : List Pr) : Nat → Tab → Tab
  | 0, f => f
  | k + 1, f => match step t own f ps with
    | none => f
    | some f' => lfp t own ps k f'
theorem lfp_least {ps : List Pr} {n : Nat} {t : Option Nat} {own : Nat} (hw : Wf ps n) (hs : Small t own) : ∀ (k : Nat) (f : Tab), meas f < k → Inv ps n t own f → IsLeast ps n t own (lfp t own ps k f) ∧ Inv ps n t own (lfp t own ps k f) := by
  intro k
  induction k with
  | zero => intro f h; cases h
  | succ k ih =>
    intro f hk h
    rw [lfp]
    cases hb : step t own f ps with
    | none => exact ⟨⟨h.len, step_none hb, h.sound⟩, h⟩
    | some f' =>
      obtain ⟨p, v, h1, h2, rfl⟩ := step_some hb
      obtain ⟨h3, h4, _⟩ := h.upd hw hs h1 h2
      exact ih _ (by omega) h3
def start (n : Nat) : Tab := List.replicate n none
theorem tget_start (n : Nat) (s : Int) : tget (start n) s = none := by
  rw [tget, start, List.getElem?_replicate]
  by_cases h : (s - 16).toNat < n
  · rw [if_pos h]; rfl
  · rw [if_neg h]; rfl
theorem inv_start (ps : List Pr) (n : Nat) (t : Option Nat) (own : Nat) : Inv ps n t own (start n) :=
  ⟨by simp [start], fun s c _ h => (by rw [tget_start] at h; cases h), fun s c h => (by rw [tget_start] at h; cases h)⟩
theorem meas_start (n : Nat) : meas (start n) = n * 1099511627777 := by
  simp [meas, start, mo]
def best (ps : List Pr) (n : Nat) (t : Option Nat) (own : Nat) : Tab := lfp t own ps 10995116277771 (start n)
theorem best_all {ps : List Pr} {n : Nat} {t : Option Nat} {own : Nat} (hw : Wf ps n) (hs : Small t own) : IsLeast ps n t own (best ps n t own) ∧ Inv ps n t own (best ps n t own) := by
  refine lfp_least hw hs _ _ ?_ (inv_start ps n t own)
  rw [meas_start]
  have := hw.nn
  omega
theorem best_least {ps : List Pr} {n : Nat} {t : Option Nat} {own : Nat} (hw : Wf ps n) (hs : Small t own) : IsLeast ps n t own (best ps n t own) := (best_all hw hs).1
theorem best_le {ps : List Pr} {n : Nat} {t : Option Nat} {own : Nat} (hw : Wf ps n) (hs : Small t own) {s : Int} {c : Nat} (h : tget (best ps n t own) s = some c) : c ≤ 1099511627776 := (best_all hw hs).2.le hw h
theorem best_eq {ps : List Pr} {n : Nat} {t : Option Nat} {own : Nat} {f : Tab} (hw : Wf ps n) (hs : Small t own) (h : IsLeast ps n t own f) : f = best ps n t own := h.uniq (best_least hw hs)
example : best [(16, [0, 17]), (17, [1]), (17, []), (18, [18, 0])] 3 (some 1) 0 = [some 1, some 0, none] := by rfl
end Go.Proofs.Ytaoinojdijbhaaa
