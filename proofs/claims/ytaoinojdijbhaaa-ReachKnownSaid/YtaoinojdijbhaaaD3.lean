import Derived.Test.YtaoinojdijbhaaaD2
namespace Go.Proofs.Ytaoinojdijbhaaa

/-! What can be made at all: tables of booleans. -/
def tb (b : Bool) : Option Nat := if b = true then some 0 else none
def tab (l : List Bool) : Tab := l.map tb
def bget (l : List Bool) (s : Int) : Bool := (l[(s - 16).toNat]?).getD false
def goodB (terms : Bool) (l : List Bool) (s : Int) : Bool := if s < 16 then terms else bget l s
theorem tb_some (b : Bool) : (tb b).isSome = b := by cases b <;> rfl
theorem tab_some (l : List Bool) : (tab l).map Option.isSome = l := by
  induction l with
  | nil => rfl
  | cons b l ih =>
    have e : (tab (b :: l)).map Option.isSome = (tb b).isSome :: (tab l).map Option.isSome := rfl
    rw [e, ih, tb_some]
theorem tget_tab (l : List Bool) (s : Int) : tget (tab l) s = tb (bget l s) := by
  rw [tget, tab, List.getElem?_map, bget]
  cases l[(s - 16).toNat]? <;> rfl
theorem symc_tab (terms : Bool) (l : List Bool) (s : Int) : symc (tb terms) (tab l) s = tb (goodB terms l s) := by
  rw [symc, goodB]
  by_cases h : s < 16
  · rw [if_pos h, if_pos h]
  · rw [if_neg h, if_neg h, tget_tab]
theorem cost_tab (terms : Bool) (l : List Bool) (r : List Int) : cost (tb terms) (tab l) r = tb (r.all (goodB terms l)) := by
  induction r with
  | nil => rfl
  | cons s r ih =>
    rw [cost, ih, symc_tab, List.all_cons]
    cases goodB terms l s <;> cases r.all (goodB terms l) <;> rfl
theorem better_tab (terms : Bool) (l : List Bool) (p : Pr) : better (tb terms) 0 (tab l) p = tb (!bget l p.1 && p.2.all (goodB terms l)) := by
  rw [better, cost_tab, tget_tab]
  cases bget l p.1 <;> cases p.2.all (goodB terms l) <;> rfl
theorem upd_tab (l : List Bool) (p : Pr) : upd (tab l) p 0 = tab (l.set (p.1 - 16).toNat true) := by
  rw [upd, tab, tab, List.map_set]; rfl
theorem small_tb (b : Bool) (own : Nat) (h : own ≤ 1) : Small (tb b) own := ⟨fun k hk => by cases b <;> simp [tb] at hk; omega, h⟩
abbrev InvB (ps : List Pr) (n : Nat) (terms : Bool) (l : List Bool) : Prop := Inv ps n (tb terms) 0 (tab l)
def gen (ps : List Pr) (n : Nat) (terms : Bool) : List Bool := (best ps n (tb terms) 0).map Option.isSome
theorem InvB.lenB {ps : List Pr} {n : Nat} {terms : Bool} {l : List Bool} (h : InvB ps n terms l) : l.length = n := by have := h.len; rwa [tab, List.length_map] at this
theorem InvB.upd {ps : List Pr} {n : Nat} {terms : Bool} {l : List Bool} (h : InvB ps n terms l) (hw : Wf ps n) {p : Pr} (hp : p ∈ ps) (h1 : bget l p.1 = false) (h2 : p.2.all (goodB terms l) = true) :
    InvB ps n terms (l.set (p.1 - 16).toNat true) ∧ meas (tab (l.set (p.1 - 16).toNat true)) < meas (tab l) := by
  have hb : better (tb terms) 0 (tab l) p = some 0 := by rw [better_tab, h1, h2]; rfl
  obtain ⟨h3, h4, _⟩ := Inv.upd h hw (small_tb terms 0 (by decide)) hp hb
  rw [upd_tab] at h3 h4
  exact ⟨h3, h4⟩
theorem InvB.done {ps : List Pr} {n : Nat} {terms : Bool} {l : List Bool} (h : InvB ps n terms l) (hw : Wf ps n) (hs : ∀ p, p ∈ ps → (!bget l p.1 && p.2.all (goodB terms l)) = false) : l = gen ps n terms := by
  have hst : Stable ps (tb terms) 0 (tab l) := better_stable.2 fun p hp => by rw [better_tab, hs p hp]; rfl
  rw [gen, ← best_eq hw (small_tb terms 0 (by decide)) ⟨h.len, hst, h.sound⟩, tab_some]
def startB (n : Nat) : List Bool := List.replicate n false
theorem startB_tab (n : Nat) : tab (startB n) = start n := by simp [tab, startB, start, tb]
theorem invB_start (ps : List Pr) (n : Nat) (terms : Bool) : InvB ps n terms (startB n) := by
  rw [InvB, startB_tab]; exact inv_start ps n _ _
theorem D.any {ps : List Pr} {t t' : Option Nat} {own own' : Nat} (ht : t.isSome = true → t'.isSome = true) {r : List Int} {c : Nat} (h : D ps t own r c) : ∃ c', D ps t' own' r c' := by
  induction h with
  | nil => exact ⟨0, .nil⟩
  | term h1 h2 _ ih =>
    obtain ⟨c', h'⟩ := ih
    obtain ⟨k, hk⟩ := Option.isSome_iff_exists.1 (ht (by rw [h2]; rfl))
    exact ⟨_, .term h1 hk h'⟩
  | non h1 h2 _ _ ih1 ih2 =>
    obtain ⟨a, ha⟩ := ih1
    obtain ⟨b, hb⟩ := ih2
    exact ⟨_, .non h1 h2 ha hb⟩
theorem IsLeast.iff {ps : List Pr} {n : Nat} {t : Option Nat} {own : Nat} {f : Tab} (h : IsLeast ps n t own f) {s : Int} (hs : 16 ≤ s) : (tget f s).isSome = true ↔ ∃ c, D ps t own [s] c := by
  constructor
  · intro h1
    obtain ⟨c, hc⟩ := Option.isSome_iff_exists.1 h1
    exact ⟨c, h.sound s c hs hc⟩
  · rintro ⟨c, hc⟩
    obtain ⟨c', h1, _⟩ := h.stable.le hc
    have e : cost t f [s] = tget f s := by show addO (symc t f s) (some 0) = _; rw [addO_zero, symc, if_neg (by omega)]
    rw [← e, h1]; rfl
theorem bget_some (f : Tab) (s : Int) : bget (f.map Option.isSome) s = (tget f s).isSome := by
  rw [bget, tget, List.getElem?_map]
  cases f[(s - 16).toNat]? <;> rfl
theorem bget_ext {l l' : List Bool} (hl : l.length = l'.length) (h : ∀ s, 16 ≤ s → (bget l s = true ↔ bget l' s = true)) : l = l' := by
  apply List.ext_getElem hl
  intro i h1 h2
  have := h (16 + i) (by omega)
  have e : ((16 : Int) + i - 16).toNat = i := by omega
  simp only [bget, e, List.getElem?_eq_getElem h1, List.getElem?_eq_getElem h2, Option.getD_some] at this
  exact Bool.eq_iff_iff.2 this
theorem best_some {ps : List Pr} {n : Nat} {t t' : Option Nat} {own own' : Nat} (hw : Wf ps n) (hs : Small t own) (hs' : Small t' own') (ht : t.isSome = t'.isSome) : (best ps n t own).map Option.isSome = (best ps n t' own').map Option.isSome := by
  have h1 := best_least hw hs
  have h2 := best_least hw hs'
  refine bget_ext (by rw [List.length_map, List.length_map, h1.len, h2.len]) fun s hs => ?_
  rw [bget_some, bget_some, h1.iff hs, h2.iff hs]
  constructor
  · rintro ⟨c, hc⟩; exact hc.any (fun h => by rw [← ht]; exact h)
  · rintro ⟨c, hc⟩; exact hc.any (fun h => by rw [ht]; exact h)
/-! What is reached. -/
inductive Rch (ps : List Pr) (a : Int) : Int → Prop
  | refl : Rch ps a a
  | step {p : Pr} {s : Int} : Rch ps a p.1 → p ∈ ps → s ∈ p.2 → 16 ≤ s → Rch ps a s
def rrules (ps : List Pr) (a : Int) : List Pr := (a, []) :: ps.flatMap fun p => (p.2.filter fun s => decide (16 ≤ s)).map fun s => (s, [p.1])
theorem mem_rrules {ps : List Pr} {a : Int} {q : Pr} : q ∈ rrules ps a ↔ q = (a, []) ∨ ∃ p s, p ∈ ps ∧ s ∈ p.2 ∧ 16 ≤ s ∧ q = (s, [p.1]) := by
  rw [rrules, List.mem_cons, List.mem_flatMap]
  constructor
  · rintro (h | ⟨p, hp, h⟩)
    · exact .inl h
    · obtain ⟨s, hs, rfl⟩ := List.mem_map.1 h
      obtain ⟨h1, h2⟩ := List.mem_filter.1 hs
      exact .inr ⟨p, s, hp, h1, of_decide_eq_true h2, rfl⟩
  · rintro (h | ⟨p, s, h1, h2, h3, rfl⟩)
    · exact .inl h
    · exact .inr ⟨p, h1, List.mem_map.2 ⟨s, List.mem_filter.2 ⟨h2, decide_eq_true h3⟩, rfl⟩⟩
theorem wf_rrules {ps : List Pr} {n : Nat} {a : Int} (hw : Wf ps n) (h1 : 16 ≤ a) (h2 : a < 16 + n) : Wf (rrules ps a) n := by
  refine ⟨hw.nn, ?_, ?_, ?_⟩
  · intro q hq
    rcases mem_rrules.1 hq with rfl | ⟨p, s, hp, hs, h16, rfl⟩
    · exact ⟨h1, h2⟩
    · exact ⟨h16, hw.syms p hp s hs⟩
  · intro q hq
    rcases mem_rrules.1 hq with rfl | ⟨p, s, hp, hs, h16, rfl⟩
    · exact Nat.zero_le _
    · show 1 ≤ 8; decide
  · intro q hq x hx
    rcases mem_rrules.1 hq with rfl | ⟨p, s, hp, hs, h16, rfl⟩
    · cases hx
    · have := List.mem_singleton.1 hx
      subst this
      exact (hw.left p hp).2
theorem rch_iff {ps : List Pr} {a s : Int} (ha : 16 ≤ a) (hl : ∀ p, p ∈ ps → 16 ≤ p.1) (hs : 16 ≤ s) : (∃ c, D (rrules ps a) none 0 [s] c) ↔ Rch ps a s := by
  constructor
  · rintro ⟨c, h⟩
    have key : ∀ r c, D (rrules ps a) none 0 r c → ∀ s, s ∈ r → Rch ps a s := by
      intro r c h
      induction h with
      | nil => intro s hs; cases hs
      | term h1 h2 => cases h2
      | non h1 h2 h3 h4 ih1 ih2 =>
        intro s hs
        rcases List.mem_cons.1 hs with rfl | hs
        · rcases mem_rrules.1 h1 with rfl | ⟨p, s, hp, hs', h16, rfl⟩
          · exact .refl
          · exact .step (ih1 _ (List.mem_singleton.2 rfl)) hp hs' h16
        · exact ih2 s hs
    exact key _ _ h s (List.mem_singleton.2 rfl)
  · intro h
    induction h with
    | refl => exact ⟨_, D.one (p := (a, [])) (mem_rrules.2 (.inl rfl)) ha .nil⟩
    | @step p s h1 h2 h3 h4 ih =>
      obtain ⟨c, hc⟩ := ih (hl p h2)
      exact ⟨_, D.one (p := (s, [p.1])) (mem_rrules.2 (.inr ⟨p, s, h2, h3, h4, rfl⟩)) h4 hc⟩
def reachL (ps : List Pr) (n : Nat) (a : Int) : List Bool := gen (rrules ps a) n false
theorem reachL_iff {ps : List Pr} {n : Nat} {a s : Int} (hw : Wf ps n) (h1 : 16 ≤ a) (h2 : a < 16 + n) (hs : 16 ≤ s) : bget (reachL ps n a) s = true ↔ Rch ps a s := by
  rw [reachL, gen, bget_some, (best_least (wf_rrules hw h1 h2) (small_tb false 0 (by decide))).iff hs]
  exact rch_iff h1 (fun p hp => (hw.left p hp).1) hs
theorem gen_len {ps : List Pr} {n : Nat} {terms : Bool} (hw : Wf ps n) : (gen ps n terms).length = n := by
  rw [gen, List.length_map, (best_least hw (small_tb terms 0 (by decide))).len]
theorem reachL_len {ps : List Pr} {n : Nat} {a : Int} (hw : Wf ps n) (h1 : 16 ≤ a) (h2 : a < 16 + n) : (reachL ps n a).length = n := gen_len (wf_rrules hw h1 h2)
/-- A table that is being made: what is marked is reached. -/
abbrev InvR (ps : List Pr) (n : Nat) (a : Int) (l : List Bool) : Prop := InvB (rrules ps a) n false l
theorem invR_start {ps : List Pr} {n : Nat} {a : Int} (hw : Wf ps n) (h1 : 16 ≤ a) (h2 : a < 16 + n) : InvR ps n a ((startB n).set (a - 16).toNat true) := by
  refine (InvB.upd (p := (a, [])) (invB_start _ n false) (wf_rrules hw h1 h2) (mem_rrules.2 (.inl rfl)) ?_ rfl).1
  have : (startB n)[(a - 16).toNat]?.getD false = false := by
    rw [startB, List.getElem?_replicate]
    by_cases h : (a - 16).toNat < n
    · rw [if_pos h]; rfl
    · rw [if_neg h]; rfl
  exact this
theorem InvR.upd {ps : List Pr} {n : Nat} {a : Int} {l : List Bool} (h : InvR ps n a l) (hw : Wf ps n) (h1 : 16 ≤ a) (h2 : a < 16 + n) {p : Pr} {s : Int} (hp : p ∈ ps) (hs : s ∈ p.2) (h16 : 16 ≤ s) (h3 : bget l p.1 = true) (h4 : bget l s = false) :
    InvR ps n a (l.set (s - 16).toNat true) ∧ meas (tab (l.set (s - 16).toNat true)) < meas (tab l) := by
  refine InvB.upd (p := (s, [p.1])) h (wf_rrules hw h1 h2) (mem_rrules.2 (.inr ⟨p, s, hp, hs, h16, rfl⟩)) h4 ?_
  have := (hw.left p hp).1
  show (goodB false l p.1 && true) = true
  rw [goodB, if_neg (by omega), h3]; rfl
theorem InvR.done {ps : List Pr} {n : Nat} {a : Int} {l : List Bool} (h : InvR ps n a l) (hw : Wf ps n) (h1 : 16 ≤ a) (h2 : a < 16 + n) (ha : bget l a = true) (hs : ∀ p, p ∈ ps → bget l p.1 = true → ∀ s, s ∈ p.2 → 16 ≤ s → bget l s = true) : l = reachL ps n a := by
  refine InvB.done h (wf_rrules hw h1 h2) fun q hq => ?_
  rcases mem_rrules.1 hq with rfl | ⟨p, s, hp, hx, h16, rfl⟩
  · rw [ha]; rfl
  · have := (hw.left p hp).1
    show (!bget l s && (goodB false l p.1 && true)) = false
    rw [goodB, if_neg (by omega)]
    cases hb : bget l p.1 with
    | false => cases bget l s <;> rfl
    | true => rw [hs p hp hb s hx h16]; rfl
end Go.Proofs.Ytaoinojdijbhaaa
