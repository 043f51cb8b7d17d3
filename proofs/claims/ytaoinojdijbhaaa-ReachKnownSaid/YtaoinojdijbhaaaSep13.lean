/-
  A region that draws its order and holds loads, allocations and calls: one walk in an order of our choice serves every order.
-/
import Derived.Test.YtaoinojdijbhaaaSep12
set_option linter.unusedSimpArgs false
set_option linter.unusedVariables false
namespace Go.Proofs.Ytaoinojdijbhaaa
open Go.RowKit

/-- What is known of memory, whatever more is owned. -/
structure Fam where
  ok : List Res → World → Prop
  perm : ∀ M M' w, M.Perm M' → ok M w → ok M' w
  alc : ∀ M w o, ok M w → ok (Res.blk w.heap.size o :: M) (w.alloc o)
def Fam.J (Φ : Fam) (w : World) : Prop := ∃ M, Φ.ok M w
def Fam.st (E : Env) (L : List Res) : Fam := ⟨fun M w => St E (M ++ L) w, fun _ _ _ p h => h.perm (p.append_right L), fun _ _ o h => h.alloc o⟩
def Fam.add (Φ : Fam) (r : Res) : Fam := ⟨fun M w => Φ.ok (r :: M) w, fun _ _ w p h => Φ.perm _ _ w (p.cons r) h, fun M w o h => Φ.perm _ _ _ (.swap ..) (Φ.alc _ w o h)⟩
theorem Fam.ext {Φ Ψ : Fam} (h : ∀ M w, Φ.ok M w ↔ Ψ.ok M w) : Φ = Ψ := by
  obtain ⟨a, _, _⟩ := Φ
  obtain ⟨b, _, _⟩ := Ψ
  have : a = b := funext fun M => funext fun w => propext (h M w)
  subst this
  rfl
theorem Fam.st_perm {E : Env} {L L' : List Res} (p : L.Perm L') : Fam.st E L = Fam.st E L' := Fam.ext fun M w => ⟨fun h => St.perm h (p.append_left M), fun h => St.perm h (p.symm.append_left M)⟩
theorem Fam.st_add {E : Env} {L : List Res} {r : Res} : (Fam.st E L).add r = Fam.st E (r :: L) := Fam.ext fun M w => ⟨fun h => St.perm h List.perm_middle.symm, fun h => St.perm h List.perm_middle⟩

section
variable {P : Program} {ops : Array Oper} {ro : Option Nat}

/-- The operation makes one block. -/
def AllocsTo (P : Program) (o : Oper) (ρ : Operand → Value) (val : Nat → Value) (obj : Obj) : Prop := ∀ w, (execOp ρ o).run P w = .ok (.value (val w.heap.size)) (w.alloc obj)

/-- The operation gives a value and leaves a world of which K holds; or the function that it enters does. -/
def Steps (P : Program) (o : Oper) (ρ : Operand → Value) (K : Value → World → Prop) (w : World) : Prop :=
  match (execOp ρ o).run P w with
  | .ok (.value v) w' => K v w'
  | .ok (.enter f args) w' => Calls P f args w' (fun e w'' => ∃ r, e = .returned r ∧ K r w'')
  | _ => False
theorem Steps.mono {o : Oper} {ρ : Operand → Value} {K K' : Value → World → Prop} {w : World} (h : Steps P o ρ K w) (hk : ∀ v w, K v w → K' v w) : Steps P o ρ K' w := by
  unfold Steps at *
  split at h
  · exact hk _ _ h
  · exact h.mono fun e w'' ⟨r, e1, e2⟩ => ⟨r, e1, hk _ _ e2⟩
  · exact h
theorem Steps.some {o : Oper} {ρ : Operand → Value} {K : Value → World → Prop} {w : World} (h : Steps P o ρ K w) : ∃ v w', K v w' := by
  unfold Steps at h
  split at h
  · exact ⟨_, _, h⟩
  · obtain ⟨e, w', fr, ⟨r, _, h1⟩, _⟩ := h []
    exact ⟨r, w', h1⟩
  · exact h.elim

/-- The walk in an order of our choice. Kinds: 0 looks at no memory, 1 loads, 2 makes a block, 3 calls (or makes a row of its own), 4 stores. J: what loads so far rest on. -/
def wpF (P : Program) (ops : Array Oper) (T : Act → Fam → Prop) : (World → Prop) → List (Nat × Nat) → Act → Fam → Prop
  | _, [], a, Φ => T a Φ
  | J, (i, k) :: π, a, Φ => ∃ o, ops[i]? = some o ∧
    (if Region.wanted o (yielded ops a.tmps) then
      match k with
      | 0 => ∃ v, (∀ w, (execOp a.eval o).run P w = .ok (.value v) w) ∧ wpF P ops T J π (a.put o.dst v) Φ
      | 1 => ∃ v, ∃ J1 : World → Prop, (∀ w, J1 w → (execOp a.eval o).run P w = .ok (.value v) w) ∧ (∀ w, Φ.J w → J1 w) ∧ wpF P ops T (fun w => J w ∧ J1 w) π (a.put o.dst v) Φ
      | 2 => ∃ val obj, AllocsTo P o a.eval val obj ∧ ∀ b, (∃ M w, Φ.ok (.blk b obj :: M) w) → wpF P ops T J π (a.put o.dst (val b)) (Φ.add (.blk b obj))
      | 3 => ∀ M w, Φ.ok M w → Steps P o a.eval (fun r w' => ∃ Φ', (∀ w, Fam.J Φ' w → Φ.J w) ∧ Φ'.ok M w' ∧ wpF P ops T J π (a.put o.dst r) Φ') w
      | _ => ∃ Φ', (∀ M w, Φ.ok M w → ∃ w', (execOp a.eval o).run P w = .ok .skip w' ∧ Φ'.ok M w') ∧ (∀ w, Fam.J Φ' w → J w) ∧ wpF P ops T J π (a.put o.dst undef) Φ'
    else wpF P ops T J π (a.put o.dst undef) Φ)

theorem wpF_mono {T T' : Act → Fam → Prop} (h : ∀ a Φ, T a Φ → T' a Φ) : ∀ (π : List (Nat × Nat)) (J : World → Prop) (a : Act) (Φ : Fam), wpF P ops T J π a Φ → wpF P ops T' J π a Φ := by
  intro π
  induction π with
  | nil => exact fun J a Φ hh => h a Φ hh
  | cons p π ih =>
    obtain ⟨i, k⟩ := p
    intro J a Φ hh
    obtain ⟨o, ho, hh⟩ := hh
    refine ⟨o, ho, ?_⟩
    split at hh
    · rename_i hw
      rw [if_pos hw]
      match k with
      | 0 => obtain ⟨v, h1, h2⟩ := hh; exact ⟨v, h1, ih _ _ _ h2⟩
      | 1 => obtain ⟨v, J1, h1, h3, h2⟩ := hh; exact ⟨v, J1, h1, h3, ih _ _ _ h2⟩
      | 2 => obtain ⟨v, obj, h1, h2⟩ := hh; exact ⟨v, obj, h1, fun b hb => ih _ _ _ (h2 b hb)⟩
      | 3 =>
        exact fun M w hw => (hh M w hw).mono fun r w' ⟨Φ', e2, e3, e4⟩ => ⟨Φ', e2, e3, ih _ _ _ e4⟩
      | _ + 4 => obtain ⟨Φ', h1, h2, h3⟩ := hh; exact ⟨Φ', h1, h2, ih _ _ _ h3⟩
    · rename_i hw
      rw [if_neg hw]
      exact ih _ _ _ hh
/-- Where nothing is stored any more it is no matter what the loads rest on. -/
theorem wpF_anyJ {T : Act → Fam → Prop} : ∀ (π : List (Nat × Nat)) (J J' : World → Prop) (a : Act) (Φ : Fam), (π.all fun p => Nat.ble p.2 3) = true → wpF P ops T J π a Φ → wpF P ops T J' π a Φ := by
  intro π
  induction π with
  | nil => exact fun J J' a Φ _ hh => hh
  | cons p π ih =>
    obtain ⟨i, k⟩ := p
    intro J J' a Φ hk hh
    simp only [List.all_cons, Bool.and_eq_true] at hk
    obtain ⟨o, ho, hh⟩ := hh
    refine ⟨o, ho, ?_⟩
    split at hh
    · rename_i hw
      rw [if_pos hw]
      match k, hk with
      | 0, hk => obtain ⟨v, h1, h2⟩ := hh; exact ⟨v, h1, ih _ _ _ _ hk.2 h2⟩
      | 1, hk => obtain ⟨v, J1, h1, h3, h2⟩ := hh; exact ⟨v, J1, h1, h3, ih _ _ _ _ hk.2 h2⟩
      | 2, hk => obtain ⟨v, obj, h1, h2⟩ := hh; exact ⟨v, obj, h1, fun b hb => ih _ _ _ _ hk.2 (h2 b hb)⟩
      | 3, hk =>
        exact fun M w hw => (hh M w hw).mono fun r w' ⟨Φ', e2, e3, e4⟩ => ⟨Φ', e2, e3, ih _ _ _ _ hk.2 e4⟩
      | n + 4, hk => have := Nat.le_of_ble_eq_true hk.1; omega
    · rename_i hw
      rw [if_neg hw]
      exact ih _ _ _ _ hk.2 hh
theorem wpF_app {T : Act → Fam → Prop} {J0 : World → Prop} (π₂ : List (Nat × Nat)) (h2 : (π₂.all fun p => Nat.ble p.2 3) = true) : ∀ (π₁ : List (Nat × Nat)) (J : World → Prop) (a : Act) (Φ : Fam), wpF P ops (fun a Φ => wpF P ops T J0 π₂ a Φ) J π₁ a Φ → wpF P ops T J (π₁ ++ π₂) a Φ := by
  intro π
  induction π with
  | nil => exact fun J a Φ hh => wpF_anyJ π₂ J0 J a Φ h2 hh
  | cons p π ih =>
    obtain ⟨i, k⟩ := p
    intro J a Φ hh
    obtain ⟨o, ho, hh⟩ := hh
    refine ⟨o, ho, ?_⟩
    split at hh
    · rename_i hw
      rw [if_pos hw]
      match k with
      | 0 => obtain ⟨v, h1, h2⟩ := hh; exact ⟨v, h1, ih _ _ _ h2⟩
      | 1 => obtain ⟨v, J1, h1, h3, h2⟩ := hh; exact ⟨v, J1, h1, h3, ih _ _ _ h2⟩
      | 2 => obtain ⟨v, obj, h1, h2⟩ := hh; exact ⟨v, obj, h1, fun b hb => ih _ _ _ (h2 b hb)⟩
      | 3 =>
        exact fun M w hw => (hh M w hw).mono fun r w' ⟨Φ', e2, e3, e4⟩ => ⟨Φ', e2, e3, ih _ _ _ e4⟩
      | _ + 4 => obtain ⟨Φ', h1, h2, h3⟩ := hh; exact ⟨Φ', h1, h2, ih _ _ _ h3⟩
    · rename_i hw
      rw [if_neg hw]
      exact ih _ _ _ hh

/-! ### Every order -/
def stepN (P : Program) (ops : Array Oper) (o : Oper) (K : Act → World → Prop) (a : Act) (w : World) : Prop :=
  if Region.wanted o (yielded ops a.tmps) then
    match (execOp a.eval o).run P w with
    | .ok (.value v) w' => K (a.put o.dst v) w'
    | .ok .skip w' => K (a.put o.dst undef) w'
    | .ok (.enter f args) w' => Calls P f args w' (fun e w'' => ∃ r, e = .returned r ∧ K (a.put o.dst r) w'')
    | _ => False
  else K (a.put o.dst undef) w

theorem stepN_mono {o : Oper} {K K' : Act → World → Prop} {a : Act} {w : World} (h : ∀ a w, K a w → K' a w) (hh : stepN P ops o K a w) : stepN P ops o K' a w := by
  unfold stepN at *
  split
  · rename_i hw
    rw [if_pos hw] at hh
    split at hh
    · exact h _ _ hh
    · exact h _ _ hh
    · exact hh.mono fun e w'' ⟨r, e1, e2⟩ => ⟨r, e1, h _ _ e2⟩
    · exact hh
  · rename_i hw
    rw [if_neg hw] at hh
    exact h _ _ hh

/-- All orders of the first m operations, J holding throughout; then TT. -/
def WJ (P : Program) (ops : Array Oper) (m : Nat) (TT : Array Bool → Act → World → Prop) (J : World → Prop) : Nat → Array Bool → Act → World → Prop
  | 0, listed, a, w => J w ∧ TT listed a w
  | f + 1, listed, a, w => J w ∧ Region.ready .any ops listed ≠ [] ∧ ∀ j, j ∈ Region.ready .any ops listed → j < m ∧ ∃ o, ops[j]? = some o ∧ stepN P ops o (WJ P ops m TT J f (listed.setIfInBounds j true)) a w
theorem WJ.j {m : Nat} {TT : Array Bool → Act → World → Prop} {J : World → Prop} {f : Nat} {listed : Array Bool} {a : Act} {w : World} (h : WJ P ops m TT J f listed a w) : J w := by
  cases f with
  | zero => exact h.1
  | succ f => exact h.1
theorem WJ.mono {m : Nat} {TT : Array Bool → Act → World → Prop} {J J' : World → Prop} (hJ : ∀ w, J w → J' w) : ∀ (f : Nat) (listed : Array Bool) (a : Act) (w : World), WJ P ops m TT J f listed a w → WJ P ops m TT J' f listed a w := by
  intro f
  induction f with
  | zero => exact fun listed a w h => ⟨hJ w h.1, h.2⟩
  | succ f ih =>
    intro listed a w h
    refine ⟨hJ w h.1, h.2.1, fun j hj => ?_⟩
    obtain ⟨h1, o, h2, h3⟩ := h.2.2 j hj
    exact ⟨h1, o, h2, stepN_mono (fun a w => ih _ a w) h3⟩

theorem WJ.wp {m g : Nat} {TT : Array Bool → Act → World → Prop} {J : World → Prop} {Q' : Exit → Act → World → Prop} (hnd : ∀ (i : Nat) (o : Oper) c, ops[i]? = some o → o.op ≠ .defer c)
    (hT : ∀ listed a w, TT listed a w → wpAnyIn (Wd ro) 0 P .any ops Q' g listed a w) :
    ∀ (f : Nat) (listed : Array Bool) (a : Act) (w : World), WJ P ops m TT J f listed a w → wpAnyIn (Wd ro) 0 P .any ops Q' (f + g) listed a w := by
  intro f
  induction f with
  | zero => intro listed a w h; rw [Nat.zero_add]; exact hT _ _ _ h.2
  | succ f ih =>
    intro listed a w h
    rw [show f + 1 + g = (f + g) + 1 by omega]
    refine ⟨fun h0 => absurd h0 h.2.1, fun i hi => ?_⟩
    obtain ⟨_, o, ho, hh⟩ := h.2.2 i hi
    unfold wpOpIn
    simp only [ho]
    unfold stepN at hh
    split
    · rename_i hw
      rw [if_pos hw] at hh
      refine ⟨Wd.about, ?_⟩
      rw [Oper.semAt_eq _ _ _ (hnd i o · ho)]
      split at hh
      · rename_i e; rw [e]; simp only [Oper.uponIn_value]; exact ih _ _ _ hh
      · rename_i e; rw [e]; simp only [Oper.uponIn_skip]; exact ih _ _ _ hh
      · rename_i e; rw [e]
        simp only [Oper.uponIn_enter]
        refine ⟨fun h => by simp [Wd] at h, (Wd.calls hh).mono ?_⟩
        rintro e w'' ⟨r, rfl, h2⟩
        exact ih _ _ _ h2
      · exact hh.elim
    · rename_i hw
      rw [if_neg hw] at hh
      exact ⟨Wd.about, ih _ _ _ hh⟩

/-- What is known to leave v in its slot, in every world of J. -/
def YJ (P : Program) (ops : Array Oper) (J : World → Prop) (o : Oper) (v : Value) (a : Act) : Prop :=
  (Region.wanted o (yielded ops a.tmps) = true ∧ ∀ w, J w → (execOp a.eval o).run P w = .ok (.value v) w) ∨ (Region.wanted o (yielded ops a.tmps) = false ∧ v = undef)
theorem YJ.step {J : World → Prop} {o : Oper} {v : Value} {a : Act} {w : World} {K : Act → World → Prop} (h : YJ P ops J o v a) (hw : J w) (hk : K (a.put o.dst v) w) : stepN P ops o K a w := by
  unfold stepN
  rcases h with ⟨h1, h2⟩ | ⟨h1, rfl⟩
  · rw [if_pos h1, h2 w hw]; exact hk
  · rw [if_neg (by rw [h1]; simp)]; exact hk
theorem YJ.put {J : World → Prop} {o : Oper} {v : Value} {a : Act} (hs : ∀ cs b, o.op ≠ .select cs b) (dst : Option Tmp) (u : Value) (hd : ∀ d, dst = some d → d ∉ o.looksAt ops) (h : YJ P ops J o v a) : YJ P ops J o v (a.put dst u) := by
  unfold YJ at *
  rw [execOp_put o hs a dst u hd, wanted_put o a dst u hd]
  exact h

/-- Operations that wait for i, through others too. -/
def descs (ops : Array Oper) (i : Nat) : List Nat := (List.range ops.size).foldl (fun D j => if D.any fun d => Region.waitsFor .any ops j d then j :: D else D) [i]
theorem descs_unlisted {m i : Nat} {listed : Array Bool} (inv : HeadInv .any ops m listed) (hi : listed.getD i false = false) : ∀ j, j ∈ descs ops i → listed.getD j false = false := by
  unfold descs
  have key : ∀ (l : List Nat) (D : List Nat), (∀ j, j ∈ D → listed.getD j false = false) → ∀ j, j ∈ l.foldl (fun D j => if D.any fun d => Region.waitsFor .any ops j d then j :: D else D) D → listed.getD j false = false := by
    intro l
    induction l with
    | nil => exact fun D h => h
    | cons x l ih =>
      intro D h
      refine ih _ ?_
      dsimp only
      split
      · rename_i hx
        intro j hj
        rcases List.mem_cons.1 hj with rfl | hj
        · obtain ⟨d, hd, hwd⟩ := List.any_eq_true.1 hx
          obtain ⟨oj, hoj, e, he, hb, hon⟩ := Region.waitsFor_spec hwd
          cases hl : listed.getD j false with
          | false => rfl
          | true =>
            have := inv.closed j oj hoj hl e he hb
            rw [hon, h d hd] at this
            cases this
        · exact h j hj
      · exact h
  exact key _ [i] (by simpa using hi)
theorem descs_not_ready {m i : Nat} {listed : Array Bool} (inv : HeadInv .any ops m listed) (hi : listed.getD i false = false) : ∀ j, j ∈ descs ops i → j ≠ i → j ∉ Region.ready .any ops listed := by
  unfold descs
  have key : ∀ (l : List Nat) (D : List Nat), (∀ j, j ∈ D → listed.getD j false = false ∧ (j ≠ i → j ∉ Region.ready .any ops listed)) → ∀ j, j ∈ l.foldl (fun D j => if D.any fun d => Region.waitsFor .any ops j d then j :: D else D) D → listed.getD j false = false ∧ (j ≠ i → j ∉ Region.ready .any ops listed) := by
    intro l
    induction l with
    | nil => exact fun D h => h
    | cons x l ih =>
      intro D h
      refine ih _ ?_
      dsimp only
      split
      · rename_i hx
        intro j hj
        rcases List.mem_cons.1 hj with rfl | hj
        · obtain ⟨d, hd, hwd⟩ := List.any_eq_true.1 hx
          obtain ⟨oj, hoj, e, he, hb, hon⟩ := Region.waitsFor_spec hwd
          refine ⟨?_, fun _ hr => ?_⟩
          · cases hl : listed.getD j false with
            | false => rfl
            | true =>
              have := inv.closed j oj hoj hl e he hb
              rw [hon, (h d hd).1] at this
              cases this
          · obtain ⟨_, o', ho', hall⟩ := mem_ready.1 hr
            have : o' = oj := Option.some.inj (ho'.symm.trans hoj)
            subst this
            have := hall e he hb
            rw [hon, (h d hd).1] at this
            cases this
        · exact h j hj
      · exact h
  intro j hj
  exact (key _ [i] (by intro j hj; simp at hj; subst hj; exact ⟨hi, fun h => absurd rfl h⟩) j hj).2

def Jm (ops : Array Oper) (m : Nat) (listed : Array Bool) : Prop := ∀ i, i < m → listed.getD i true = false → ∀ t, m ≤ t → t ∉ Region.ready .any ops listed

/-- An operation that looks at no memory, or loads, may be taken first. -/
theorem WJ.first {m i : Nat} {oi : Oper} {v : Value} {TT : Array Bool → Act → World → Prop} {J : World → Prop} (hi : ops[i]? = some oi) (hsel : ∀ (j : Nat) (o : Oper) cs b, ops[j]? = some o → o.op ≠ .select cs b)
    (hjm : ∀ listed, HeadInv .any ops m listed → Jm ops m listed) (him : i < m) (hdone : ∀ listed a w, TT listed a w → ∀ j, j ∈ Region.ready .any ops listed → m ≤ j) :
    ∀ (f : Nat) (listed : Array Bool) (a : Act) (w : World), HeadInv .any ops m listed →
      (∀ j oj, ops[j]? = some oj → j ≠ i → j < m → listed.getD j true = false → j ∈ descs ops i ∨ oi.apart ops oj = true) →
      i ∈ Region.ready .any ops listed → YJ P ops J oi v a →
      WJ P ops m TT J f (listed.setIfInBounds i true) (a.put oi.dst v) w → WJ P ops m TT J (f + 1) listed a w := by
  intro f
  induction f with
  | zero =>
    intro listed a w inv _ hr hy H
    have hun := (mem_ready.1 hr).1
    refine ⟨H.1, fun h => (by rw [h] at hr; cases hr), fun j hj => ?_⟩
    have hjn : j < m := Nat.lt_of_not_le fun h => hjm listed inv i him hun j h hj
    refine ⟨hjn, ?_⟩
    by_cases hji : j = i
    · subst hji; exact ⟨oi, hi, hy.step H.1 H⟩
    · exact absurd (hdone _ _ _ H.2 j (ready_mono hj hji)) (by omega)
  | succ f ih =>
    intro listed a w inv hfree hr hy H
    have hun := (mem_ready.1 hr).1
    refine ⟨H.1, fun h => (by rw [h] at hr; cases hr), fun j hj => ?_⟩
    have hjn : j < m := Nat.lt_of_not_le fun h => hjm listed inv i him hun j h hj
    refine ⟨hjn, ?_⟩
    by_cases hji : j = i
    · subst hji; exact ⟨oi, hi, hy.step H.1 H⟩
    · obtain ⟨hjun, oj, hoj, hall⟩ := mem_ready.1 hj
      refine ⟨oj, hoj, ?_⟩
      have hap : oi.apart ops oj = true := (hfree j oj hoj hji hjn hjun).resolve_left fun hd => descs_not_ready inv (getD_both hun) j hd hji hj
      obtain ⟨h1, h2, h3⟩ := Oper.apart_spec hap
      obtain ⟨_, oj', hoj', hst⟩ := H.2.2 j (ready_mono hj hji)
      have : oj' = oj := Option.some.inj (hoj'.symm.trans hoj)
      subst this
      have next : ∀ (u : Value) (w' : World), WJ P ops m TT J f ((listed.setIfInBounds i true).setIfInBounds j true) ((a.put oi.dst v).put oj'.dst u) w' → WJ P ops m TT J (f + 1) (listed.setIfInBounds j true) (a.put oj'.dst u) w' := by
        intro u w' hh
        refine ih (listed.setIfInBounds j true) (a.put oj'.dst u) w' (inv.set hj hjn) ?_ (ready_mono hr (Ne.symm hji)) (hy.put (fun cs b => hsel i oi cs b hi) _ _ h3) ?_
        · intro k ok hk hki hkm hunk
          refine hfree k ok hk hki hkm ?_
          by_cases hjk : j = k
          · subst hjk; exact hjun
          · rwa [getD_set_ne true hjk] at hunk
        · rw [Array.setIfInBounds_comm _ _ hji, ← Act.put_comm a v u h2]
          exact hh
      unfold stepN at hst ⊢
      rw [wanted_put oj' a oi.dst v h1, execOp_put oj' (fun cs b => hsel j oj' cs b hoj) a oi.dst v h1] at hst
      split
      · rename_i hw
        rw [if_pos hw] at hst
        split at hst
        · exact next _ _ hst
        · exact next _ _ hst
        · exact hst.mono fun e w'' ⟨r, e1, e2⟩ => ⟨r, e1, next _ _ e2⟩
        · exact hst
      · rename_i hw
        rw [if_neg hw] at hst
        exact next _ _ hst
end
end Go.Proofs.Ytaoinojdijbhaaa
