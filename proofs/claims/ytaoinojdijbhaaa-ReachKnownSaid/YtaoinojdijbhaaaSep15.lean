/-
  The same, its theorem proved, and its rules.
-/
import Derived.Test.YtaoinojdijbhaaaSep14
set_option linter.unusedSimpArgs false
set_option linter.unusedVariables false
namespace Go.Proofs.Ytaoinojdijbhaaa
open Go.RowKit

section
variable {P : Program} {ops : Array Oper} {ro : Option Nat}

theorem blocks_perm {X Y : List Early} (p : X.Perm Y) : (blocks X).Perm (blocks Y) := p.flatMap_right _
theorem size_any (w : World) (n : Nat) : ∃ w' : World, w'.heap.size = n := ⟨{ w with heap := Array.replicate n default }, by simp⟩

/-- An operation's value is the same, wherever it is carried out. -/
theorem Did.val0 {o : Oper} {a : Act} {v v' : Value} {r : List Res} {k : Nat} (w : World) (hd : Did P ops k o a v r) (hw : Region.wanted o (yielded ops a.tmps) = true) (hk : k = 0) (h : (execOp a.eval o).run P w = .ok (.value v') w) : v = v' ∧ r = [] := by
  rcases hd with ⟨_, ⟨_, hr, h1⟩ | ⟨h2, _⟩⟩ | ⟨h1, _⟩
  · have := (h1 w).symm.trans h
    simp only [Result.ok.injEq, Next.value.injEq, and_true] at this
    exact ⟨this, hr⟩
  · omega
  · rw [hw] at h1; cases h1

theorem alloc_inj {w : World} {o o' : Obj} (h : w.alloc o = w.alloc o') : o = o' := by
  have h1 := World.alloc_heap_new w o
  have h2 := World.alloc_heap_new w o'
  rw [h] at h1
  exact (Option.some.inj (h1.symm.trans h2))

theorem Did.val2 {o : Oper} {a : Act} {v : Value} {r : List Res} {k : Nat} {val : Nat → Value} {obj : Obj} (w0 : World) (hd : Did P ops k o a v r) (hw : Region.wanted o (yielded ops a.tmps) = true) (hk : k = 2) (h : AllocsTo P o a.eval val obj) :
    ∃ b, v = val b ∧ r = [.blk b obj] := by
  rcases hd with ⟨_, ⟨h0, _⟩ | ⟨_, val', obj', b, h1, h2, h3⟩⟩ | ⟨h1, _⟩
  · omega
  · obtain ⟨w, hsz⟩ := size_any w0 b
    have e := (h1 w).symm.trans (h w)
    simp only [Result.ok.injEq, Next.value.injEq] at e
    rw [hsz] at e
    exact ⟨b, by rw [h2, e.1], by rw [h3, alloc_inj e.2]⟩
  · rw [hw] at h1; cases h1

/-- Whether an operation ahead of its place may be carried out now: the walk runs ahead and sees. -/
theorem ahead {T : Act → Fam → Prop} {g m : Nat} (hsel : ∀ (j : Nat) (o : Oper) cs b, ops[j]? = some o → o.op ≠ .select cs b) (j kj : Nat) (oj : Oper) (hj : ops[j]? = some oj) (hkj : kj = 0 ∨ kj = 2) :
    ∀ (π : List (Nat × Nat)) (J : World → Prop) (a : Act) (Φ : Fam) (X : List Early) (M : List Res) (w : World) (can listed : Array Bool) (a0 : Act),
      wpF P ops T J π a Φ → At ops g m π X can listed → Rel ops X a a0 → (∀ e, e ∈ X → ∀ k o, (e.j, k) ∈ π → ops[e.j]? = some o → Did P ops k o a0 e.v e.r) → Φ.ok (blocks X ++ M) w →
      (j, kj) ∈ π → (∀ e, e ∈ X → e.j ≠ j) → (∀ i k oi, (i, k) ∈ π → ops[i]? = some oi → (∀ e, e ∈ X → e.j ≠ i) → i ≠ j → j ∉ descs ops i) →
      (Region.wanted oj (yielded ops a0.tmps) = false) ∨ (Region.wanted oj (yielded ops a0.tmps) = true ∧ ((kj = 0 ∧ ∃ v, ∀ w, (execOp a0.eval oj).run P w = .ok (.value v) w) ∨ (kj = 2 ∧ ∃ val obj, AllocsTo P oj a0.eval val obj))) := by
  intro π
  induction π with
  | nil => intro J a Φ X M w can listed a0 _ _ _ _ _ h; cases h
  | cons p π ih =>
    obtain ⟨i, k⟩ := p
    intro J a Φ X M w can listed a0 hwp hat hrel hdid hok hin hjx hun
    obtain ⟨⟨x, hx⟩, _, _⟩ := Ord.of hat.chk
    obtain ⟨o, ho, hwp⟩ := hwp
    have : o = x := Option.some.inj (ho.symm.trans hx.at_)
    subst this
    by_cases hij : i = j
    · subst hij
      have : o = oj := Option.some.inj (ho.symm.trans hj)
      subst this
      have hkk : k = kj := by
        rcases List.mem_cons.1 hin with h4 | h4
        · cases h4; rfl
        · exact absurd h4 (hat.notin kj)
      subst hkk
      have hl := hrel.look (o := o) fun e he o' ho' d hd => ((hat.xap hjx hx e he o' ho').1 d hd).1
      have e1 := exec_look (hsel i o · · ho) hl
      have e2 := wanted_look hl
      unfold AllocsTo
      rw [e1, e2]
      split at hwp
      · rename_i hw
        refine .inr ⟨hw, ?_⟩
        rcases hkj with rfl | rfl
        · obtain ⟨v, h1, _⟩ := hwp; exact .inl ⟨rfl, v, h1⟩
        · obtain ⟨val, obj, h1, _⟩ := hwp; exact .inr ⟨rfl, val, obj, h1⟩
      · rename_i hw
        exact .inl (by simpa using hw)
    · have hin' : (j, kj) ∈ π := by
        rcases List.mem_cons.1 hin with h4 | h4
        · cases h4; exact absurd rfl hij
        · exact h4
      by_cases hxi : ∃ e, e ∈ X ∧ e.j = i
      · obtain ⟨e, he, rfl⟩ := hxi
        obtain ⟨Y, hp⟩ : ∃ Y, X.Perm (e :: Y) := by
          obtain ⟨s, t, rfl⟩ := List.append_of_mem he
          exact ⟨s ++ t, List.perm_middle⟩
        have hat' := hat.pop hp hx.lt
        have hnd := (hp.map Early.j).nodup_iff.1 hat.xnd
        simp only [List.map_cons, List.nodup_cons] at hnd
        have hne : ∀ e', e' ∈ Y → e'.j ≠ e.j := fun e' he' hh => hnd.1 (List.mem_map.2 ⟨e', he', hh⟩)
        have hY : ∀ e', e' ∈ Y → e' ∈ X := fun e' he' => hp.mem_iff.2 (.tail _ he')
        have hssa : ∀ e', e' ∈ Y → ∀ o', ops[e'.j]? = some o' → (∀ d, o'.dst = some d → d ∉ o.looksAt ops ∧ o.dst ≠ some d) := fun e' he' o' ho' => by
          obtain ⟨k', hk', _⟩ := hat'.xin e' he'
          obtain ⟨y, hy, h1, _⟩ := hx.pair _ hk'
          have : y = o' := Option.some.inj (hy.symm.trans ho')
          subst this; exact h1
        have hrel' := hrel.pop hp ho fun e' he' o' ho' d hd hd' => ((hssa e' he' o' ho') d hd').2 hd
        have hdid' : ∀ e', e' ∈ Y → ∀ k o, (e'.j, k) ∈ π → ops[e'.j]? = some o → Did P ops k o a0 e'.v e'.r := fun e' he' k o hk ho => hdid e' (hY e' he') k o (.tail _ hk) ho
        have hun' : ∀ i k oi, (i, k) ∈ π → ops[i]? = some oi → (∀ e, e ∈ Y → e.j ≠ i) → i ≠ j → j ∉ descs ops i := fun i k' oi hk' hoi hxi hij => hun i k' oi (.tail _ hk') hoi (fun e' he' => by
          rcases List.mem_cons.1 (hp.mem_iff.1 he') with rfl | he'
          · intro hh; subst hh; exact hat.notin k' hk'
          · exact hxi e' he') hij
        have hjy : ∀ e', e' ∈ Y → e'.j ≠ j := fun e' he' => hjx e' (hY e' he')
        -- the value that it has
        have hself : ∀ t, t ∈ o.looksAt ops → a0.tmps[t]? = a.tmps[t]? := hrel.look fun e' he' o' ho' d hd => by
          rcases List.mem_cons.1 (hp.mem_iff.1 he') with rfl | he'
          · have : o' = o := Option.some.inj (ho'.symm.trans ho)
            subst this; exact hx.self d hd
          · exact ((hssa e' he' o' ho') d hd).1
        have hde := (hdid e he k o (.head _) ho).look (a0 := a) (hsel e.j o · · ho) (fun t ht => (hself t ht).symm)
        have hpb : (blocks X ++ M).Perm (e.r ++ (blocks Y ++ M)) := by
          have := (blocks_perm hp).append_right M
          simpa [blocks, List.append_assoc] using this
        obtain ⟨_, _, hk2⟩ := hat.xin e he
        split at hwp
        · rename_i hw
          match k, hdid, hde, hwp with
          | 0, _, hde, ⟨v, h1, h2⟩ =>
            obtain ⟨rfl, hr⟩ := hde.val0 w hw rfl (h1 w)
            rw [hr] at hpb
            exact ih _ _ _ Y M w _ _ a0 h2 hat' hrel' hdid' (Φ.perm _ _ _ hpb hok) hin' hjy hun'
          | 1, _, hde, hwp =>
            exfalso
            rcases hde with ⟨_, ⟨h0, _⟩ | ⟨h0, _⟩⟩ | ⟨h1, _⟩
            · cases h0
            · cases h0
            · rw [hw] at h1; cases h1
          | 2, _, hde, ⟨val, obj, h1, h2⟩ =>
            obtain ⟨b, hv, hr⟩ := hde.val2 w hw rfl h1
            rw [hr] at hpb
            rw [hv] at hrel'
            exact ih _ _ _ Y M w _ _ a0 (h2 b ⟨_, w, Φ.perm _ _ _ hpb hok⟩) hat' hrel' hdid' (Φ.perm _ _ _ hpb hok) hin' hjy hun'
          | n + 3, _, hde, hwp =>
            exfalso
            rcases hde with ⟨_, ⟨h0, _⟩ | ⟨h0, _⟩⟩ | ⟨h1, _⟩
            · omega
            · omega
            · rw [hw] at h1; cases h1
        · rename_i hw
          have hv : e.v = undef ∧ e.r = [] := by
            rcases hde with ⟨h1, _⟩ | ⟨_, h1⟩
            · exact absurd h1 hw
            · exact h1
          rw [hv.2] at hpb
          rw [hv.1] at hrel'
          exact ih _ _ _ Y M w _ _ a0 hwp hat' hrel' hdid' (Φ.perm _ _ _ hpb hok) hin' hjy hun'
      · have hxi' : ∀ e, e ∈ X → e.j ≠ i := fun e he hh => hxi ⟨e, he, hh⟩
        have hat' := hat.step hxi' hx.lt
        have hap : o.apart ops oj = true := by
          obtain ⟨y, hy, _, h2⟩ := hx.pair _ hin'
          have : y = oj := Option.some.inj (hy.symm.trans hj)
          subst this
          exact (h2.resolve_left (hun i k o (.head _) ho hxi' hij)).1
        obtain ⟨ha1, ha2, ha3⟩ := Oper.apart_spec hap
        have hxa := hat.xap hxi' hx
        have hun' : ∀ i k oi, (i, k) ∈ π → ops[i]? = some oi → (∀ e, e ∈ X → e.j ≠ i) → i ≠ j → j ∉ descs ops i := fun i k' oi hk' => hun i k' oi (.tail _ hk')
        have go : ∀ (u : Value) (Ψ : Fam) (M' : List Res) (w' : World), ∀ (J' : World → Prop), wpF P ops T J' π (a.put o.dst u) Ψ → Ψ.ok (blocks X ++ M') w' → (Region.wanted oj (yielded ops a0.tmps) = false) ∨ (Region.wanted oj (yielded ops a0.tmps) = true ∧ ((kj = 0 ∧ ∃ v, ∀ w, (execOp a0.eval oj).run P w = .ok (.value v) w) ∨ (kj = 2 ∧ ∃ val obj, AllocsTo P oj a0.eval val obj))) := by
          intro u Ψ M' w' J' h1 h2
          have hrel' := hrel.step (o := o) u fun e he o' ho' d hd hd' => ((hxa e he o' ho').1 d hd').2 hd
          have := ih _ _ Ψ X M' w' _ _ (a0.put o.dst u) h1 hat' hrel' (fun e he k' o' hk' ho' => by
            have hdd := hdid e he k' o' (.tail _ hk') ho'
            obtain ⟨hb1, hb2, hb3⟩ := Oper.apart_spec (hxa e he o' ho').2
            unfold Did AllocsTo at *
            rw [execOp_put o' (hsel e.j o' · · ho') a0 o.dst u hb1, wanted_put o' a0 o.dst u hb1]
            exact hdd) h2 hin' hjx hun'
          unfold AllocsTo at this
          rw [execOp_put oj (hsel j oj · · hj) a0 o.dst u ha1, wanted_put oj a0 o.dst u ha1] at this
          exact this
        split at hwp
        · match k, hwp with
          | 0, ⟨v, h1, h2⟩ => exact go v Φ M w _ h2 hok
          | 1, ⟨v, J1, h1, _, h2⟩ => exact go v Φ M w _ h2 hok
          | 2, ⟨val, obj, h1, h2⟩ => exact go _ _ M (w.alloc obj) _ (h2 w.heap.size ⟨_, _, Φ.alc _ _ obj hok⟩) (Φ.alc _ _ obj hok)
          | 3, h2 =>
            obtain ⟨r, w', Φ', _, h3, h4⟩ := (h2 _ w hok).some
            exact go r Φ' M w' _ h4 h3
          | n + 4, ⟨Φ', h1, h2, h3⟩ =>
            obtain ⟨w', _, h5⟩ := h1 _ w hok
            exact go undef Φ' M w' _ h3 h5
        · exact go undef Φ M w _ hwp hok

theorem At.done {g m : Nat} {can listed : Array Bool} (h : At ops g m [] [] can listed) : listed = can := by
  apply Array.ext (by rw [h.inv.size, h.size])
  intro i h1 h2
  have e1 : listed.getD i true = listed[i] := by simp [h1]
  have e2 : can.getD i true = can[i] := by simp [h2]
  rw [← e1, ← e2]
  by_cases him : i < m
  · have a1 : ¬ listed.getD i true = false := fun hh => by obtain ⟨⟨k, hk⟩, _⟩ := (h.left i him).1 hh; cases hk
    have a2 : ¬ can.getD i true = false := fun hh => by obtain ⟨k, hk⟩ := (h.cl i him).1 hh; cases hk
    simp only [Bool.not_eq_false] at a1 a2
    rw [a1, a2]
  · rw [h.inv.tail i (by omega) (by rw [← h.inv.size]; exact h1), h.ct i (by omega) (by rw [← h.size]; exact h2)]

theorem order_lt {g m : Nat} : ∀ (π : List (Nat × Nat)) (can : Array Bool), walkB ops g m π can = true → ∀ p, p ∈ π → p.1 < m := by
  intro π
  induction π with
  | nil => intro can _ p hp; cases hp
  | cons q π ih =>
    obtain ⟨i', k''⟩ := q
    intro can hc p hp
    obtain ⟨⟨x', hx'⟩, _, hc'⟩ := Ord.of hc
    rcases List.mem_cons.1 hp with rfl | hp
    · exact hx'.lt
    · exact ih _ hc' p hp


theorem nodup_len : ∀ (l : List Nat), l.Nodup → ∀ l' : List Nat, (∀ x, x ∈ l → x ∈ l') → l.length ≤ l'.length := by
  intro l
  induction l with
  | nil => intro _ l' _; exact Nat.zero_le _
  | cons x t ih =>
    intro hn l' hs
    obtain ⟨s, r, rfl⟩ := List.append_of_mem (hs x (.head _))
    have hn' := List.nodup_cons.1 hn
    have := ih hn'.2 (s ++ r) fun y hy => by
      have := hs y (.tail _ hy)
      simp only [List.mem_append, List.mem_cons] at this ⊢
      rcases this with h | rfl | h
      · exact .inl h
      · exact absurd hy hn'.1
      · exact .inr h
    simp only [List.length_append, List.length_cons] at this ⊢
    omega

theorem pop_case {T : Act → Fam → Prop} {TT : Array Bool → Act → World → Prop} {g m k : Nat} {π : List (Nat × Nat)} (hsel : ∀ (j : Nat) (o : Oper) cs b, ops[j]? = some o → o.op ≠ .select cs b)
    (hjm : ∀ listed, HeadInv .any ops m listed → Jm ops m listed) (hdone : ∀ listed a w, TT listed a w → ∀ j, j ∈ Region.ready .any ops listed → m ≤ j)
    (hT : ∀ listed a Φ M w, Region.seqB .any ops g m listed = true → T a Φ → Φ.ok M w → TT listed a w)
    (ih : ∀ (J : World → Prop) (f : Nat) (a : Act) (Φ : Fam) (X : List Early) (M : List Res) (w : World) (can listed : Array Bool) (a0 : Act), f + X.length = π.length →
      (∀ w, Φ.J w → J w) → wpF P ops T J π a Φ → At ops g m π X can listed → Rel ops X a a0 → (∀ e, e ∈ X → ∀ k o, (e.j, k) ∈ π → ops[e.j]? = some o → Did P ops k o a0 e.v e.r) → Φ.ok (blocks X ++ M) w →
      WJ P ops m TT J f listed a0 w) {f : Nat} (J : World → Prop) (a : Act) (Φ : Fam) (X : List Early) (M : List Res) (w : World) (can listed : Array Bool) (a0 : Act) {i : Nat} (hf : f + X.length = π.length + 1) {o : Oper}
    (hJ : ∀ w, Φ.J w → J w) (hwp : wpF P ops T J ((i, k) :: π) a Φ)
    (hat : At ops g m ((i, k) :: π) X can listed) (hrel : Rel ops X a a0) (hdid : ∀ e, e ∈ X → ∀ k' o, (e.j, k') ∈ ((i, k) :: π) → ops[e.j]? = some o → Did P ops k' o a0 e.v e.r) (hok : Φ.ok (blocks X ++ M) w)
    (e : Early) (he : e ∈ X) (hei : e.j = i) (ho : ops[i]? = some o) (hx : Ord ops m i k o π) : WJ P ops m TT J f listed a0 w := by
  subst hei
  obtain ⟨o', ho', hwp⟩ := hwp
  have : o = o' := Option.some.inj (ho.symm.trans ho')
  subst this
  clear ho'
  obtain ⟨Y, hp⟩ : ∃ Y, X.Perm (e :: Y) := by
    obtain ⟨s, t, rfl⟩ := List.append_of_mem he
    exact ⟨s ++ t, List.perm_middle⟩
  have hat' := hat.pop hp hx.lt
  have hnd := (hp.map Early.j).nodup_iff.1 hat.xnd
  simp only [List.map_cons, List.nodup_cons] at hnd
  have hY : ∀ e', e' ∈ Y → e' ∈ X := fun e' he' => hp.mem_iff.2 (.tail _ he')
  have hssa : ∀ e', e' ∈ Y → ∀ o', ops[e'.j]? = some o' → (∀ d, o'.dst = some d → d ∉ o.looksAt ops ∧ o.dst ≠ some d) := fun e' he' o' ho' => by
    obtain ⟨k', hk', _⟩ := hat'.xin e' he'
    obtain ⟨y, hy, h1, _⟩ := hx.pair _ hk'
    have : y = o' := Option.some.inj (hy.symm.trans ho')
    subst this; exact h1
  have hrel' := hrel.pop hp ho fun e' he' o' ho' d hd hd' => ((hssa e' he' o' ho') d hd').2 hd
  have hdid' : ∀ e', e' ∈ Y → ∀ k o, (e'.j, k) ∈ π → ops[e'.j]? = some o → Did P ops k o a0 e'.v e'.r := fun e' he' k o hk ho => hdid e' (hY e' he') k o (.tail _ hk) ho
  have hself : ∀ t, t ∈ o.looksAt ops → a0.tmps[t]? = a.tmps[t]? := hrel.look fun e' he' o' ho' d hd => by
    rcases List.mem_cons.1 (hp.mem_iff.1 he') with rfl | he'
    · have : o' = o := Option.some.inj (ho'.symm.trans ho)
      subst this; exact hx.self d hd
    · exact ((hssa e' he' o' ho') d hd).1
  have hde := (hdid e he k o (.head _) ho).look (a0 := a) (hsel e.j o · · ho) (fun t ht => (hself t ht).symm)
  have hpb : (blocks X ++ M).Perm (e.r ++ (blocks Y ++ M)) := by
    have := (blocks_perm hp).append_right M
    simpa [blocks, List.append_assoc] using this
  have hf' : f + Y.length = π.length := by
    have := hp.length_eq
    simp only [List.length_cons] at this
    omega
  split at hwp
  · rename_i hw
    match k, hde, hwp with
    | 0, hde, ⟨v, h1, h2⟩ =>
      obtain ⟨rfl, hr⟩ := hde.val0 w hw rfl (h1 w)
      rw [hr] at hpb
      exact ih J f _ _ Y M w _ _ a0 hf' hJ h2 hat' hrel' hdid' (Φ.perm _ _ _ hpb hok)
    | 1, hde, hwp =>
      exfalso
      rcases hde with ⟨_, ⟨h0, _⟩ | ⟨h0, _⟩⟩ | ⟨h1, _⟩
      · cases h0
      · cases h0
      · rw [hw] at h1; cases h1
    | 2, hde, ⟨val, obj, h1, h2⟩ =>
      obtain ⟨b, hv, hr⟩ := hde.val2 w hw rfl h1
      rw [hr] at hpb
      rw [hv] at hrel'
      exact ih J f _ (Φ.add (.blk b obj)) Y M w _ _ a0 hf' (fun w ⟨M, h⟩ => hJ w ⟨_, h⟩) (h2 b ⟨_, w, Φ.perm _ _ _ hpb hok⟩) hat' hrel' hdid' (Φ.perm _ _ _ hpb hok)
    | n + 3, hde, hwp =>
      exfalso
      rcases hde with ⟨_, ⟨h0, _⟩ | ⟨h0, _⟩⟩ | ⟨h1, _⟩
      · omega
      · omega
      · rw [hw] at h1; cases h1
  · rename_i hw
    have hv : e.v = undef ∧ e.r = [] := by
      rcases hde with ⟨h1, _⟩ | ⟨_, h1⟩
      · exact absurd h1 hw
      · exact h1
    rw [hv.2] at hpb
    rw [hv.1] at hrel'
    exact ih J f _ _ Y M w _ _ a0 hf' hJ hwp hat' hrel' hdid' (Φ.perm _ _ _ hpb hok)

theorem orders {T : Act → Fam → Prop} {TT : Array Bool → Act → World → Prop} {g m : Nat} (hsel : ∀ (j : Nat) (o : Oper) cs b, ops[j]? = some o → o.op ≠ .select cs b)
    (hjm : ∀ listed, HeadInv .any ops m listed → Jm ops m listed) (hdone : ∀ listed a w, TT listed a w → ∀ j, j ∈ Region.ready .any ops listed → m ≤ j)
    (hT : ∀ listed a Φ M w, Region.seqB .any ops g m listed = true → T a Φ → Φ.ok M w → TT listed a w) :
    ∀ (π : List (Nat × Nat)) (J : World → Prop) (f : Nat) (a : Act) (Φ : Fam) (X : List Early) (M : List Res) (w : World) (can listed : Array Bool) (a0 : Act), f + X.length = π.length →
      (∀ w, Φ.J w → J w) → wpF P ops T J π a Φ → At ops g m π X can listed → Rel ops X a a0 → (∀ e, e ∈ X → ∀ k o, (e.j, k) ∈ π → ops[e.j]? = some o → Did P ops k o a0 e.v e.r) → Φ.ok (blocks X ++ M) w →
      WJ P ops m TT J f listed a0 w := by
  intro π
  induction π with
  | nil =>
    intro J f a Φ X M w can listed a0 hf hJ hwp hat hrel hdid hok
    obtain rfl : X = [] := List.eq_nil_of_length_eq_zero (by simp only [List.length_nil] at hf; omega)
    obtain rfl : f = 0 := by simp only [List.length_nil] at hf; omega
    obtain rfl := hrel.nil
    obtain rfl := hat.done
    exact ⟨hJ _ ⟨_, hok⟩, hT _ _ Φ _ w hat.chk hwp hok⟩
  | cons p π ih =>
    obtain ⟨i, k⟩ := p
    intro J f
    induction f with
    | zero =>
      intro a Φ X M w can listed a0 hf hJ hwp hat hrel hdid hok
      -- all of the order was carried out ahead
      obtain ⟨⟨x, hx⟩, _, _⟩ := Ord.of hat.chk
      have ho := hx.at_
      obtain ⟨e, he, rfl⟩ : ∃ e, e ∈ X ∧ e.j = i := by
        refine Classical.byContradiction fun hno => ?_
        have hsub : ∀ e, e ∈ X → e.j ∈ π.map Prod.fst := fun e he => by
          obtain ⟨k', hk', _⟩ := hat.xin e he
          rcases List.mem_cons.1 hk' with h4 | h4
          · exact absurd ⟨e, he, congrArg Prod.fst h4⟩ hno
          · exact List.mem_map.2 ⟨_, h4, rfl⟩
        have hle := nodup_len _ hat.xnd _ (fun j hj => by obtain ⟨e, he, rfl⟩ := List.mem_map.1 hj; exact hsub e he)
        simp only [List.length_map, List.length_cons] at hle hf
        omega
      exact pop_case hsel hjm hdone hT ih J a Φ X M w can listed a0 (by simpa using hf) hJ hwp hat hrel hdid hok e he rfl ho hx
    | succ f ihf =>
      intro a Φ X M w can listed a0 hf hJ hwp hat hrel hdid hok
      obtain ⟨⟨x, hx⟩, _, _⟩ := Ord.of hat.chk
      have ho := hx.at_
      by_cases hxi : ∃ e, e ∈ X ∧ e.j = i
      · obtain ⟨e, he, rfl⟩ := hxi
        exact pop_case hsel hjm hdone hT ih J a Φ X M w can listed a0 (by simpa using hf) hJ hwp hat hrel hdid hok e he rfl ho hx
      · have hxi' : ∀ e, e ∈ X → e.j ≠ i := fun e he hh => hxi ⟨e, he, hh⟩
        have hwp0 := hwp
        obtain ⟨o, ho', hwp⟩ := hwp
        have : o = x := Option.some.inj (ho'.symm.trans ho)
        subst this
        have hat' := hat.step hxi' hx.lt
        have hr := hat.ready hxi' hx.lt
        have hxa := hat.xap hxi' hx
        have hf' : f + X.length = π.length := by simp only [List.length_cons] at hf; omega
        have hself : ∀ t, t ∈ o.looksAt ops → a0.tmps[t]? = a.tmps[t]? := hrel.look fun e he o' ho' d hd => ((hxa e he o' ho').1 d hd).1
        have hex := exec_look (hsel i o · · ho) hself
        have hwa := wanted_look hself
        have hunl := hat.unl hxi' hx.lt
        -- a step in its place
        have go : ∀ (J' : World → Prop) (u : Value) (Ψ : Fam) (M' : List Res) (w' : World), (∀ w, Ψ.J w → J' w) → wpF P ops T J' π (a.put o.dst u) Ψ → Ψ.ok (blocks X ++ M') w' → WJ P ops m TT J' f (listed.setIfInBounds i true) (a0.put o.dst u) w' := by
          intro J' u Ψ M' w' hJ' h1 h2
          refine ih J' f _ Ψ X M' w' _ _ _ hf' hJ' h1 hat' (hrel.step u fun e he o' ho' d hd hd' => ((hxa e he o' ho').1 d hd').2 hd) (fun e he k' o' hk' ho' => ?_) h2
          have hdd := hdid e he k' o' (.tail _ hk') ho'
          obtain ⟨hb1, hb2, hb3⟩ := Oper.apart_spec (hxa e he o' ho').2
          unfold Did AllocsTo at *
          rw [execOp_put o' (hsel e.j o' · · ho') a0 o.dst u hb1, wanted_put o' a0 o.dst u hb1]
          exact hdd
        -- a value may be taken first
        have quiet : ∀ (J' : World → Prop) (u : Value), (∀ w, Φ.J w → J' w) → YJ P ops J' o u a0 → wpF P ops T J' π (a.put o.dst u) Φ → WJ P ops m TT J' (f + 1) listed a0 w := by
          intro J' u hJ' hy h1
          refine WJ.first ho hsel hjm hx.lt hdone f listed a0 w hat.inv (fun j oj hj hji hjm' hju => ?_) hr hy (go J' u Φ M w hJ' h1 hok)
          obtain ⟨⟨kj, hkj⟩, _⟩ := (hat.left j hjm').1 hju
          rcases List.mem_cons.1 hkj with h4 | h4
          · cases h4; exact absurd rfl hji
          · obtain ⟨y, hy', _, h2⟩ := hx.pair _ h4
            have : y = oj := Option.some.inj (hy'.symm.trans hj)
            subst this
            exact h2.imp id And.left
        -- whatever else may come up ahead of its place
        have other : ∀ j, j ∈ Region.ready .any ops listed → j ≠ i → ¬ (k = 0 ∨ k = 1) → j < m → ∃ oj, ops[j]? = some oj ∧ stepN P ops oj (WJ P ops m TT J f (listed.setIfInBounds j true)) a0 w := by
          intro j hj hji hk01 hjm'
          obtain ⟨hju, oj, hoj, _⟩ := mem_ready.1 hj
          obtain ⟨⟨kj, hkj⟩, hjx⟩ := (hat.left j hjm').1 hju
          have hkj' : (j, kj) ∈ π := by
            rcases List.mem_cons.1 hkj with h4 | h4
            · cases h4; exact absurd rfl hji
            · exact h4
          obtain ⟨y, hy', hss, h2⟩ := hx.pair _ hkj'
          have : y = oj := Option.some.inj (hy'.symm.trans hoj)
          subst this
          have hjd : j ∉ descs ops i := fun hd => descs_not_ready hat.inv (getD_both hunl) j hd hji hj
          obtain ⟨hap, hall⟩ := h2.resolve_left hjd
          have hkk : kj = 0 ∨ kj = 2 := by
            have : allowed k kj = (kj == 0 || kj == 2) := by
              match k, hk01 with
              | 0, h => exact absurd (.inl rfl) h
              | 1, h => exact absurd (.inr rfl) h
              | n + 2, _ => rfl
            simp only at hall
            rw [this] at hall
            simpa using hall
          refine ⟨y, hoj, ?_⟩
          have hah := ahead hsel j kj y hoj hkk ((i, k) :: π) J a Φ X M w can listed a0 hwp0 hat hrel hdid hok hkj hjx (fun i' k' oi' hi' hoi' hx' hij' hd => by
            have him' := order_lt _ _ hat.chk _ hi'
            have hu' : listed.getD i' true = false := (hat.left i' him').2 ⟨⟨k', hi'⟩, hx'⟩
            exact descs_not_ready hat.inv (getD_both hu') j hd (Ne.symm hij') hj)
          -- slots are written once
          have hdst : ∀ e, e ∈ X → ∀ o', ops[e.j]? = some o' → ∀ d, y.dst = some d → d ∉ o'.looksAt ops ∧ o'.dst ≠ some d := by
            intro e he o' ho' d hd
            obtain ⟨ke, hke, _⟩ := hat.xin e he
            have hne : e.j ≠ j := hjx e he
            -- one of the two stands before the other in the order
            have key : ∀ (π : List (Nat × Nat)) (can : Array Bool), walkB ops g m π can = true → (e.j, ke) ∈ π → (j, kj) ∈ π → (y.apart ops o' = true ∨ o'.apart ops y = true) ∨ j ∈ descs ops e.j ∨ (ssa ops o' y = true ∧ e.j ∈ descs ops j) ∨ (∀ d, y.dst = some d → d ∉ o'.looksAt ops ∧ o'.dst ≠ some d) := by
              intro π
              induction π with
              | nil => intro can _ h; cases h
              | cons q π ihq =>
                obtain ⟨i', k''⟩ := q
                intro can hc h1 h2
                obtain ⟨⟨x', hx'⟩, _, hc'⟩ := Ord.of hc
                rcases List.mem_cons.1 h1 with h5 | h5
                · have e1 : e.j = i' := congrArg Prod.fst h5
                  rcases List.mem_cons.1 h2 with h6 | h6
                  · exact absurd (e1.trans (congrArg Prod.fst h6).symm) hne
                  · obtain ⟨z, hz, hz2, _⟩ := hx'.pair _ h6
                    have : z = y := Option.some.inj (hz.symm.trans hoj)
                    subst this
                    have : x' = o' := Option.some.inj ((hx'.at_.symm.trans (by rw [← e1]; exact ho')))
                    subst this
                    exact .inr (.inr (.inr hz2))
                · rcases List.mem_cons.1 h2 with h6 | h6
                  · have e1 : j = i' := congrArg Prod.fst h6
                    obtain ⟨z, hz, _, hz3⟩ := hx'.pair _ h5
                    have : z = o' := Option.some.inj (hz.symm.trans ho')
                    subst this
                    have : x' = y := Option.some.inj ((hx'.at_.symm.trans (by rw [← e1]; exact hoj)))
                    subst this
                    rcases hz3 with h7 | h7
                    · exfalso
                      rw [← e1] at h7
                      have h8 := descs_unlisted hat.inv (getD_both hju) e.j h7
                      have h9 := getD_in (i := e.j) (listed := listed) (by rw [hat.inv.size]; exact (Array.getElem?_eq_some_iff.1 ho').1) h8
                      exact ((hat.left _ (order_lt _ _ hat.chk _ hke)).1 h9).2 e he rfl
                    · exact .inl (.inl h7.1)
                  · exact ihq _ hc' h5 h6
            rcases key _ _ hat.chk hke hkj with (h5 | h5) | h5 | ⟨h5, _⟩ | h5
            · obtain ⟨q1, q2, q3⟩ := Oper.apart_spec h5
              exact ⟨q1 d hd, q2 d hd⟩
            · obtain ⟨q1, q2, q3⟩ := Oper.apart_spec h5
              exact ⟨q3 d hd, fun h6 => q2 d h6 hd⟩
            · -- j waits for e, in the order behind it
              have : ∀ (π : List (Nat × Nat)) (can : Array Bool), walkB ops g m π can = true → (e.j, ke) ∈ π → (j, kj) ∈ π → (∀ d, y.dst = some d → d ∉ o'.looksAt ops ∧ o'.dst ≠ some d) ∨ y.apart ops o' = true := by
                intro π
                induction π with
                | nil => intro can _ h; cases h
                | cons q π ihq =>
                  obtain ⟨i', k''⟩ := q
                  intro can hc h1 h2
                  obtain ⟨⟨x', hx'⟩, _, hc'⟩ := Ord.of hc
                  rcases List.mem_cons.1 h1 with h5 | h5
                  · have e1 : e.j = i' := congrArg Prod.fst h5
                    rcases List.mem_cons.1 h2 with h6 | h6
                    · exact absurd (e1.trans (congrArg Prod.fst h6).symm) hne
                    · obtain ⟨z, hz, hz2, _⟩ := hx'.pair _ h6
                      have : z = y := Option.some.inj (hz.symm.trans hoj)
                      subst this
                      have : x' = o' := Option.some.inj ((hx'.at_.symm.trans (by rw [← e1]; exact ho')))
                      subst this
                      exact .inl hz2
                  · rcases List.mem_cons.1 h2 with h6 | h6
                    · have e1 : j = i' := congrArg Prod.fst h6
                      obtain ⟨z, hz, _, hz3⟩ := hx'.pair _ h5
                      have : z = o' := Option.some.inj (hz.symm.trans ho')
                      subst this
                      have : x' = y := Option.some.inj ((hx'.at_.symm.trans (by rw [← e1]; exact hoj)))
                      subst this
                      rcases hz3 with h7 | h7
                      · exfalso
                        rw [← e1] at h7
                        have h8 := descs_unlisted hat.inv (getD_both hju) e.j h7
                        have h9 := getD_in (i := e.j) (listed := listed) (by rw [hat.inv.size]; exact (Array.getElem?_eq_some_iff.1 ho').1) h8
                        exact ((hat.left _ (order_lt _ _ hat.chk _ hke)).1 h9).2 e he rfl
                      · exact .inr h7.1
                    · exact ihq _ hc' h5 h6
              rcases this _ _ hat.chk hke hkj with h6 | h6
              · exact h6 d hd
              · obtain ⟨q1, q2, q3⟩ := Oper.apart_spec h6
                exact ⟨q1 d hd, q2 d hd⟩
            · exact ssa_spec h5 d hd
            · exact h5 d hd
          have early : ∀ (v : Value) (r : List Res) (w' : World), Did P ops kj y a0 v r → Φ.ok (r ++ (blocks X ++ M)) w' → WJ P ops m TT J f (listed.setIfInBounds j true) (a0.put y.dst v) w' := by
            intro v r w' hd hok'
            refine ihf a Φ (⟨j, v, r⟩ :: X) M w' can _ _ (by simp only [List.length_cons] at hf ⊢; omega) hJ hwp0 (hat.early (e := ⟨j, v, r⟩) hj hjm' hkj hkk) (hrel.early (e := ⟨j, v, r⟩) hoj fun e he o' ho' d hd' => (hdst e he o' ho' d hd').2) ?_ (by simpa [blocks] using hok')
            intro e he k' o' hk' ho'
            rcases List.mem_cons.1 he with rfl | he
            · have : o' = y := Option.some.inj (ho'.symm.trans hoj)
              subst this
              have hkeq : k' = kj := by
                have hnd := hat.nodup
                have hf1 : ∀ (π : List (Nat × Nat)), (π.map Prod.fst).Nodup → ∀ k1 k2, (j, k1) ∈ π → (j, k2) ∈ π → k1 = k2 := by
                  intro π
                  induction π with
                  | nil => intro _ _ _ h; cases h
                  | cons q π ihq =>
                    intro hn k1 k2 h1 h2
                    simp only [List.map_cons, List.nodup_cons] at hn
                    rcases List.mem_cons.1 h1 with h1 | h1
                    · rcases List.mem_cons.1 h2 with h2 | h2
                      · exact congrArg Prod.snd (h1.trans h2.symm)
                      · exact absurd (List.mem_map.2 ⟨_, h2, by rw [← h1]⟩) hn.1
                    · rcases List.mem_cons.1 h2 with h2 | h2
                      · exact absurd (List.mem_map.2 ⟨_, h1, by rw [← h2]⟩) hn.1
                      · exact ihq hn.2 k1 k2 h1 h2
                exact hf1 _ hnd _ _ hk' hkj
              subst hkeq
              refine hd.look (hsel j o' · · hoj) fun t ht => ?_
              rw [put_tmps, if_neg fun h6 => ?_]
              -- it does not look at its own slot
              have hs : ∀ (π : List (Nat × Nat)) (can : Array Bool), walkB ops g m π can = true → (j, k') ∈ π → ∀ d, o'.dst = some d → d ∉ o'.looksAt ops := by
                intro π
                induction π with
                | nil => intro can _ h; cases h
                | cons q π ihq =>
                  obtain ⟨i', k''⟩ := q
                  intro can hc h1
                  obtain ⟨⟨x', hx'⟩, _, hc'⟩ := Ord.of hc
                  rcases List.mem_cons.1 h1 with h5 | h5
                  · have e1 : j = i' := congrArg Prod.fst h5
                    have : x' = o' := Option.some.inj ((hx'.at_.symm.trans (by rw [← e1]; exact hoj)))
                    subst this
                    exact hx'.self
                  · exact ihq _ hc' h5
              exact hs _ _ hat.chk hkj t h6 ht
            · refine (hdid e he k' o' hk' ho').look (hsel e.j o' · · ho') fun t ht => ?_
              rw [put_tmps, if_neg fun h6 => (hdst e he o' ho' t h6).1 ht]
          unfold stepN
          rcases hah with h1 | ⟨h1, h3⟩
          · rw [if_neg (by rw [h1]; simp)]
            exact early undef [] w (.inr ⟨h1, rfl, rfl⟩) hok
          · rw [if_pos h1]
            rcases h3 with ⟨h4, v, h5⟩ | ⟨h4, val, obj, h5⟩
            · rw [h5 w]
              exact early v [] w (.inl ⟨h1, .inl ⟨h4, rfl, h5⟩⟩) hok
            · rw [h5 w]
              exact early _ [.blk w.heap.size obj] (w.alloc obj) (.inl ⟨h1, .inr ⟨h4, val, obj, w.heap.size, h5, rfl, rfl⟩⟩) (Φ.alc _ _ obj hok)
        have hrne : Region.ready .any ops listed ≠ [] := fun h => by rw [h] at hr; cases hr
        have hlt : ∀ j, j ∈ Region.ready .any ops listed → j < m := fun j hj => Nat.lt_of_not_le fun h => hjm listed hat.inv i hx.lt hunl j h hj
        split at hwp
        · rename_i hw
          have hw0 : Region.wanted o (yielded ops a0.tmps) = true := by rw [hwa]; exact hw
          match k, other, hwp with
          | 0, _, ⟨v, h1, h2⟩ => exact quiet J v hJ (.inl ⟨hw0, fun w _ => by rw [hex]; exact h1 w⟩) h2
          | 1, _, ⟨v, J1, h1, h3, h2⟩ => exact WJ.mono (fun w h => h.1) _ _ _ _ (quiet (fun w => J w ∧ J1 w) v (fun w h => ⟨hJ w h, h3 w h⟩) (.inl ⟨hw0, fun w hw => by rw [hex]; exact h1 w hw.2⟩) h2)
          | 2, other, ⟨val, obj, h1, h2⟩ =>
            refine ⟨hJ _ ⟨_, hok⟩, hrne, fun j hj => ⟨hlt j hj, ?_⟩⟩
            by_cases hji : j = i
            · subst hji
              refine ⟨o, ho, ?_⟩
              unfold stepN
              rw [if_pos hw0, hex, h1 w]
              refine go J _ (Φ.add (.blk w.heap.size obj)) M _ (fun w ⟨M, h⟩ => hJ w ⟨_, h⟩) (h2 w.heap.size ⟨_, _, Φ.alc _ _ obj hok⟩) ?_
              exact Φ.alc _ _ obj hok
            · exact other j hj hji (by simp) (hlt j hj)
          | 3, other, h2 =>
            refine ⟨hJ _ ⟨_, hok⟩, hrne, fun j hj => ⟨hlt j hj, ?_⟩⟩
            by_cases hji : j = i
            · subst hji
              refine ⟨o, ho, ?_⟩
              unfold stepN
              rw [if_pos hw0, hex]
              have h3 := h2 _ w hok
              unfold Steps at h3
              revert h3
              generalize (execOp a.eval o).run P w = R
              intro h3
              match R, h3 with
              | .ok (.value v) w', ⟨Φ', e2, e3, e4⟩ => exact go J v Φ' M w' (fun w h => hJ w (e2 w h)) e4 e3
              | .ok (.enter fn args) w', h4 => exact h4.mono fun e w' ⟨r, e1, Φ', e2, e3, e4⟩ => ⟨r, e1, go J r Φ' M w' (fun w h => hJ w (e2 w h)) e4 e3⟩
            · exact other j hj hji (by omega) (hlt j hj)
          | n + 4, other, ⟨Φ', h1, h2, h3⟩ =>
            refine ⟨hJ _ ⟨_, hok⟩, hrne, fun j hj => ⟨hlt j hj, ?_⟩⟩
            by_cases hji : j = i
            · subst hji
              refine ⟨o, ho, ?_⟩
              obtain ⟨w', e1, e2⟩ := h1 _ w hok
              unfold stepN
              rw [if_pos hw0, hex, e1]
              exact go J undef Φ' M w' h2 h3 e2
            · exact other j hj hji (by omega) (hlt j hj)
        · rename_i hw
          have hw0 : Region.wanted o (yielded ops a0.tmps) = false := by rw [hwa]; simpa using hw
          exact quiet J undef hJ (.inr ⟨hw0, rfl⟩) hwp
end
end Go.Proofs.Ytaoinojdijbhaaa
