/-
  The layer's rules: one operation, control, a call, a function's beginning and end.
-/
import Derived.Test.YtaoinojdijbhaaaSep1
import Derived.LoopNIn
import Derived.Scope
namespace Go.Proofs.Ytaoinojdijbhaaa
open Go.RowKit

/-! ### What a program says of its types and functions -/
class Ty (P : Program) (t : TypeId) (d : outParam TypeDesc) (sz : outParam Nat) (agg : outParam Bool) : Prop where
  und : P.underlying t = some d
  agg' : ∀ w, (isAgg t).run P w = .ok agg w
  size : ∀ w, (sizeOf t).run P w = .ok sz w
class Zero (P : Program) (t : TypeId) (z : outParam Value) (cs : outParam (Array Value)) : Prop where
  zv : ∀ w, (zeroValue t).run P w = .ok z w
  zc : Value.cells z = cs
class Ent (P : Program) (k : FuncId) : Prop where
  ent : ∀ args w, (callFunc k args).run P w = .ok (.enter k args) w

theorem Ty.run {P : Program} {t : TypeId} {d : TypeDesc} {sz : Nat} {agg : Bool} (h : Ty P t d sz agg) (w : World) : (underlying t).run P w = .ok d w := run_underlying h.und w

/-- The fence that lets everything in; in a round of a range over a function, or in none. -/
def Wd (ro : Option Nat) : Fence := { fn := fun _ => True, depth := none, alive := false, round := ro }

theorem Wd.about {P : Program} {ro : Option Nat} {o : Oper} {w : World} {ρ : Operand → Value} : ∀ f, o.about P w ρ = some f → (Wd ro).fn f := fun _ _ => trivial

theorem Wd.calls {P : Program} {ro : Option Nat} {f : FuncId} {args : Array Value} {w : World} {R : Ending → World → Prop} (h : Calls P f args w R) : CallsIn (Wd ro) 0 P f args w R :=
  (callsIn_wide (n := 0)).2 h

/-! ### Calls, said of known memory -/
def CallS (P : Program) (k : FuncId) (args : Array Value) (E : Env) (L : List Res) (Post : Value → Env → List Res → Prop) : Prop :=
  ∀ w, St E L w → Calls P k args w (fun e w' => ∃ r E' L', e = .returned r ∧ E.Le E' ∧ St E' L' w' ∧ Post r E' L')
def CallV (P : Program) (k : FuncId) (args : Array Value) (E : Env) (L : List Res) (r : Value) : Prop :=
  ∀ w, St E L w → Calls P k args w (fun e w' => e = .returned r ∧ St E L w')

theorem CallS.mono {P : Program} {k : FuncId} {args : Array Value} {E : Env} {L : List Res} {Post Post' : Value → Env → List Res → Prop} (h : CallS P k args E L Post)
    (hp : ∀ r E' L', E.Le E' → Post r E' L' → Post' r E' L') : CallS P k args E L Post' :=
  fun w hw => (h w hw).mono fun _ _ ⟨r, E', L', he, hE, hs, hq⟩ => ⟨r, E', L', he, hE, hs, hp r E' L' hE hq⟩

theorem CallS.ofV {P : Program} {k : FuncId} {args : Array Value} {E : Env} {L : List Res} {r : Value} (h : CallV P k args E L r) : CallS P k args E L (fun r' E' L' => r' = r ∧ E' = E ∧ L' = L) :=
  fun w hw => (h w hw).mono fun _ _ ⟨he, hs⟩ => ⟨r, E, L, he, .refl E, hs, rfl, rfl, rfl⟩

theorem CallS.toV {P : Program} {k : FuncId} {args : Array Value} {E : Env} {L : List Res} {r : Value} (h : CallS P k args E L (fun r' _ L' => r' = r ∧ L' = L)) : CallV P k args E L r :=
  fun w hw => (h w hw).mono fun _ _ ⟨_, _, _, he, hE, hs, h1, h2⟩ => by subst h1 h2; exact ⟨he, hs.weaken hE⟩

/-! ### One operation that leaves memory as it is -/
def Val (P : Program) (o : Oper) (fs : List (Nat × Value)) (E : Env) (L : List Res) (v : Value) : Prop :=
  (∀ c, o.op ≠ .defer c) ∧ ∀ n ds a w, Fr n ds fs a → St E L w → (execOp a.eval o).run P w = .ok (.value v) w

section rules
variable {P : Program} {ro : Option Nat} {n : Nat} {ds : List Deferred} {fs : List (Nat × Value)} {E : Env} {L : List Res} {ops : Array Oper} {Q : Exit → Act → World → Prop} {rest : List Oper} {o : Oper}

/-- An operation with no guard, or with one that says yes. -/
def Goes (ops : Array Oper) (fs : List (Nat × Value)) (o : Oper) : Prop :=
  match o.guard with
  | none => True
  | some (j, want) => ∃ oj dj, ops[j]? = some oj ∧ oj.dst = some dj ∧ look fs dj = some (.bool want)
def Stays (ops : Array Oper) (fs : List (Nat × Value)) (o : Oper) : Prop :=
  match o.guard with
  | none => False
  | some (j, want) => ∃ oj dj, ops[j]? = some oj ∧ oj.dst = some dj ∧ (look fs dj = some (.bool (!want)) ∨ look fs dj = some undef)

theorem Goes.wanted {a : Act} (h : Goes ops fs o) (ha : Fr n ds fs a) : Region.wanted o (yielded ops a.tmps) = true := by
  unfold Goes at h
  unfold Region.wanted
  split at h
  · rename_i e; rw [e]
  · rename_i j want e
    obtain ⟨oj, dj, h1, h2, h3⟩ := h
    rw [e]
    simp [yielded, h1, h2, ha.get _ _ h3]
theorem Stays.wanted {a : Act} (h : Stays ops fs o) (ha : Fr n ds fs a) : Region.wanted o (yielded ops a.tmps) = false := by
  unfold Stays at h
  unfold Region.wanted
  split at h
  · exact h.elim
  · rename_i j want e
    obtain ⟨oj, dj, h1, h2, h3⟩ := h
    rw [e]
    rcases h3 with h3 | h3
    · simp [yielded, h1, h2, ha.get _ _ h3]
    · simp [yielded, h1, h2, ha.get _ _ h3, undef]

/-- The general step: the operation yields a value; what is known turns. -/
theorem G_any (hg : Goes ops fs o) (hnd : ∀ c, o.op ≠ .defer c)
    (h : ∀ a w, Fr n ds fs a → St E L w → o.uponIn (Wd ro) 0 P a (wpListIn (Wd ro) 0 P ops Q rest) Q ((execOp a.eval o).run P w)) :
    G n ds fs E L (wpListIn (Wd ro) 0 P ops Q (o :: rest)) := by
  intro a w ha hw
  unfold wpListIn
  rw [if_pos (hg.wanted ha)]
  refine ⟨Wd.about, ?_⟩
  rw [Oper.semAt_eq _ _ _ hnd]
  exact h a w ha hw

theorem G_val {d : Nat} {v : Value} (hv : Val P o fs E L v) (hd : o.dst = some d) (hn : Nat.blt d n = true) (hg : Goes ops fs o)
    (h : G n ds ((d, v) :: fs) E L (wpListIn (Wd ro) 0 P ops Q rest)) : G n ds fs E L (wpListIn (Wd ro) 0 P ops Q (o :: rest)) :=
  G_any hg hv.1 fun a w ha hw => by
    rw [hv.2 n ds a w ha hw]
    simp only [Oper.uponIn_value, hd]
    exact h _ _ (ha.put hn v) hw

theorem G_val0 {v : Value} (hv : Val P o fs E L v) (hd : o.dst = none) (hg : Goes ops fs o)
    (h : G n ds fs E L (wpListIn (Wd ro) 0 P ops Q rest)) : G n ds fs E L (wpListIn (Wd ro) 0 P ops Q (o :: rest)) :=
  G_any hg hv.1 fun a w ha hw => by
    rw [hv.2 n ds a w ha hw]
    simp only [Oper.uponIn_value, hd]
    exact h _ _ ha hw

theorem G_stay {d : Nat} (hs : Stays ops fs o) (hd : o.dst = some d) (hn : Nat.blt d n = true) (h : G n ds ((d, undef) :: fs) E L (wpListIn (Wd ro) 0 P ops Q rest)) :
    G n ds fs E L (wpListIn (Wd ro) 0 P ops Q (o :: rest)) := by
  intro a w ha hw
  unfold wpListIn
  rw [if_neg (by rw [hs.wanted ha]; simp)]
  refine ⟨Wd.about, ?_⟩
  rw [hd]
  exact h _ _ (ha.put hn undef) hw
theorem G_stay0 (hs : Stays ops fs o) (hd : o.dst = none) (h : G n ds fs E L (wpListIn (Wd ro) 0 P ops Q rest)) :
    G n ds fs E L (wpListIn (Wd ro) 0 P ops Q (o :: rest)) := by
  intro a w ha hw
  unfold wpListIn
  rw [if_neg (by rw [hs.wanted ha]; simp)]
  refine ⟨Wd.about, ?_⟩
  rw [hd]
  exact h _ _ ha hw

theorem G_end (h : G n ds fs E L (fun a w => Q .normal a w)) : G n ds fs E L (wpListIn (Wd ro) 0 P ops Q []) := h

/-! ### Control -/
variable {c c' : Code}
theorem G_seq (h : G n ds fs E L (c.wpIn (Wd ro) 0 P (Exit.then (c'.wpIn (Wd ro) 0 P Q) Q))) : G n ds fs E L ((Code.seq c c').wpIn (Wd ro) 0 P Q) :=
  fun a w ha hw => wpIn_seq (h a w ha hw)
theorem G_region {id : Nat} {l : List Oper} (h : G n ds fs E L (wpListIn (Wd ro) 0 P l.toArray Q l)) : G n ds fs E L ((Code.region id l.toArray false).wpIn (Wd ro) 0 P Q) :=
  fun a w ha hw => wpIn_region_lit (h a w ha hw)
theorem G_skip (h : G n ds fs E L (fun a w => Q .normal a w)) : G n ds fs E L (Code.skip.wpIn (Wd ro) 0 P Q) := fun a w ha hw => wpIn_skip (h a w ha hw)
theorem G_ret (h : G n ds fs E L (fun a w => Q .ret a w)) : G n ds fs E L (Code.ret.wpIn (Wd ro) 0 P Q) := fun a w ha hw => wpIn_ret (h a w ha hw)
theorem G_exit {id : Nat} (h : G n ds fs E L (fun a w => Q (.exit id) a w)) : G n ds fs E L ((Code.exit id).wpIn (Wd ro) 0 P Q) := fun a w ha hw => wpIn_exit (h a w ha hw)
theorem G_block {id : Nat} (h : G n ds fs E L (c.wpIn (Wd ro) 0 P (Exit.inBlock id Q))) : G n ds fs E L ((Code.block id c).wpIn (Wd ro) 0 P Q) := fun a w ha hw => wpIn_block (h a w ha hw)
theorem G_cond {x : Operand} {b : Bool} (hx : ev fs x = some (.bool b)) (ht : b = true → G n ds fs E L (c.wpIn (Wd ro) 0 P Q)) (hf : b = false → G n ds fs E L (c'.wpIn (Wd ro) 0 P Q)) :
    G n ds fs E L ((Code.cond x c c').wpIn (Wd ro) 0 P Q) :=
  fun a w ha hw => wpIn_cond_split (ha.eval hx) (fun e => ht e a w ha hw) (fun e => hf e a w ha hw)
theorem G_cond_t {x : Operand} {b : Bool} (hx : ev fs x = some (.bool b)) (hb : b = true) (ht : G n ds fs E L (c.wpIn (Wd ro) 0 P Q)) :
    G n ds fs E L ((Code.cond x c c').wpIn (Wd ro) 0 P Q) := G_cond hx (fun _ => ht) (fun e => by rw [hb] at e; cases e)
theorem G_cond_f {x : Operand} {b : Bool} (hx : ev fs x = some (.bool b)) (hb : b = false) (hf : G n ds fs E L (c'.wpIn (Wd ro) 0 P Q)) :
    G n ds fs E L ((Code.cond x c c').wpIn (Wd ro) 0 P Q) := G_cond hx (fun e => by rw [hb] at e; cases e) (fun _ => hf)

variable {K : Act → World → Prop}
theorem X_then (h : G n ds fs E L K) : G n ds fs E L (fun a w => Exit.then K Q .normal a w) := h
theorem X_block {id : Nat} (h : G n ds fs E L (fun a w => Q .normal a w)) : G n ds fs E L (fun a w => Exit.inBlock id Q .normal a w) := h
theorem X_then_ret (h : G n ds fs E L (fun a w => Q .ret a w)) : G n ds fs E L (fun a w => Exit.then K Q .ret a w) := h
theorem X_block_ret {id : Nat} (h : G n ds fs E L (fun a w => Q .ret a w)) : G n ds fs E L (fun a w => Exit.inBlock id Q .ret a w) := h
theorem X_then_exit {id : Nat} (h : G n ds fs E L (fun a w => Q (.exit id) a w)) : G n ds fs E L (fun a w => Exit.then K Q (.exit id) a w) := h
theorem X_block_hit {id : Nat} (h : G n ds fs E L (fun a w => Q .normal a w)) : G n ds fs E L (fun a w => Exit.inBlock id Q (.exit id) a w) := by
  intro a w ha hw
  simp only [Exit.inBlock, if_true]
  exact h a w ha hw
theorem X_block_miss {id id' : Nat} (hne : Nat.beq id' id = false) (h : G n ds fs E L (fun a w => Q (.exit id') a w)) : G n ds fs E L (fun a w => Exit.inBlock id Q (.exit id') a w) := by
  intro a w ha hw
  have : id' ≠ id := fun e => by subst e; simp at hne
  simp only [Exit.inBlock, if_neg this]
  exact h a w ha hw

theorem wpIn_scope_straight {F : Fence} {m : Nat} {a : Act} {w : World} (h : c.wpIn F m P (Exit.noGoto Q) a w) : (Code.scope c).wpIn F m P Q a w := by
  intro b k cs hro hb hr
  have s1 : step P (lone (b.atR a (.code (.scope c) :: k)) cs w) = .next (lone (b.atR a (.code c :: .inScope c :: k)) cs w) := step_lone_go (by simp [stepG, stepG.exec, Frame.atR])
  have s2 : ∀ (a' : Act) (w' : World), step P (lone (b.atR a' (.inScope c :: k)) cs w') = .next (lone (b.atR a' k) cs w') := fun a' w' => step_lone_go (by simp [stepG, stepG.exec, Frame.atR])
  have h0 : (lone (b.atR a (.code (.scope c) :: k)) cs w).fenced P F := fenced_calm hb hr rfl
  obtain ⟨e, a₁, w₁, hq, harr⟩ := h b (.inScope c :: k) cs hro hb hr
  cases e with
  | normal => exact ⟨.normal, a₁, w₁, hq, .head h0 s1 (StepsIn.trans harr (.one (fenced_calm hb hr rfl) (s2 a₁ w₁)))⟩
  | exit id =>
    have hx : exitTo id (.inScope c :: k) = exitTo id k := by simp [exitTo]
    exact ⟨.exit id, a₁, w₁, hq, fun k' hk => .head h0 s1 (harr.1 k' (by rw [hx]; exact hk)),
      fun hr' hk => let ⟨k₁, h1, h2⟩ := harr.2 hr' (by rw [hx]; exact hk); ⟨k₁, h1, .head h0 s1 h2⟩⟩
  | goto l => exact hq.elim
  | ret => exact ⟨_, a₁, w₁, hq, .of_steps (.one h0 s1) harr⟩
  | panic ch => exact ⟨_, a₁, w₁, hq, .of_steps (.one h0 s1) harr⟩
  | outgrown => exact ⟨_, a₁, w₁, hq, .of_steps (.one h0 s1) harr⟩
theorem G_scope (h : G n ds fs E L (c.wpIn (Wd ro) 0 P (Exit.noGoto Q))) : G n ds fs E L ((Code.scope c).wpIn (Wd ro) 0 P Q) := fun a w ha hw => wpIn_scope_straight (h a w ha hw)
theorem G_label {l : Nat} (h : G n ds fs E L (fun a w => Q .normal a w)) : G n ds fs E L ((Code.label l).wpIn (Wd ro) 0 P Q) := fun a w ha hw => wpIn_label (h a w ha hw)
theorem X_ng (h : G n ds fs E L (fun a w => Q .normal a w)) : G n ds fs E L (fun a w => Exit.noGoto Q .normal a w) := h
theorem X_ng_ret (h : G n ds fs E L (fun a w => Q .ret a w)) : G n ds fs E L (fun a w => Exit.noGoto Q .ret a w) := h
theorem X_ng_exit {id : Nat} (h : G n ds fs E L (fun a w => Q (.exit id) a w)) : G n ds fs E L (fun a w => Exit.noGoto Q (.exit id) a w) := h

/-- A loop's next round: some state of the loop's own family. -/
def AgainD {α : Type} (n : Nat) (sd : α → List Deferred) (sf : α → List (Nat × Value)) (sE : α → Env) (sL : α → List Res) (I : α → Prop) (μ : α → Nat) (x : α) (a : Act) (w : World) : Prop :=
  ∃ y, I y ∧ μ y < μ x ∧ Fr n (sd y) (sf y) a ∧ St (sE y) (sL y) w
theorem G_loopD {α : Type} (sd : α → List Deferred) (sf : α → List (Nat × Value)) (sE : α → Env) (sL : α → List Res) (I : α → Prop) (μ : α → Nat) (x0 : α) (h0 : I x0) (hd : ds = sd x0) (hs : Sub (sf x0) fs) (hE : sE x0 = E) (hL : L = sL x0)
    (h : ∀ x, I x → G n (sd x) (sf x) (sE x) (sL x) (c.wpIn (Wd ro) 0 P (Exit.then (AgainD n sd sf sE sL I μ x) Q))) : G n ds fs E L ((Code.loop c).wpIn (Wd ro) 0 P Q) := by
  intro a w ha hw
  have key : ∀ m x a w, μ x < m → I x → Fr n (sd x) (sf x) a → St (sE x) (sL x) w → Code.roundsIn (Wd ro) 0 P c Q m a w := by
    intro m
    induction m with
    | zero => intro x a w hm; omega
    | succ m ih =>
      intro x a w hm hI ha hw
      refine wpIn_mono (h x hI a w ha hw) ?_
      intro e a' w' hq
      cases e <;> first | exact hq | skip
      obtain ⟨y, hy, hlt, hya, hyw⟩ := hq
      exact ih y a' w' (by omega) hy hya hyw
  exact wpIn_loop_rounds (μ x0 + 1) (key _ x0 a w (by omega) h0 (by rw [← hd]; exact ha.sub hs) (by rw [hE, ← hL]; exact hw))
theorem G_againD {α : Type} {sd : α → List Deferred} {sf : α → List (Nat × Value)} {sE : α → Env} {sL : α → List Res} {I : α → Prop} {μ : α → Nat} {x : α} (y : α) (hI : I y) (hμ : μ y < μ x) (hd : ds = sd y) (hs : Sub (sf y) fs) (hE : sE y = E) (hL : L = sL y) :
    G n ds fs E L (AgainD n sd sf sE sL I μ x) :=
  fun a w ha hw => ⟨y, hI, hμ, by rw [← hd]; exact ha.sub hs, by rw [hE, ← hL]; exact hw⟩
def Again {α : Type} (n : Nat) (ds : List Deferred) (sf : α → List (Nat × Value)) (sE : α → Env) (sL : α → List Res) (I : α → Prop) (μ : α → Nat) (x : α) (a : Act) (w : World) : Prop :=
  AgainD n (fun _ => ds) sf sE sL I μ x a w
theorem G_loop {α : Type} (sf : α → List (Nat × Value)) (sE : α → Env) (sL : α → List Res) (I : α → Prop) (μ : α → Nat) (x0 : α) (h0 : I x0) (hs : Sub (sf x0) fs) (hE : sE x0 = E) (hL : L = sL x0)
    (h : ∀ x, I x → G n ds (sf x) (sE x) (sL x) (c.wpIn (Wd ro) 0 P (Exit.then (Again n ds sf sE sL I μ x) Q))) : G n ds fs E L ((Code.loop c).wpIn (Wd ro) 0 P Q) :=
  G_loopD (fun _ => ds) sf sE sL I μ x0 h0 rfl hs hE hL h
theorem G_again {α : Type} {sf : α → List (Nat × Value)} {sE : α → Env} {sL : α → List Res} {I : α → Prop} {μ : α → Nat} {x : α} (y : α) (hI : I y) (hμ : μ y < μ x) (hs : Sub (sf y) fs) (hE : sE y = E) (hL : L = sL y) :
    G n ds fs E L (Again n ds sf sE sL I μ x) := G_againD y hI hμ rfl hs hE hL

/-! ### Calls -/
theorem evs_args {xs : List Operand} {vs : List Value} {a : Act} (ha : Fr n ds fs a) (h : xs.mapM (ev fs) = some vs) : (xs.toArray.map a.eval) = vs.toArray := by
  have : xs.map a.eval = vs := by
    induction xs generalizing vs with
    | nil => simp at h; subst h; rfl
    | cons x xs ih =>
      simp only [List.mapM_cons, Option.bind_eq_bind, Option.bind_eq_some_iff, Option.pure_def, Option.some.injEq] at h
      obtain ⟨v, hv, vs', hvs, rfl⟩ := h
      rw [List.map_cons, ha.eval hv, ih hvs]
  simp [this]

/-- What a call's operation asks for: the function k, with these arguments. -/
def Goesto (fs : List (Nat × Value)) (o : Oper) (k : FuncId) (args : Array Value) : Prop :=
  ∃ f xs ts vs cap, o.op = .call { callee := .value f, args := xs, argTypes := ts } ∧ ev fs f = some (.func (.func k) #[] cap) ∧ xs.toList.mapM (ev fs) = some vs ∧ args = vs.toArray ++ cap

theorem Goesto.mk {f : Operand} {xs : List Operand} {ts : Array TypeId} {vs : List Value} {k : FuncId} {cap args : Array Value} (ho : o.op = .call { callee := .value f, args := xs.toArray, argTypes := ts })
    (hf : ev fs f = some (.func (.func k) #[] cap)) (hx : xs.mapM (ev fs) = some vs) (ha : args = vs.toArray ++ cap) : Goesto fs o k args :=
  ⟨f, _, ts, vs, cap, ho, hf, by simpa using hx, ha⟩

theorem Goesto.run {k : FuncId} [Ent P k] {args : Array Value} {a : Act} {w : World} (h : Goesto fs o k args) (ha : Fr n ds fs a) : (execOp a.eval o).run P w = .ok (.enter k args) w := by
  obtain ⟨f, xs, ts, vs, cap, ho, hf, hx, rfl⟩ := h
  have e1 := evs_args ha hx
  simp only [Array.toArray_toList] at e1
  have e2 := ha.eval hf
  simp only [execOp, ho, resolve, e2, Deferred.ofValue, e1]
  simp [invoke, Ent.ent]

theorem G_call {k : FuncId} [Ent P k] {args : Array Value} {d : Nat} {Post : Value → Env → List Res → Prop} (ht : Goesto fs o k args) (hd : o.dst = some d) (hn : Nat.blt d n = true) (hg : Goes ops fs o)
    (hc : CallS P k args E L Post)
    (h : ∀ r E' L', E.Le E' → Post r E' L' → G n ds ((d, r) :: fs) E' L' (wpListIn (Wd ro) 0 P ops Q rest)) : G n ds fs E L (wpListIn (Wd ro) 0 P ops Q (o :: rest)) :=
  G_any hg (by obtain ⟨f, xs, ts, vs, cap, ho, _⟩ := ht; rw [ho]; intro c hc; cases hc) fun a w ha hw => by
    rw [ht.run ha]
    simp only [Oper.uponIn_enter]
    refine ⟨fun h => by simp [Wd] at h, (Wd.calls (hc w hw)).mono ?_⟩
    rintro e w' ⟨r, E', L', rfl, hE, hs, hp⟩
    simp only [hd]
    exact h r E' L' hE hp _ _ (ha.put hn r) hs

theorem G_callv {k : FuncId} [Ent P k] {args : Array Value} {d : Nat} {r : Value} (ht : Goesto fs o k args) (hd : o.dst = some d) (hn : Nat.blt d n = true) (hg : Goes ops fs o)
    (hc : CallV P k args E L r) (h : G n ds ((d, r) :: fs) E L (wpListIn (Wd ro) 0 P ops Q rest)) : G n ds fs E L (wpListIn (Wd ro) 0 P ops Q (o :: rest)) :=
  G_call ht hd hn hg (.ofV hc) fun r' E' L' _ ⟨h1, h2, h3⟩ => by subst h1 h2 h3; exact h

/-! ### A function's beginning and end -/
def RetP (E : Env) (Post : Value → Env → List Res → Prop) (e : Ending) (w : World) : Prop := ∃ r E' L', e = .returned r ∧ E.Le E' ∧ St E' L' w ∧ Post r E' L'

def slots : Nat → List Value → List (Nat × Value)
  | _, [] => []
  | i, v :: l => (i, v) :: slots (i + 1) l

theorem look_slots (l : List Value) : ∀ (k i : Nat) (v : Value), look (slots k l) i = some v → k ≤ i ∧ l[i - k]? = some v := by
  induction l with
  | nil => intro k i v h; cases h
  | cons u l ih =>
    intro k i v h
    simp only [slots, look] at h
    by_cases e : k = i
    · subst e; simp at h; subst h; simp
    · rw [beq_ne e] at h
      have := ih (k + 1) i v h
      refine ⟨by omega, ?_⟩
      rw [show i - k = (i - (k + 1)) + 1 by omega]
      simpa using this.2

theorem CallS.intro {fn : Func} {k : FuncId} {l : List Value} {Post : Value → Env → List Res → Prop} (m : Nat) (hf : P.funcs[k]? = some fn) (hb : fn.body = some c) (hm : fn.ntmps = m) (hl : Nat.ble l.length m = true)
    (h : G m [] (slots 0 l) E L (c.wpIn (Wd none) 0 P (bodyPostM (Wd none) 0 P fn (RetP E Post)))) : CallS P k l.toArray E L Post := by
  intro w hw
  refine (callsIn_wide (n := 0)).1 (callsIn_of_wp_marks (F := Wd none) hf hb trivial ?_)
  have hl' : l.length ≤ m := by simpa using hl
  refine h _ _ ⟨?_, rfl, ?_⟩ hw
  · simp [hm]; omega
  · intro i v hi
    have := look_slots l 0 i v hi
    have hlt : i < l.length := (List.getElem?_eq_some_iff.1 this.2).1
    simp only [Array.getElem?_append, List.size_toArray, if_pos hlt]
    simpa using this.2

/-- What the results are read as. -/
def Rv (P : Program) (fs : List (Nat × Value)) (E : Env) (L : List Res) (r : ResultVar) (v : Value) : Prop :=
  match r with
  | .tmp t => look fs t = some v
  | .cell t ty => ∃ p, look fs t = some (.pointer (some p)) ∧ ∀ w, St E L w → (loadVar ty p).run P w = .ok v w

def Rvs (P : Program) (fs : List (Nat × Value)) (E : Env) (L : List Res) : List ResultVar → List Value → Prop
  | [], [] => True
  | r :: rs, v :: vs => Rv P fs E L r v ∧ Rvs P fs E L rs vs
  | _, _ => False

theorem Rvs.nil : Rvs P fs E L [] [] := trivial
theorem Rvs.cons {r : ResultVar} {v : Value} {rs : List ResultVar} {vs : List Value} (h : Rv P fs E L r v) (hs : Rvs P fs E L rs vs) : Rvs P fs E L (r :: rs) (v :: vs) := ⟨h, hs⟩
theorem Rv.tmp {t : Nat} {v : Value} (h : look fs t = some v) : Rv P fs E L (.tmp t) v := h

def resVal : List Value → Value
  | [v] => v
  | l => .tuple l.toArray

theorem run_mapM_rvs {f : ResultVar → Sem Value} {w : World} (hf : ∀ r v, Rv P fs E L r v → (f r).run P w = .ok v w) : ∀ (rs : List ResultVar) (vs : List Value), Rvs P fs E L rs vs → (rs.mapM f).run P w = .ok vs w := by
  intro rs
  induction rs with
  | nil => intro vs h; cases vs with
    | nil => rfl
    | cons => exact h.elim
  | cons r rs ih =>
    intro vs h
    cases vs with
    | nil => exact h.elim
    | cons v vs =>
      obtain ⟨h1, h2⟩ := h
      rw [List.mapM_cons]
      simp only [Sem.run_bind, hf r v h1, Result.andThen, ih vs h2, Sem.run_pure]

theorem Rvs.run {fn : Func} {rs : List ResultVar} {vs : List Value} {a : Act} {w : World} (hr : fn.results = rs.toArray) (h : Rvs P fs E L rs vs) (ha : Fr n ds fs a) (hw : St E L w) :
    (results fn a.tmps).run P w = .ok (resVal vs) w := by
  unfold results
  rw [hr, List.mapM_toArray]
  rw [Sem.run_bind, Sem.run_map, run_mapM_rvs (P := P) (fs := fs) (E := E) (L := L) (w := w) ?hf rs vs h]
  case hf =>
    intro r v hrv
    cases r with
    | tmp t => simp [Array.getD_eq_getD_getElem?, ha.get t v hrv]
    | cell t ty =>
      obtain ⟨p, hp, hl⟩ := hrv
      simp only [Sem.run_bind, Array.getD_eq_getD_getElem?, ha.get t _ hp, Option.getD_some, asAddr, Sem.run_pure, Result.andThen, hl w hw]
  simp only [Result.andThen]
  match vs with
  | [] => simp [resVal]
  | [v] => simp [resVal]
  | v :: u :: vs => simp [resVal]

theorem St.dropK {w : World} (k : Nat) (h : St E L w) : St E (L.drop k) w := by
  have : L = L.take k ++ L.drop k := (List.take_append_drop k L).symm
  rw [this] at h
  exact h.dropAll

theorem G_leave {fn : Func} {vs : List Value} {E0 : Env} {Post : Value → Env → List Res → Prop} {r : Value} (k : Nat) (h : Rvs P fs E L fn.results.toList vs) (he : resVal vs = r) (hE : E0.Le E) (hp : Post r E (L.drop k)) :
    G n [] fs E L (fun a w => bodyPostM (Wd ro) 0 P fn (RetP E0 Post) .ret a w) := by
  intro a w ha hw
  show LeavesInM (Wd ro) 0 P fn a.tmps (RetP E0 Post) a.defers .returning w
  rw [ha.defers]
  exact ⟨_, h.run (by simp) ha hw, r, E, _, by rw [he], hE, hw.dropK k, hp⟩
theorem G_leave_n {fn : Func} {vs : List Value} {E0 : Env} {Post : Value → Env → List Res → Prop} {r : Value} (k : Nat) (h : Rvs P fs E L fn.results.toList vs) (he : resVal vs = r) (hE : E0.Le E) (hp : Post r E (L.drop k)) :
    G n [] fs E L (fun a w => bodyPostM (Wd ro) 0 P fn (RetP E0 Post) .normal a w) := G_leave k h he hE hp

end rules
end Go.Proofs.Ytaoinojdijbhaaa
