/-
  The layer's rules: a region that draws its order; a range over a function.
-/
import Derived.Test.YtaoinojdijbhaaaSep4
import Derived.OrdersIn
namespace Go.Proofs.Ytaoinojdijbhaaa
open Go.RowKit

section draws
variable {P : Program} {ro : Option Nat} {n : Nat} {ds : List Deferred} {fs : List (Nat × Value)} {E : Env} {L : List Res} {ops : Array Oper} {Q : Exit → Act → World → Prop} {rest : List Oper} {o : Oper}

theorem wpIn_of_quiet {C : World → Prop} {a : Act} {K : Act → Prop} {K' : Act → World → Prop} {Q' : Exit → Act → World → Prop} {w : World} (hnd : ∀ c, o.op ≠ .defer c) (hw : C w) (h : ∀ a w', C w' → K a → K' a w') (hh : o.quiet P a C K) :
    o.wpIn (Wd ro) 0 P a w K' Q' := by
  obtain ⟨v, h1, h2⟩ := hh
  have h3 := h1 w hw
  refine ⟨Wd.about, ?_⟩
  rw [Oper.semAt_eq _ _ _ hnd]
  unfold Oper.quietAt at h3
  generalize (execOp a.eval o).run P w = r at *
  cases r with
  | ok x w' =>
    cases x <;> simp only [Oper.quietUpon] at h3 <;> simp only [Oper.uponIn]
    case value u =>
      obtain ⟨e1, e2⟩ := h3
      rw [e1, e2]
      exact h _ _ hw h2
    case skip =>
      obtain ⟨e1, e2⟩ := h3
      rw [e1, ← e2]
      exact h _ _ hw h2
    case enter f args =>
      obtain ⟨e1, hc⟩ := h3
      rw [e1]
      exact ⟨fun h => by simp [Wd] at h, (Wd.calls hc).mono fun e w'' ⟨he, hw''⟩ => by subst he; exact h _ _ hw'' h2⟩
  | halt x w' => simp only [Oper.quietUpon] at h3

theorem wpAnyIn_of_quiet {C : World → Prop} {md : Region.Mode} {Q1 : Act → Prop} {Q' : Exit → Act → World → Prop} (hnd : ∀ (i : Nat) (o : Oper) c, ops[i]? = some o → o.op ≠ .defer c) (hQ : ∀ a w, C w → Q1 a → Q' .normal a w) : ∀ (fuel : Nat) (listed : Array Bool) (a : Act) (w : World), C w →
    wpAnyQ P md ops C Q1 fuel listed a → wpAnyIn (Wd ro) 0 P md ops Q' fuel listed a w
  | 0, _, _, _, hw, h => ⟨h.1, hQ _ _ hw h.2⟩
  | fuel + 1, listed, a, w, hw, h => ⟨fun h0 => hQ _ _ hw (h.1 h0), fun i hi => by
      have hh := h.2 i hi
      unfold qOp at hh
      unfold wpOpIn
      split
      · rename_i ho
        simp only [ho] at hh
        exact wpAnyIn_of_quiet hnd hQ fuel _ _ _ hw hh
      · rename_i o ho
        simp only [ho] at hh
        split
        · rename_i hg; simp only [hg, if_true] at hh
          exact wpIn_of_quiet (hnd i o · ho) hw (fun a' w' hw' => wpAnyIn_of_quiet hnd hQ fuel _ a' w' hw') hh
        · rename_i hg; simp only [hg] at hh
          exact ⟨Wd.about, wpAnyIn_of_quiet hnd hQ fuel _ _ _ hw hh⟩⟩

def noDefer (l : List Oper) : Bool := l.all fun o => match o.op with | .defer _ => false | _ => true

/-- X holds in every frame of which this is known. -/
def GQ (n : Nat) (ds : List Deferred) (fs : List (Nat × Value)) (X : Act → Prop) : Prop := ∀ a, Fr n ds fs a → X a

theorem G_draw {id : Nat} {l : List Oper} (hm : P.follows .mixedOrders = true) (hB : (Region.lexB .any l.toArray && noDefer l) = true)
    (h : GQ n ds fs (wpQuiet P l.toArray (St E L) (fun a' => ∀ w', St E L w' → Q .normal a' w') l)) : G n ds fs E L ((Code.region id l.toArray true).wpIn (Wd ro) 0 P Q) := by
  intro a w ha hw
  simp only [Bool.and_eq_true, Region.lexB] at hB
  obtain ⟨⟨hB1, hB2⟩, hB3⟩ := hB
  refine wpIn_region_any hm (wpAnyIn_of_quiet (C := St E L) (Q1 := fun a' => ∀ w', St E L w' → Q .normal a' w') ?_ (fun _ w' hw' h => h w' hw') _ _ _ _ (hw.drew _) ?_)
  · intro i o c ho hc
    have hmem : o ∈ l := List.mem_of_getElem? (by simpa using ho)
    have := (List.all_eq_true.1 hB3) o hmem
    rw [hc] at this; cases this
  · have := wpAnyQ_lex (C := St E L) (md := .any) hB1 l 0 (Array.replicate l.toArray.size false) a (by simp) (by simpa using hB2) (h a ha)
    simpa using this

theorem Q_end (h : G n ds fs E L (fun a w => Q .normal a w)) : GQ n ds fs (wpQuiet P ops (St E L) (fun a' => ∀ w', St E L w' → Q .normal a' w') []) :=
  fun a ha w hw => h a w ha hw
variable {K : Act → Prop}
theorem Q_val {d : Nat} {v : Value} (hv : Val P o fs E L v) (hd : o.dst = some d) (hn : Nat.blt d n = true) (hg : Goes ops fs o)
    (h : GQ n ds ((d, v) :: fs) (wpQuiet P ops (St E L) K rest)) : GQ n ds fs (wpQuiet P ops (St E L) K (o :: rest)) := by
  intro a ha
  unfold wpQuiet
  rw [if_pos (hg.wanted ha)]
  refine ⟨v, fun w hw => ?_, ?_⟩
  · unfold Oper.quietAt; rw [hv.2 n ds a w ha hw]; exact ⟨rfl, rfl⟩
  · rw [hd]; exact h _ (ha.put hn v)
theorem Q_val0 {v : Value} (hv : Val P o fs E L v) (hd : o.dst = none) (hg : Goes ops fs o)
    (h : GQ n ds fs (wpQuiet P ops (St E L) K rest)) : GQ n ds fs (wpQuiet P ops (St E L) K (o :: rest)) := by
  intro a ha
  unfold wpQuiet
  rw [if_pos (hg.wanted ha)]
  refine ⟨v, fun w hw => ?_, ?_⟩
  · unfold Oper.quietAt; rw [hv.2 n ds a w ha hw]; exact ⟨rfl, rfl⟩
  · rw [hd]; exact h _ ha
theorem Q_callv {k : FuncId} [Ent P k] {args : Array Value} {d : Nat} {r : Value} (ht : Goesto fs o k args) (hd : o.dst = some d) (hn : Nat.blt d n = true) (hg : Goes ops fs o)
    (hc : CallV P k args E L r) (h : GQ n ds ((d, r) :: fs) (wpQuiet P ops (St E L) K rest)) : GQ n ds fs (wpQuiet P ops (St E L) K (o :: rest)) := by
  intro a ha
  unfold wpQuiet
  rw [if_pos (hg.wanted ha)]
  refine ⟨r, fun w hw => ?_, ?_⟩
  · unfold Oper.quietAt; rw [ht.run ha]; exact ⟨rfl, hc w hw⟩
  · rw [hd]; exact h _ (ha.put hn r)
theorem Q_stay {d : Nat} (hs : Stays ops fs o) (hd : o.dst = some d) (hn : Nat.blt d n = true) (h : GQ n ds ((d, undef) :: fs) (wpQuiet P ops (St E L) K rest)) :
    GQ n ds fs (wpQuiet P ops (St E L) K (o :: rest)) := by
  intro a ha
  unfold wpQuiet
  rw [if_neg (by rw [hs.wanted ha]; simp), hd]
  exact h _ (ha.put hn undef)
theorem Q_stay0 (hs : Stays ops fs o) (hd : o.dst = none) (h : GQ n ds fs (wpQuiet P ops (St E L) K rest)) :
    GQ n ds fs (wpQuiet P ops (St E L) K (o :: rest)) := by
  intro a ha
  unfold wpQuiet
  rw [if_neg (by rw [hs.wanted ha]; simp), hd]
  exact h _ ha
theorem Q_bool (i : Nat) {X : Act → Prop} {b : Bool} (hi : look fs i = some (.bool b)) (ht : b = true → GQ n ds ((i, .bool true) :: fs) X) (hf : b = false → GQ n ds ((i, .bool false) :: fs) X) : GQ n ds fs X := by
  have key : ∀ a : Act, Fr n ds fs a → Fr n ds ((i, .bool b) :: fs) a := fun a h => ⟨h.size, h.defers, fun j v hj => by
    simp only [look] at hj
    by_cases e : i = j
    · subst e; simp at hj; subst hj; exact h.get _ _ hi
    · rw [beq_ne e] at hj
      exact h.get j v hj⟩
  intro a ha
  cases b with
  | true => exact ht rfl a (key a ha)
  | false => exact hf rfl a (key a ha)
theorem Q_spell (i : Nat) {X : Act → Prop} {v : Value} (v' : Value) (hi : look fs i = some v) (hv : v = v') (h : GQ n ds ((i, v') :: fs) X) : GQ n ds fs X := by
  subst hv
  intro a ha
  refine h a ⟨ha.size, ha.defers, fun j u hj => ?_⟩
  simp only [look] at hj
  by_cases e : i = j
  · subst e; simp at hj; subst hj; exact ha.get _ _ hi
  · rw [beq_ne e] at hj
    exact ha.get j u hj
end draws

section ranges
variable {P : Program} {ro : Option Nat} {n : Nat} {ds : List Deferred} {fs : List (Nat × Value)} {E : Env} {L : List Res} {ops : Array Oper} {Q : Exit → Act → World → Prop} {rest : List Oper} {o : Oper}

/-- A call of yield, said of known memory. -/
def CallY (P : Program) (l : Nat) (args : Array Value) (E : Env) (L : List Res) (Post : Value → Env → List Res → Prop) : Prop :=
  ∀ w, St E L w → YieldAt Fence.wide 0 P l args w (RetP E Post)

theorem CallY.mono {l : Nat} {args : Array Value} {Post Post' : Value → Env → List Res → Prop} (h : CallY P l args E L Post) (hp : ∀ r E' L', E.Le E' → Post r E' L' → Post' r E' L') : CallY P l args E L Post' := fun w hw => by
  obtain ⟨fn, tmps, asn, bd, h1, h2⟩ := h w hw
  exact ⟨fn, tmps, asn, bd, h1, h2.mono fun e w' ⟨r, E', L', he, hE, hs, hq⟩ => ⟨r, E', L', he, hE, hs, hp r E' L' hE hq⟩⟩

/-- What a call's operation asks for: a round of loop l. -/
def Yieldsto (fs : List (Nat × Value)) (o : Oper) (l : Nat) (args : Array Value) : Prop :=
  ∃ f xs ts vs, o.op = .call { callee := .value f, args := xs, argTypes := ts } ∧ ev fs f = some (.func (.yield l) #[] #[]) ∧ xs.toList.mapM (ev fs) = some vs ∧ args = vs.toArray
theorem Yieldsto.mk {f : Operand} {xs : List Operand} {ts : Array TypeId} {vs : List Value} {l : Nat} {args : Array Value} (ho : o.op = .call { callee := .value f, args := xs.toArray, argTypes := ts })
    (hf : ev fs f = some (.func (.yield l) #[] #[])) (hx : xs.mapM (ev fs) = some vs) (ha : args = vs.toArray) : Yieldsto fs o l args :=
  ⟨f, _, ts, vs, ho, hf, by simpa using hx, ha⟩

theorem G_yield {l : Nat} {args : Array Value} {d : Nat} {Post : Value → Env → List Res → Prop} (ht : Yieldsto fs o l args) (hd : o.dst = some d) (hn : Nat.blt d n = true) (hg : Goes ops fs o)
    (hc : CallY P l args E L Post)
    (h : ∀ r E' L', E.Le E' → Post r E' L' → G n ds ((d, r) :: fs) E' L' (wpListIn (Wd ro) 0 P ops Q rest)) : G n ds fs E L (wpListIn (Wd ro) 0 P ops Q (o :: rest)) :=
  G_any hg (by obtain ⟨f, xs, ts, vs, ho, _⟩ := ht; rw [ho]; intro c hc; cases hc) fun a w ha hw => by
    obtain ⟨f, xs, ts, vs, ho, hf, hx, rfl⟩ := ht
    obtain ⟨fn, tmps, asn, bd, h1, h2⟩ := hc w hw
    have e1 := evs_args ha hx
    simp only [Array.toArray_toList] at e1
    have e2 := ha.eval hf
    have e : (execOp a.eval o).run P w = .ok (.round l fn tmps asn bd) w := by
      simp only [execOp, ho, resolve, e2, Deferred.ofValue, e1]
      simp [invoke, h1]
    rw [e]
    simp only [Oper.uponIn_round]
    refine ⟨fun h => by simp [Wd] at h, RoundIn.mono (R := RetP E Post) h2 ?_⟩
    rintro e w' ⟨r, E', L', rfl, hE, hs, hp⟩
    simp only [hd]
    exact h r E' L' hE hp _ _ (ha.put hn r) hs

/-- The state of a loop over a function, between two rounds. -/
def loopRec (fn : FuncId) (tmps : Array Value) (ps : Array Tmp) (assign body : Code) (D : Nat) (st : LoopState) (p : Option Code) : Obj :=
  .loop { state := st, pending := p, fn := fn, tmps := tmps, params := ps, assign := assign, body := body, defers := D }

def Begin (P : Program) (l : Nat) (body : Code) (R : Ending → World → Prop) (a : Act) (w : World) : Prop :=
  ∃ w₂, (Instr.beginRound l).run P w = .ok () w₂ ∧ body.wpIn (Wd (some l)) 0 P (roundPost P l R) a w₂

theorem G_begin {l : Nat} {body asn : Code} {R : Ending → World → Prop} {fn : FuncId} {tmps : Array Value} {ps : Array Tmp} {bd : Code} {D : Nat} {p : Option Code} {L' : List Res}
    (u : Upd L (.blk l (loopRec fn tmps ps asn bd D .ready p)) (.blk l (loopRec fn tmps ps asn bd D .busy p)) L') (h : G n ds fs E L' (body.wpIn (Wd (some l)) 0 P (roundPost P l R))) :
    G n ds fs E L (Begin P l body R) := fun a w ha hw => by
  have hb : w.heap[l]? = some (loopRec fn tmps ps asn bd D .ready p) := hw.own _ u.mem
  exact ⟨_, run_beginRound hb rfl, h a _ ha (hw.put u)⟩

theorem G_roundEnd {l : Nat} {fn : FuncId} {tmps : Array Value} {ps : Array Tmp} {asn bd : Code} {D : Nat} {st : LoopState} {p : Option Code} {L' : List Res} {E0 : Env} {Post : Value → Env → List Res → Prop}
    (u : Upd L (.blk l (loopRec fn tmps ps asn bd D st p)) (.blk l (loopRec fn tmps ps asn bd D .ready none)) L') (hE : E0.Le E) (hp : Post (.bool true) E L') :
    G n ds fs E L (fun a w => roundPost P l (RetP E0 Post) .normal a w) := fun a w ha hw => by
  have hb : w.heap[l]? = some (loopRec fn tmps ps asn bd D st p) := hw.own _ u.mem
  exact ⟨_, _, run_endRound none hb, _, E, L', rfl, hE, hw.put u, hp⟩
theorem G_roundRet {l : Nat} {fn : FuncId} {tmps : Array Value} {ps : Array Tmp} {asn bd : Code} {D : Nat} {st : LoopState} {p : Option Code} {L' : List Res} {E0 : Env} {Post : Value → Env → List Res → Prop}
    (u : Upd L (.blk l (loopRec fn tmps ps asn bd D st p)) (.blk l (loopRec fn tmps ps asn bd D .done (some .ret))) L') (hE : E0.Le E) (hp : Post (.bool false) E L') :
    G n ds fs E L (fun a w => roundPost P l (RetP E0 Post) .ret a w) := fun a w ha hw => by
  have hb : w.heap[l]? = some (loopRec fn tmps ps asn bd D st p) := hw.own _ u.mem
  exact ⟨_, _, run_endRound (some .ret) hb, _, E, L', rfl, hE, hw.put u, hp⟩
theorem G_roundExit {l id : Nat} {fn : FuncId} {tmps : Array Value} {ps : Array Tmp} {asn bd : Code} {D : Nat} {st : LoopState} {p : Option Code} {L' : List Res} {E0 : Env} {Post : Value → Env → List Res → Prop}
    (u : Upd L (.blk l (loopRec fn tmps ps asn bd D st p)) (.blk l (loopRec fn tmps ps asn bd D .done (some (.exit id)))) L') (hE : E0.Le E) (hp : Post (.bool false) E L') :
    G n ds fs E L (fun a w => roundPost P l (RetP E0 Post) (.exit id) a w) := fun a w ha hw => by
  have hb : w.heap[l]? = some (loopRec fn tmps ps asn bd D st p) := hw.own _ u.mem
  exact ⟨_, _, run_endRound (some (.exit id)) hb, _, E, L', rfl, hE, hw.put u, hp⟩

/-- A round, out of the walk of its two codes. -/
theorem CallY.round {l : Nat} {fn : FuncId} {tmps : Array Value} {ps : Array Tmp} {asn bd : Code} {D : Nat} {p : Option Code} {args : Array Value} {Post : Value → Env → List Res → Prop}
    (hm : Res.blk l (loopRec fn tmps ps asn bd D .ready p) ∈ L) (hs : args.size = ps.size) (hfr : Fr n [] fs { tmps := (ps.zip args).foldl (fun tmps (t, a) => tmps.setIfInBounds t a) tmps, defers := [] })
    (h : G n [] fs E L (asn.wpIn (Wd (some l)) 0 P (Exit.then (Begin P l bd (RetP E Post)) (fun _ _ _ => False)))) : CallY P l args E L Post := fun w hw => by
  have hb : w.heap[l]? = some (loopRec fn tmps ps asn bd D .ready p) := hw.own _ hm
  exact ⟨fn, _, asn, bd, run_yield hb hs, roundIn_of_wpIn (F := Fence.wide) trivial (h _ _ hfr hw)⟩

def mark (D : Nat) : Deferred := { target := .collected D, args := #[] }

/-- 'for .. := range g { .. }', in no round. -/
theorem G_range {g : Operand} {ps : Array Tmp} {asn bd : Code} {gf : FuncId} [Ent P gf] {cap : Array Value} (hg : ev fs g = some (.func (.func gf) #[] cap))
    (Post : Nat → Nat → Array Value → FuncId → Value → Env → List Res → Prop)
    (hc : ∀ l D tm fn, Fr n ds fs ⟨tm, ds⟩ → CallS P gf (#[.func (.yield l) #[] #[]] ++ cap) E (.blk l (loopRec fn tm ps asn bd D .ready none) :: .blk D (.deferred (some [])) :: L) (Post l D tm fn))
    (hk : ∀ l D tm fn v E' L', E.Le E' → Post l D tm fn v E' L' → ∃ st p L'', Upd L' (.blk l (loopRec fn tm ps asn bd D st p)) (.blk l (loopRec fn tm ps asn bd D .exhausted p)) L'' ∧ st ≠ .busy ∧
      (match p with
       | none => G n (mark D :: ds) fs E' L'' (fun a w => Q .normal a w)
       | some c => G n (mark D :: ds) fs E' L'' (c.wpIn (Wd none) 0 P Q))) :
    G n ds fs E L ((Code.rangeFunc g ps asn bd).wpIn (Wd none) 0 P Q) := fun a w ha hw => by
  refine wpIn_rangeFunc ?_
  intro fn _
  have hg' := ha.eval hg
  have hst : St E (.blk (w.heap.size + 1) (loopRec fn a.tmps ps asn bd w.heap.size .ready none) :: .blk w.heap.size (.deferred (some [])) :: L) ((w.alloc (.deferred (some []))).alloc (loopRec fn a.tmps ps asn bd w.heap.size .ready none)) := by
    have := (hw.alloc (.deferred (some []))).alloc (loopRec fn a.tmps ps asn bd w.heap.size .ready none)
    rwa [World.size_alloc] at this
  have hfr : Fr n ds fs ⟨a.tmps, ds⟩ := ⟨ha.size, rfl, ha.get⟩
  let W1 := (w.alloc (.deferred (some []))).alloc (loopRec fn a.tmps ps asn bd w.heap.size .ready none)
  refine ⟨w.heap.size + 1, [mark w.heap.size], W1, { target := .fn (.func gf) cap, args := #[.func (.yield (w.heap.size + 1)) #[] #[]] }, W1, gf,
    #[.func (.yield (w.heap.size + 1)) #[] #[]] ++ cap, W1, run_enterLoop_outer _ _ _ _ _, ?_, fun _ _ => trivial, ?_, fun h => by simp [Wd] at h, ?_⟩
  · simp only [resolve, hg']
    simp [go_sem]
  · simp [invoke, Ent.ent]
  · refine (Wd.calls (hc (w.heap.size + 1) w.heap.size a.tmps fn hfr _ hst)).mono ?_
    rintro e w3 ⟨r, E', L', rfl, hE, hs, hp⟩
    obtain ⟨st, p, L'', u, hb, hq⟩ := hk _ _ _ _ _ _ _ hE hp
    have hb3 : w3.heap[w.heap.size + 1]? = some (loopRec fn a.tmps ps asn bd w.heap.size st p) := hs.own _ u.mem
    refine ⟨p, _, run_endLoop hb3 hb, ?_⟩
    have hs4 := hs.put u
    have hfr4 : Fr n (mark w.heap.size :: ds) fs { a with defers := [mark w.heap.size] ++ a.defers } := ⟨ha.size, by simp [ha.defers], ha.get⟩
    cases p with
    | none => exact hq _ _ hfr4 hs4
    | some c => exact hq _ _ hfr4 hs4

/-- A function's end, where marks of loops stand among its deferred calls. -/
theorem G_leave_m {fn : Func} {R : Ending → World → Prop} {D : Nat} {L' : List Res} (u : Upd L (.blk D (.deferred (some []))) (.blk D (.deferred none)) L')
    (h : G n ds fs E L' (fun a w => bodyPostM (Wd ro) 0 P fn R .ret a w)) : G n (mark D :: ds) fs E L (fun a w => bodyPostM (Wd ro) 0 P fn R .ret a w) := fun a w ha hw => by
  show LeavesInM (Wd ro) 0 P fn a.tmps R a.defers .returning w
  rw [ha.defers]
  have hb : w.heap[D]? = some (.deferred (some [])) := hw.own _ u.mem
  refine ⟨by simp, .inl ⟨D, _, rfl, run_takeDeferred hb, ?_⟩⟩
  have := h ⟨a.tmps, ds⟩ _ ⟨ha.size, rfl, ha.get⟩ (hw.put u)
  exact this

/-- The blocks of loops' marks. -/
def dblk (D : Nat) : Res := .blk D (.deferred (some []))
theorem G_leave_ms {fn : Func} {R : Ending → World → Prop} (Ds : List Nat) (h : G n [] fs E L (fun a w => bodyPostM (Wd ro) 0 P fn R .ret a w)) :
    G n (Ds.map mark) fs E (Ds.map dblk ++ L) (fun a w => bodyPostM (Wd ro) 0 P fn R .ret a w) := by
  induction Ds with
  | nil => exact h
  | cons D Ds ih => exact G_leave_m (.head _ _ _) ih.drop

theorem CallS.perm {k : FuncId} {args : Array Value} {L' : List Res} {Post : Value → Env → List Res → Prop} (p : L.Perm L') (h : CallS P k args E L' Post) : CallS P k args E L Post := fun w hw => h w (hw.perm p)
theorem CallY.perm {l : Nat} {args : Array Value} {L' : List Res} {Post : Value → Env → List Res → Prop} (p : L.Perm L') (h : CallY P l args E L' Post) : CallY P l args E L Post := fun w hw => h w (hw.perm p)

/-- How a call of yield must end. -/
def YPost {α : Type} (M : List Res) (Inv InvX : List α → Env → List Res → Prop) (pre : List α) (r : Value) (E' : Env) (L' : List Res) : Prop :=
  ∃ L3, L' = M ++ L3 ∧ ((r = .bool true ∧ Inv pre E' L3) ∨ (r = .bool false ∧ InvX pre E' L3))

/-- An iterator that yields xs, in this order, and then ends; it owns Li. -/
def Iter {α : Type} (P : Program) (gf : FuncId) (cap : Array Value) (enc : α → Array Value) (xs : List α) (E : Env) (Li : List Res) : Prop :=
  ∀ (l : Nat) (E1 : Env) (L1 : List Res) (Inv InvX : List α → Env → List Res → Prop), E.Le E1 → Inv [] E1 L1 →
    (∀ pre x E2 L2 M, E1.Le E2 → pre ++ [x] <+: xs → Inv pre E2 L2 → CallY P l (enc x) E2 (M ++ L2) (YPost M Inv InvX (pre ++ [x]))) →
    CallS P gf (#[.func (.yield l) #[] #[]] ++ cap) E1 (Li ++ L1) (fun _ E' L' => ∃ M L3, L' = M ++ L3 ∧ (Inv xs E' L3 ∨ ∃ pre, pre <+: xs ∧ InvX pre E' L3))

def pset : List Nat → List Value → List (Nat × Value) → List (Nat × Value)
  | p :: ps, v :: vs, fs => pset ps vs ((p, v) :: fs)
  | _, _, fs => fs
theorem Fr.pset : ∀ (ps : List Nat) (vs : List Value) (fs : List (Nat × Value)) (tm : Array Value), Fr n ds fs ⟨tm, ds⟩ → (ps.all fun p => Nat.blt p n) = true →
    Fr n [] (pset ps vs fs) { tmps := (ps.zip vs).foldl (fun tmps (t, a) => tmps.setIfInBounds t a) tm, defers := [] } := by
  intro ps
  induction ps with
  | nil => intro vs fs tm h _; cases vs <;> exact ⟨h.size, rfl, h.get⟩
  | cons p ps ih =>
    intro vs fs tm h hp
    simp only [List.all_cons, Bool.and_eq_true] at hp
    cases vs with
    | nil => exact ⟨h.size, rfl, h.get⟩
    | cons v vs =>
      have h' := h.put hp.1 v
      exact ih vs _ _ h' hp.2

def RInv {α σ : Type} (l : Nat) (rec : LoopState → Option Code → Obj) (D : Nat) (sE : σ → Env) (A : σ → List Res) (I : List α → σ → Prop) (pre : List α) (E' : Env) (L' : List Res) : Prop :=
  ∃ s, I pre s ∧ E' = sE s ∧ L' = .blk l (rec .ready none) :: dblk D :: A s
def RInvX {α σ : Type} (l : Nat) (rec : LoopState → Option Code → Obj) (D : Nat) (sE : σ → Env) (A : σ → List Res) (Ix : Code → List α → σ → Prop) (pre : List α) (E' : Env) (L' : List Res) : Prop :=
  ∃ c s, Ix c pre s ∧ E' = sE s ∧ L' = .blk l (rec .done (some c)) :: dblk D :: A s

/-- 'for x := range seq { .. }', in no round, over an iterator that has its contract. -/
theorem G_rangeI {α σ : Type} {g : Operand} {ps : List Tmp} {asn bd : Code} {gf : FuncId} [Ent P gf] {cap : Array Value} {enc : α → List Value} {xs : List α} {Li : List Res} (hg : ev fs g = some (.func (.func gf) #[] cap))
    (it : Iter P gf cap (fun x => (enc x).toArray) xs E Li) (sE : σ → Env) (A : σ → List Res) (I : List α → σ → Prop) (Ix : Code → List α → σ → Prop) (s0 : σ) (h0 : I [] s0) (hE0 : sE s0 = E) (hL : L.Perm (Li ++ A s0))
    (hps : (ps.all fun p => Nat.blt p n) = true) (henc : ∀ x, (enc x).length = ps.length)
    (hround : ∀ l D tm fn M pre x s, pre ++ [x] <+: xs → I pre s → E.Le (sE s) →
      G n [] (pset ps (enc x) fs) (sE s) (.blk l (loopRec fn tm ps.toArray asn bd D .ready none) :: dblk D :: (A s ++ M))
        (asn.wpIn (Wd (some l)) 0 P (Exit.then (Begin P l bd (RetP (sE s) (YPost M (RInv l (loopRec fn tm ps.toArray asn bd D) D sE A I) (RInvX l (loopRec fn tm ps.toArray asn bd D) D sE A Ix) (pre ++ [x])))) (fun _ _ _ => False))))
    (hdone : ∀ D s, I xs s → E.Le (sE s) → G n (mark D :: ds) fs (sE s) (dblk D :: A s) (fun a w => Q .normal a w))
    (hstop : ∀ D c pre s, pre <+: xs → Ix c pre s → E.Le (sE s) → G n (mark D :: ds) fs (sE s) (dblk D :: A s) (c.wpIn (Wd none) 0 P Q)) :
    G n ds fs E L ((Code.rangeFunc g ps.toArray asn bd).wpIn (Wd none) 0 P Q) := by
  refine G_range (gf := gf) hg (fun l D tm fn _ E' L' => ∃ M L3, L' = M ++ L3 ∧ (RInv l (loopRec fn tm ps.toArray asn bd D) D sE A I xs E' L3 ∨ ∃ pre, pre <+: xs ∧ RInvX l (loopRec fn tm ps.toArray asn bd D) D sE A Ix pre E' L3)) ?_ ?_
  · intro l D tm fn hfr
    refine CallS.perm ?_ (it l E (.blk l (loopRec fn tm ps.toArray asn bd D .ready none) :: dblk D :: A s0) _ _ (.refl E) ⟨s0, h0, hE0.symm, rfl⟩ ?_)
    · refine ((hL.cons _).cons _).trans ?_
      have : ∀ a b : Res, (a :: b :: (Li ++ A s0)).Perm (Li ++ (a :: b :: A s0)) := fun a b => by
        have h1 := List.perm_append_comm (l₁ := [a, b]) (l₂ := Li)
        have h2 := h1.append_right (A s0)
        simpa using h2
      exact this _ _
    · rintro pre x E2 L2 M hE2 hpre ⟨s, hs, rfl, rfl⟩
      refine CallY.perm (L' := .blk l (loopRec fn tm ps.toArray asn bd D .ready none) :: dblk D :: (A s ++ M)) (by simpa using List.perm_append_comm (l₁ := M) (l₂ := .blk l (loopRec fn tm ps.toArray asn bd D .ready none) :: dblk D :: A s)) ?_
      refine CallY.round (p := none) (.head _) (by simp [henc]) (fs := pset ps (enc x) fs) ?_ (hround l D tm fn M pre x s hpre hs hE2)
      have := Fr.pset ps (enc x) fs tm hfr hps
      simpa using this
  · rintro l D tm fn v E' L' hE ⟨M, L3, rfl, (⟨s, hs, rfl, rfl⟩ | ⟨pre, hpre, c, s, hs, rfl, rfl⟩)⟩
    · refine ⟨.ready, none, _, Upd.app M (.head _ _ _), by simp, ?_⟩
      exact G.dropAll M (G.drop (hdone D s hs hE))
    · refine ⟨.done, some c, _, Upd.app M (.head _ _ _), by simp, ?_⟩
      exact G.dropAll M (G.drop (hstop D c pre s hpre hs hE))

/-- A round's end. -/
theorem G_rEnd {α σ : Type} {l D : Nat} {fn : FuncId} {tm : Array Value} {ps : Array Tmp} {asn bd : Code} {sE : σ → Env} {A : σ → List Res} {I : List α → σ → Prop} {Ix : Code → List α → σ → Prop} {M : List Res} {pre : List α} {E0 : Env} (s : σ)
    (hs : I pre s) (hE : sE s = E) (hE0 : E0.Le E) (hL : L = .blk l (loopRec fn tm ps asn bd D .busy none) :: dblk D :: (A s ++ M)) :
    G n ds fs E L (fun a w => roundPost P l (RetP E0 (YPost M (RInv l (loopRec fn tm ps asn bd D) D sE A I) (RInvX l (loopRec fn tm ps asn bd D) D sE A Ix) pre)) .normal a w) := by
  subst hL
  intro a w ha hw
  have hb : w.heap[l]? = some (loopRec fn tm ps asn bd D .busy none) := hw.own _ (.head _)
  refine ⟨_, _, run_endRound none hb, _, E, M ++ (.blk l (loopRec fn tm ps asn bd D .ready none) :: dblk D :: A s), rfl, hE0, ?_, ⟨_, rfl, .inl ⟨rfl, s, hs, hE.symm, rfl⟩⟩⟩
  refine (hw.put (.head _ _ _)).perm ?_
  have hp : (.blk l (loopRec fn tm ps asn bd D .ready none) :: dblk D :: A s ++ M : List Res).Perm (M ++ (.blk l (loopRec fn tm ps asn bd D .ready none) :: dblk D :: A s)) := List.perm_append_comm
  exact hp
theorem G_rRet {α σ : Type} {l D : Nat} {fn : FuncId} {tm : Array Value} {ps : Array Tmp} {asn bd : Code} {sE : σ → Env} {A : σ → List Res} {I : List α → σ → Prop} {Ix : Code → List α → σ → Prop} {M : List Res} {pre : List α} {E0 : Env} (s : σ)
    (hs : Ix .ret pre s) (hE : sE s = E) (hE0 : E0.Le E) (hL : L = .blk l (loopRec fn tm ps asn bd D .busy none) :: dblk D :: (A s ++ M)) :
    G n ds fs E L (fun a w => roundPost P l (RetP E0 (YPost M (RInv l (loopRec fn tm ps asn bd D) D sE A I) (RInvX l (loopRec fn tm ps asn bd D) D sE A Ix) pre)) .ret a w) := by
  subst hL
  intro a w ha hw
  have hb : w.heap[l]? = some (loopRec fn tm ps asn bd D .busy none) := hw.own _ (.head _)
  refine ⟨_, _, run_endRound (some .ret) hb, _, E, M ++ (.blk l (loopRec fn tm ps asn bd D .done (some .ret)) :: dblk D :: A s), rfl, hE0, ?_, ⟨_, rfl, .inr ⟨rfl, .ret, s, hs, hE.symm, rfl⟩⟩⟩
  refine (hw.put (.head _ _ _)).perm ?_
  have hp : (.blk l (loopRec fn tm ps asn bd D .done (some .ret)) :: dblk D :: A s ++ M : List Res).Perm (M ++ (.blk l (loopRec fn tm ps asn bd D .done (some .ret)) :: dblk D :: A s)) := List.perm_append_comm
  exact hp
theorem G_rExit {α σ : Type} {l D id : Nat} {fn : FuncId} {tm : Array Value} {ps : Array Tmp} {asn bd : Code} {sE : σ → Env} {A : σ → List Res} {I : List α → σ → Prop} {Ix : Code → List α → σ → Prop} {M : List Res} {pre : List α} {E0 : Env} (s : σ)
    (hs : Ix (.exit id) pre s) (hE : sE s = E) (hE0 : E0.Le E) (hL : L = .blk l (loopRec fn tm ps asn bd D .busy none) :: dblk D :: (A s ++ M)) :
    G n ds fs E L (fun a w => roundPost P l (RetP E0 (YPost M (RInv l (loopRec fn tm ps asn bd D) D sE A I) (RInvX l (loopRec fn tm ps asn bd D) D sE A Ix) pre)) (.exit id) a w) := by
  subst hL
  intro a w ha hw
  have hb : w.heap[l]? = some (loopRec fn tm ps asn bd D .busy none) := hw.own _ (.head _)
  refine ⟨_, _, run_endRound (some (.exit id)) hb, _, E, M ++ (.blk l (loopRec fn tm ps asn bd D .done (some (.exit id))) :: dblk D :: A s), rfl, hE0, ?_, ⟨_, rfl, .inr ⟨rfl, .exit id, s, hs, hE.symm, rfl⟩⟩⟩
  refine (hw.put (.head _ _ _)).perm ?_
  have hp : (.blk l (loopRec fn tm ps asn bd D .done (some (.exit id))) :: dblk D :: A s ++ M : List Res).Perm (M ++ (.blk l (loopRec fn tm ps asn bd D .done (some (.exit id))) :: dblk D :: A s)) := List.perm_append_comm
  exact hp

end ranges
end Go.Proofs.Ytaoinojdijbhaaa
