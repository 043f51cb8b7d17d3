/-
  More rules: a test whose two ways meet again at once; pieces to the front; deferred calls; strings cut; more of structs in memory.
-/
import Derived.Test.YtaoinojdijbhaaaSep11
import Derived.DefersIn
set_option linter.unusedSimpArgs false
set_option linter.unusedVariables false
namespace Go.Proofs.Ytaoinojdijbhaaa
open Go.RowKit

/-! ### Ways that meet again -/
def JQ (n : Nat) (ds : List Deferred) (fs : List (Nat × Value)) (E : Env) (L : List Res) : Exit → Act → World → Prop := fun e a w => e = .normal ∧ Fr n ds fs a ∧ St E L w

section joins
variable {P : Program} {ro : Option Nat} {n : Nat} {ds : List Deferred} {fs : List (Nat × Value)} {E : Env} {L : List Res} {ops : Array Oper} {Q : Exit → Act → World → Prop}

theorem uponIn_mono2 {F : Fence} {m : Nat} {o : Oper} {a : Act} {K K' : Act → World → Prop} {Q1 Q2 : Exit → Act → World → Prop} {r : Result Next} (h : ∀ a w, K a w → K' a w) (hx : ∀ e a w, e ≠ .normal → ¬ Q1 e a w)
    (hh : o.uponIn F m P a K Q1 r) : o.uponIn F m P a K' Q2 r := by
  cases r with
  | ok x w' =>
    cases x <;> simp only [Oper.uponIn] at hh ⊢ <;>
      first
        | exact h _ _ hh
        | exact ⟨hh.1, CallsIn.mono hh.2 (fun e w'' he => by cases e <;> first | exact h _ _ he | exact (hx _ _ _ (by simp) he).elim | (obtain ⟨a1, w1, q1⟩ := he; exact (hx _ _ _ (by simp) q1).elim))⟩
        | exact ⟨hh.1, RowsIn.mono hh.2 (fun _ _ he => h _ _ he)⟩
        | exact ⟨hh.1, RoundIn.mono hh.2 (fun e w'' he => by cases e <;> first | exact h _ _ he | exact (hx _ _ _ (by simp) he).elim | (obtain ⟨a1, w1, q1⟩ := he; exact (hx _ _ _ (by simp) q1).elim))⟩
  | halt x w' => cases x <;> simp only [Oper.uponIn] at hh ⊢ <;> first | exact (hx _ _ _ (by simp) hh).elim | exact hh

theorem wpListIn_app {F : Fence} {m : Nat} {Q1 : Exit → Act → World → Prop} (l2 : List Oper) (hx : ∀ e a w, e ≠ .normal → ¬ Q1 e a w) (hQ : ∀ a w, Q1 .normal a w → wpListIn F m P ops Q l2 a w) :
    ∀ (l1 : List Oper) (a : Act) (w : World), wpListIn F m P ops Q1 l1 a w → wpListIn F m P ops Q (l1 ++ l2) a w := by
  intro l1
  induction l1 with
  | nil => intro a w h; exact hQ a w h
  | cons o l1 ih =>
    intro a w h
    simp only [List.cons_append]
    unfold wpListIn at h ⊢
    split at h
    · rename_i hw
      rw [if_pos hw]
      exact ⟨h.1, uponIn_mono2 (fun a w hk => ih a w hk) hx h.2⟩
    · rename_i hw
      rw [if_neg hw]
      exact ⟨h.1, ih _ _ h.2⟩

theorem G_split {l : List Oper} (k : Nat) (fs' : List (Nat × Value)) (h1 : G n ds fs E L (wpListIn (Wd ro) 0 P ops (JQ n ds fs' E L) (l.take k))) (h2 : G n ds fs' E L (wpListIn (Wd ro) 0 P ops Q (l.drop k))) :
    G n ds fs E L (wpListIn (Wd ro) 0 P ops Q l) := fun a w ha hw => by
  have := wpListIn_app (Q := Q) (Q1 := JQ n ds fs' E L) (l.drop k) (fun e a w hne hq => hne hq.1) (fun a w hq => h2 a w hq.2.1 hq.2.2) (l.take k) a w (h1 a w ha hw)
  rwa [List.take_append_drop] at this

theorem Fr.unlit {i d : Nat} {b b' : Bool} {v : Value} {a : Act} (hi : look fs i = some (.bool b)) (e : b = b') (h : Fr n ds ((d, v) :: (i, .bool b') :: fs) a) : Fr n ds ((d, v) :: fs) a := by
  refine ⟨h.size, h.defers, fun j u hj => h.get j u ?_⟩
  simp only [look] at hj ⊢
  by_cases e1 : d = j
  · subst e1; simpa using hj
  · rw [beq_ne e1] at hj ⊢
    simp only [cond_false] at hj ⊢
    by_cases e2 : i = j
    · subst e2 e
      rw [hi] at hj
      simpa using hj
    · rw [beq_ne e2]
      exact hj

/-- Where a way comes to the place of meeting: the first k slots are new. -/
theorem look_end {fs1 : List (Nat × Value)} {d : Nat} {v : Value} (k : Nat) (hfs : fs1.drop k = fs) (hd : look fs1 d = some v) (hf : ((fs1.take k).all fun p => Nat.beq p.1 d || (look fs p.1).isNone) = true) :
    ∀ i u, look ((d, v) :: fs) i = some u → look fs1 i = some u := by
  intro i u hu
  simp only [look] at hu
  by_cases e1 : d = i
  · subst e1
    simp at hu
    rw [hd, hu]
  · rw [beq_ne e1] at hu
    simp only [cond_false] at hu
    subst hfs
    have key : ∀ l : List (Nat × Value), (l.all fun p => Nat.beq p.1 d || (look (fs1.drop k) p.1).isNone) = true → ∀ r, look (fs1.drop k) i = some u → r = fs1.drop k → look (l ++ r) i = some u := by
      intro l
      induction l with
      | nil => intro _ r h hr; subst hr; exact h
      | cons p l ih =>
        intro hl r h hr
        simp only [List.all_cons, Bool.and_eq_true, Bool.or_eq_true] at hl
        obtain ⟨j, w⟩ := p
        simp only [List.cons_append, look]
        have hne : j ≠ i := by
          intro e
          subst e
          rcases hl.1 with h1 | h1
          · exact e1 (Nat.eq_of_beq_eq_true h1).symm
          · rw [h] at h1; cases h1
        rw [beq_ne hne]
        exact ih hl.2 r h hr
    have := key (fs1.take k) hf _ hu rfl
    rwa [List.take_append_drop] at this
theorem JQ_end {fs1 : List (Nat × Value)} {d : Nat} {v : Value} (k : Nat) (hfs : fs1.drop k = fs) (hd : look fs1 d = some v) (hf : ((fs1.take k).all fun p => Nat.beq p.1 d || (look fs p.1).isNone) = true) :
    G n ds fs1 E L (fun a w => JQ n ds ((d, v) :: fs) E L .normal a w) := fun a w ha hw => ⟨rfl, ⟨ha.size, ha.defers, fun i u hu => ha.get i u (look_end k hfs hd hf i u hu)⟩, hw⟩
theorem FQ_end {C : World → Prop} {fs1 : List (Nat × Value)} {d : Nat} {v : Value} (k : Nat) (hfs : fs1.drop k = fs) (hd : look fs1 d = some v) (hf : ((fs1.take k).all fun p => Nat.beq p.1 d || (look fs p.1).isNone) = true) :
    GQ n ds fs1 (wpQuiet P ops C (Fr n ds ((d, v) :: fs)) []) := fun a ha => ⟨ha.size, ha.defers, fun i u hu => ha.get i u (look_end k hfs hd hf i u hu)⟩

/-- A test, and what hangs on it up to where its two ways meet: the slot d bears one value or the other. -/
theorem G_join {l : List Oper} (k i d : Nat) {b : Bool} {vt vf : Value} (hi : look fs i = some (.bool b))
    (ht : b = true → G n ds ((i, .bool true) :: fs) E L (wpListIn (Wd ro) 0 P ops (JQ n ds ((d, vt) :: (i, .bool true) :: fs) E L) (l.take k)))
    (hf : b = false → G n ds ((i, .bool false) :: fs) E L (wpListIn (Wd ro) 0 P ops (JQ n ds ((d, vf) :: (i, .bool false) :: fs) E L) (l.take k)))
    (h : G n ds ((d, bif b then vt else vf) :: fs) E L (wpListIn (Wd ro) 0 P ops Q (l.drop k))) : G n ds fs E L (wpListIn (Wd ro) 0 P ops Q l) := by
  refine G.bool i hi (fun e => ?_) (fun e => ?_)
  · refine G_split k _ (ht e) ?_
    intro a w ha hw
    refine h a w ?_ hw
    have := ha.unlit hi e
    rw [e]; exact this
  · refine G_split k _ (hf e) ?_
    intro a w ha hw
    refine h a w ?_ hw
    have := ha.unlit hi e
    rw [e]; exact this
theorem G_joinAnd {l : List Oper} (k i d : Nat) {b y : Bool} (hi : look fs i = some (.bool b))
    (ht : b = true → G n ds ((i, .bool true) :: fs) E L (wpListIn (Wd ro) 0 P ops (JQ n ds ((d, .bool y) :: (i, .bool true) :: fs) E L) (l.take k)))
    (hf : b = false → G n ds ((i, .bool false) :: fs) E L (wpListIn (Wd ro) 0 P ops (JQ n ds ((d, .bool false) :: (i, .bool false) :: fs) E L) (l.take k)))
    (h : G n ds ((d, .bool (b && y)) :: fs) E L (wpListIn (Wd ro) 0 P ops Q (l.drop k))) : G n ds fs E L (wpListIn (Wd ro) 0 P ops Q l) :=
  G_join k i d hi ht hf (by cases b <;> exact h)
theorem G_joinOr {l : List Oper} (k i d : Nat) {b y : Bool} (hi : look fs i = some (.bool b))
    (ht : b = true → G n ds ((i, .bool true) :: fs) E L (wpListIn (Wd ro) 0 P ops (JQ n ds ((d, .bool true) :: (i, .bool true) :: fs) E L) (l.take k)))
    (hf : b = false → G n ds ((i, .bool false) :: fs) E L (wpListIn (Wd ro) 0 P ops (JQ n ds ((d, .bool y) :: (i, .bool false) :: fs) E L) (l.take k)))
    (h : G n ds ((d, .bool (b || y)) :: fs) E L (wpListIn (Wd ro) 0 P ops Q (l.drop k))) : G n ds fs E L (wpListIn (Wd ro) 0 P ops Q l) :=
  G_join k i d hi ht hf (by cases b <;> exact h)

theorem wpQuiet_app {C : World → Prop} {Q1 Q2 : Act → Prop} (l2 : List Oper) (hQ : ∀ a, Q1 a → wpQuiet P ops C Q2 l2 a) : ∀ (l1 : List Oper) (a : Act), wpQuiet P ops C Q1 l1 a → wpQuiet P ops C Q2 (l1 ++ l2) a := by
  intro l1
  induction l1 with
  | nil => intro a h; exact hQ a h
  | cons o l1 ih =>
    intro a h
    simp only [List.cons_append]
    unfold wpQuiet at h ⊢
    split at h
    · rename_i hw
      rw [if_pos hw]
      exact Oper.quiet_mono (fun a hk => ih a hk) h
    · rename_i hw
      rw [if_neg hw]
      exact ih _ h
theorem Q_split {C : World → Prop} {K : Act → Prop} {l : List Oper} (k : Nat) (fs' : List (Nat × Value)) (h1 : GQ n ds fs (wpQuiet P ops C (Fr n ds fs') (l.take k))) (h2 : GQ n ds fs' (wpQuiet P ops C K (l.drop k))) :
    GQ n ds fs (wpQuiet P ops C K l) := fun a ha => by
  have := wpQuiet_app (Q2 := K) (Q1 := Fr n ds fs') (l.drop k) (fun a hq => h2 a hq) (l.take k) a (h1 a ha)
  rwa [List.take_append_drop] at this
theorem Q_join {C : World → Prop} {K : Act → Prop} {l : List Oper} (k i d : Nat) {b : Bool} {vt vf : Value} (hi : look fs i = some (.bool b))
    (ht : b = true → GQ n ds ((i, .bool true) :: fs) (wpQuiet P ops C (Fr n ds ((d, vt) :: (i, .bool true) :: fs)) (l.take k)))
    (hf : b = false → GQ n ds ((i, .bool false) :: fs) (wpQuiet P ops C (Fr n ds ((d, vf) :: (i, .bool false) :: fs)) (l.take k)))
    (h : GQ n ds ((d, bif b then vt else vf) :: fs) (wpQuiet P ops C K (l.drop k))) : GQ n ds fs (wpQuiet P ops C K l) := by
  refine Q_bool i hi (fun e => ?_) (fun e => ?_)
  · refine Q_split k _ (ht e) ?_
    intro a ha
    refine h a ?_
    have := ha.unlit hi e
    rw [e]; exact this
  · refine Q_split k _ (hf e) ?_
    intro a ha
    refine h a ?_
    have := ha.unlit hi e
    rw [e]; exact this
theorem Q_joinAnd {C : World → Prop} {K : Act → Prop} {l : List Oper} (k i d : Nat) {b y : Bool} (hi : look fs i = some (.bool b))
    (ht : b = true → GQ n ds ((i, .bool true) :: fs) (wpQuiet P ops C (Fr n ds ((d, .bool y) :: (i, .bool true) :: fs)) (l.take k)))
    (hf : b = false → GQ n ds ((i, .bool false) :: fs) (wpQuiet P ops C (Fr n ds ((d, .bool false) :: (i, .bool false) :: fs)) (l.take k)))
    (h : GQ n ds ((d, .bool (b && y)) :: fs) (wpQuiet P ops C K (l.drop k))) : GQ n ds fs (wpQuiet P ops C K l) :=
  Q_join k i d hi ht hf (by cases b <;> exact h)
theorem Q_joinOr {C : World → Prop} {K : Act → Prop} {l : List Oper} (k i d : Nat) {b y : Bool} (hi : look fs i = some (.bool b))
    (ht : b = true → GQ n ds ((i, .bool true) :: fs) (wpQuiet P ops C (Fr n ds ((d, .bool true) :: (i, .bool true) :: fs)) (l.take k)))
    (hf : b = false → GQ n ds ((i, .bool false) :: fs) (wpQuiet P ops C (Fr n ds ((d, .bool y) :: (i, .bool false) :: fs)) (l.take k)))
    (h : GQ n ds ((d, .bool (b || y)) :: fs) (wpQuiet P ops C K (l.drop k))) : GQ n ds fs (wpQuiet P ops C K l) :=
  Q_join k i d hi ht hf (by cases b <;> exact h)

theorem G_condS {x : Operand} {b : Bool} {c c' : Code} (hx : ev fs x = some (.bool b)) (hf : b = false → G n ds fs E L (c'.wpIn (Wd ro) 0 P Q)) (ht : b = true → G n ds fs E L (c.wpIn (Wd ro) 0 P Q)) :
    G n ds fs E L ((Code.cond x c c').wpIn (Wd ro) 0 P Q) := G_cond hx ht hf
/-- Two ways of a test that both come out behind it: what is known there. -/
theorem G_condJ {x : Operand} {b : Bool} {c c' : Code} (fs' : Bool → List (Nat × Value)) (L' : Bool → List Res) (hx : ev fs x = some (.bool b))
    (ht : b = true → G n ds fs E L (c.wpIn (Wd ro) 0 P (JQ n ds (fs' true) E (L' true)))) (hf : b = false → G n ds fs E L (c'.wpIn (Wd ro) 0 P (JQ n ds (fs' false) E (L' false))))
    (h : G n ds (fs' b) E (L' b) (fun a w => Q .normal a w)) : G n ds fs E L ((Code.cond x c c').wpIn (Wd ro) 0 P Q) := by
  refine G_cond hx (fun e => ?_) (fun e => ?_)
  · subst e
    intro a w ha hw
    refine wpIn_mono (ht rfl a w ha hw) ?_
    rintro e a' w' ⟨rfl, h1, h2⟩
    exact h a' w' h1 h2
  · subst e
    intro a w ha hw
    refine wpIn_mono (hf rfl a w ha hw) ?_
    rintro e a' w' ⟨rfl, h1, h2⟩
    exact h a' w' h1 h2
theorem JQ_endL {fs' : List (Nat × Value)} {L' : List Res} (hs : Sub fs' fs) (hL : L = L') : G n ds fs E L (fun a w => JQ n ds fs' E L' .normal a w) := fun a w ha hw => ⟨rfl, ha.sub hs, by rw [← hL]; exact hw⟩
end joins

section more
variable {P : Program} {ro : Option Nat} {n : Nat} {ds : List Deferred} {fs : List (Nat × Value)} {E : Env} {L L' : List Res} {X : Act → World → Prop} {ops : Array Oper} {Q : Exit → Act → World → Prop} {rest : List Oper} {o : Oper}
theorem G.front {r : Res} (d : Del L r L') (h : G n ds fs E (r :: L') X) : G n ds fs E L X := G.perm _ d.perm h

/-! ### Deferred calls -/
theorem G_defer {k : FuncId} {f : Operand} {ts : Array TypeId} {cap : Array Value} (ho : o.op = .defer { callee := .value f, args := #[], argTypes := ts })
    (hf : ev fs f = some (.func (.func k) #[] cap)) (hd : o.dst = none) (hg : Goes ops fs o) (hr : ro = none)
    (h : G n (⟨.fn (.func k) cap, #[]⟩ :: ds) fs E L (wpListIn (Wd ro) 0 P ops Q rest)) : G n ds fs E L (wpListIn (Wd ro) 0 P ops Q (o :: rest)) := by
  subst hr
  intro a w ha hw
  unfold wpListIn
  rw [if_pos (hg.wanted ha)]
  refine ⟨Wd.about, ?_⟩
  rw [show (Wd none).round = none from rfl, Oper.semAt_none]
  have e2 := ha.eval hf
  have e : (execOp a.eval o).run P w = .ok (.defer ⟨.fn (.func k) cap, #[]⟩) w := by
    simp [execOp, ho, resolve, e2, Deferred.ofValue]
  rw [e]
  simp only [Oper.uponIn, hd]
  exact h _ _ ⟨ha.size, by simp [Act.put, ha.defers], fun i v hi => ha.get i v hi⟩ hw

/-- A function that is called as a deferred one, while the frame below returns. -/
def CallD (P : Program) (k : FuncId) (args : Array Value) (E : Env) (L : List Res) (Post : Value → Env → List Res → Prop) : Prop :=
  ∀ w, St E L w → CallsDIn (Wd none) 0 P k args .returning w (fun e u w' => u = .returning ∧ ∃ r E' L', e = .returned r ∧ E.Le E' ∧ St E' L' w' ∧ Post r E' L')

theorem CallD.intro {fn : Func} {k : FuncId} {c : Code} {l : List Value} {Post : Value → Env → List Res → Prop} (m : Nat) (hf : P.funcs[k]? = some fn) (hb : fn.body = some c) (hm : fn.ntmps = m) (hl : Nat.ble l.length m = true)
    (h : G m [] (slots 0 l) E L (c.wpIn (Wd none) 0 P (bodyPost P fn (RetP E Post)))) : CallD P k l.toArray E L Post := by
  intro w hw
  refine callsDIn_of_wp (F := Wd none) hf hb trivial ?_
  have hl' : l.length ≤ m := by simpa using hl
  refine h _ _ ⟨?_, rfl, ?_⟩ hw
  · simp [hm]; omega
  · intro i v hi
    have := look_slots l 0 i v hi
    have hlt : i < l.length := (List.getElem?_eq_some_iff.1 this.2).1
    simp only [Array.getElem?_append, List.size_toArray, if_pos hlt]
    simpa using this.2

/-- A function's end, one deferred call outstanding. -/
theorem G_leave_d {fn : Func} {k : FuncId} [Ent P k] {cap : Array Value} {R : Ending → World → Prop} {Post : Value → Env → List Res → Prop} (hc : CallD P k cap E L Post)
    (h : ∀ r E' L', E.Le E' → Post r E' L' → G n [] fs E' L' (fun a w => bodyPostM (Wd none) 0 P fn R .ret a w)) :
    G n [⟨.fn (.func k) cap, #[]⟩] fs E L (fun a w => bodyPostM (Wd none) 0 P fn R .ret a w) := by
  intro a w ha hw
  show LeavesInM (Wd none) 0 P fn a.tmps R a.defers .returning w
  rw [ha.defers]
  refine ⟨by simp, .inr ⟨fun h => by simp [Wd] at h, .func k, cap, k, cap, rfl, ?_, fun _ _ => trivial, ?_⟩⟩
  · simp [invoke, Ent.ent]
  · refine (hc w hw).mono ?_
    rintro e u w' ⟨rfl, r, E', L', rfl, hE, hs, hp⟩
    have := h r E' L' hE hp ⟨a.tmps, []⟩ w' ⟨ha.size, rfl, ha.get⟩ hs
    exact this
theorem G_leave_dn {fn : Func} {k : FuncId} [Ent P k] {cap : Array Value} {R : Ending → World → Prop} {Post : Value → Env → List Res → Prop} (hc : CallD P k cap E L Post)
    (h : ∀ r E' L', E.Le E' → Post r E' L' → G n [] fs E' L' (fun a w => bodyPostM (Wd none) 0 P fn R .ret a w)) :
    G n [⟨.fn (.func k) cap, #[]⟩] fs E L (fun a w => bodyPostM (Wd none) 0 P fn R .normal a w) := G_leave_d hc h

/-! ### Structs in memory, at an offset -/
theorem Cells.sub {b off k : Nat} {cs : Array Value} {T : TypeId} {fz : Nat × Nat} {vs : List Value} (hm : Res.blk b (.cells cs T fz) ∈ L) (hv : (cs.toList.drop off).take k = vs) : Cells E L ⟨b, off, none⟩ vs :=
  Cells.at hm fun j v hj => by
    subst hv
    rw [List.getElem?_take] at hj
    split at hj
    · simpa using hj
    · cases hj
theorem V_loadF {t : TypeId} {x : Operand} {d : TypeDesc} {sz : Nat} [ht : Ty P t d sz true] {b off : Nat} {cs : Array Value} {T : TypeId} {fz : Nat × Nat} {vs : List Value} (ho : o.op = .load t x) (hx : ev fs x = some (.pointer (some ⟨b, off, none⟩)))
    (hm : Res.blk b (.cells cs T fz) ∈ L) (hv : (cs.toList.drop off).take sz = vs) (hs : vs.length = sz) : Val P o fs E L (.agg vs.toArray) :=
  V_loadA ho hx (Cells.sub hm hv) hs
/-- A store of a struct at an offset. -/
theorem G_storeF {t : TypeId} {x y : Operand} {b off : Nat} {vs : List Value} {d : TypeDesc} {ag : Bool} {T : TypeId} {cs cs' : Array Value} {sz : Nat} [ht : Ty P t d sz ag]
    (ho : o.op = .store t x y) (hx : ev fs x = some (.pointer (some ⟨b, off, none⟩))) (hy : ev fs y = some (.agg vs.toArray)) (hs : vs.length = sz) (hone : ∀ v, v ∈ vs → v.oneCell' = true)
    (hd : o.dst = none) (hg : Goes ops fs o) (u : Upd L (.blk b (.cells cs T (0, 0))) (.blk b (.cells cs' T (0, 0))) L') (hl : off + vs.length ≤ cs.size) (hcs : putAll cs off vs = cs')
    (h : G n ds fs E L' (wpListIn (Wd ro) 0 P ops Q rest)) : G n ds fs E L (wpListIn (Wd ro) 0 P ops Q (o :: rest)) :=
  G_storeAll ho hx hy rfl hs hone hd hg u hl hcs h

/-! ### Strings cut; least and greatest -/
theorem S_cut (l : List UInt8) (i j : Nat) : (S l).extract i j = S ((l.take j).drop i) := by
  apply ByteArray.ext
  simp [S, List.extract_eq_take_drop, List.drop_take]
theorem V_cut {t : TypeId} {sz : Nat} {ag : Bool} {x y z : Operand} {s : List UInt8} {i j : Int} [ht : Ty P t .string sz ag] (ho : o.op = .slice t x (some y) (some z) none) (hx : ev fs x = some (.string (S s))) (hy : ev fs y = some (.int .i64 i)) (hz : ev fs z = some (.int .i64 j))
    (h0 : 0 ≤ i) (h1 : i ≤ j) (h2 : j ≤ s.length) : Val P o fs E L (.string (S ((s.take j.toNat).drop i.toNat))) :=
  ⟨(by rw [ho]; intro c h; cases h), fun n ds a w ha _ => by
    have hl : ¬ i < 0 := by omega
    have hj : ¬ j < 0 := by omega
    have hh : ¬ ((s.length : Int) < j) := by omega
    have hij : ¬ (j < i) := by omega
    have h3 : 0 ≤ j := by omega
    have h4 : max j 0 = j := by omega
    simp [execOp, ho, ha.eval hx, ha.eval hy, ha.eval hz, Instr.sliceAt, Instr.slice, Instr.sliceBounds, Instr.sliceBound, ht.run, Result.andThen, asIntOf, S_size, h0, h1, h2, h3, h4, S_cut]⟩
theorem V_back {t : TypeId} {sz : Nat} {ag : Bool} {x y : Operand} {s : List UInt8} {i : Int} [ht : Ty P t .string sz ag] (ho : o.op = .slice t x (some y) none none) (hx : ev fs x = some (.string (S s))) (hy : ev fs y = some (.int .i64 i))
    (h0 : 0 ≤ i) (h1 : i ≤ s.length) : Val P o fs E L (.string (S (s.drop i.toNat))) :=
  ⟨(by rw [ho]; intro c h; cases h), fun n ds a w ha _ => by
    have hl : ¬ i < 0 := by omega
    have hh : ¬ ((s.length : Int) < i) := by omega
    simp [execOp, ho, ha.eval hx, ha.eval hy, Instr.sliceAt, Instr.slice, Instr.sliceBounds, Instr.sliceBound, ht.run, Result.andThen, asIntOf, S_size, h0, h1, S_cut]⟩
theorem V_min {k : IntKind} {x y : Operand} {a b : Int} {ts : Array TypeId} (ho : o.op = .call { callee := .builtin .min, args := #[x, y], argTypes := ts }) (hx : ev fs x = some (.int k a)) (hy : ev fs y = some (.int k b)) : Val P o fs E L (.int k (min a b)) :=
  ⟨(by rw [ho]; intro c h; cases h), fun n ds a' w ha _ => by
    by_cases h : a ≤ b
    · have e : min a b = a := by omega
      have h' : ¬ b < a := by omega
      simp [execOp, ho, ha.eval hx, ha.eval hy, resolve, invoke, builtin, Builtin.min_, Builtin.min2, e, h, h']
    · have e : min a b = b := by omega
      have h' : b < a := by omega
      simp [execOp, ho, ha.eval hx, ha.eval hy, resolve, invoke, builtin, Builtin.min_, Builtin.min2, e, h, h']⟩
theorem V_max {k : IntKind} {x y : Operand} {a b : Int} {ts : Array TypeId} (ho : o.op = .call { callee := .builtin .max, args := #[x, y], argTypes := ts }) (hx : ev fs x = some (.int k a)) (hy : ev fs y = some (.int k b)) : Val P o fs E L (.int k (max a b)) :=
  ⟨(by rw [ho]; intro c h; cases h), fun n ds a' w ha _ => by
    by_cases h : a < b
    · have e : max a b = b := by omega
      simp [execOp, ho, ha.eval hx, ha.eval hy, resolve, invoke, builtin, Builtin.max_, Builtin.max2, e, h]
    · have e : max a b = a := by omega
      simp [execOp, ho, ha.eval hx, ha.eval hy, resolve, invoke, builtin, Builtin.max_, Builtin.max2, e, h]⟩

/-! ### What is kept at a function's end -/
inductive Sel : List Res → List Res → Prop
  | nil (L : List Res) : Sel L L
  | keep (x : Res) {L L' : List Res} (h : Sel L L') : Sel (x :: L) (x :: L')
  | drop (x : Res) {L L' : List Res} (h : Sel L L') : Sel (x :: L) L'
  | suf (N : List Res) {L L' : List Res} (h : Sel L L') : Sel (L ++ N) L'
theorem Sel.st {L L' : List Res} (h : Sel L L') : ∀ w, St E L w → St E L' w := by
  suffices hh : ∃ M, L.Perm (M ++ L') by
    obtain ⟨M, p⟩ := hh
    exact fun w hw => (hw.perm p).dropAll
  induction h with
  | nil L => exact ⟨[], .refl _⟩
  | keep x h ih =>
    obtain ⟨M, p⟩ := ih
    exact ⟨M, (p.cons x).trans List.perm_middle.symm⟩
  | drop x h ih =>
    obtain ⟨M, p⟩ := ih
    exact ⟨x :: M, p.cons x⟩
  | suf N h ih =>
    obtain ⟨M, p⟩ := ih
    exact ⟨N ++ M, List.perm_append_comm.trans (by rw [List.append_assoc]; exact p.append_left N)⟩
theorem G.sel (s : Sel L L') (h : G n ds fs E L' X) : G n ds fs E L X := fun a w ha hw => h a w ha (s.st w hw)
theorem G_leaveS {fn : Func} {vs : List Value} {E0 : Env} {Post : Value → Env → List Res → Prop} {r : Value} (s : Sel L L') (h : Rvs P fs E L fn.results.toList vs) (he : resVal vs = r) (hE : E0.Le E) (hp : Post r E L') :
    G n [] fs E L (fun a w => bodyPostM (Wd ro) 0 P fn (RetP E0 Post) .ret a w) := by
  intro a w ha hw
  show LeavesInM (Wd ro) 0 P fn a.tmps (RetP E0 Post) a.defers .returning w
  rw [ha.defers]
  exact ⟨_, h.run (by simp) ha hw, r, E, _, by rw [he], hE, s.st w hw, hp⟩
theorem G_leaveS_n {fn : Func} {vs : List Value} {E0 : Env} {Post : Value → Env → List Res → Prop} {r : Value} (s : Sel L L') (h : Rvs P fs E L fn.results.toList vs) (he : resVal vs = r) (hE : E0.Le E) (hp : Post r E L') :
    G n [] fs E L (fun a w => bodyPostM (Wd ro) 0 P fn (RetP E0 Post) .normal a w) := G_leaveS s h he hE hp
theorem G_leaveS_b {fn : Func} {vs : List Value} {E0 : Env} {Post : Value → Env → List Res → Prop} {r : Value} (s : Sel L L') (h : Rvs P fs E L fn.results.toList vs) (he : resVal vs = r) (hE : E0.Le E) (hp : Post r E L') :
    G n [] fs E L (fun a w => bodyPost P fn (RetP E0 Post) .ret a w) := by
  intro a w ha hw
  exact ⟨ha.defers, _, h.run (by simp) ha hw, r, E, _, by rw [he], hE, s.st w hw, hp⟩
theorem G_leaveS_bn {fn : Func} {vs : List Value} {E0 : Env} {Post : Value → Env → List Res → Prop} {r : Value} (s : Sel L L') (h : Rvs P fs E L fn.results.toList vs) (he : resVal vs = r) (hE : E0.Le E) (hp : Post r E L') :
    G n [] fs E L (fun a w => bodyPost P fn (RetP E0 Post) .normal a w) := G_leaveS_b s h he hE hp
end more
end Go.Proofs.Ytaoinojdijbhaaa
