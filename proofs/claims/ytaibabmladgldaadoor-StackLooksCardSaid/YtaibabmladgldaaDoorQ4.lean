/-
  Rules and contracts, packed: Sep36, K1, H1, H2, H3, H4.
-/
import Derived.Test.YtaibabmladgldaaDoorQ3
set_option maxHeartbeats 1000000
set_option linter.unusedSimpArgs false
set_option linter.unusedVariables false
namespace Go.Proofs.YtaibabmladgldaaDoor
open Go.RowKit
section rules
variable {P : Program} {ro : Option Nat} {n : Nat} {ds : List Deferred} {fs : List (Nat × Value)} {E : Env} {L L' : List Res} {ops : Array Oper} {T : Act → Fam → Prop} {js js' : List JI} {π : List (Nat × Nat)} {i : Nat} {o : Oper} {J : Nat → World → Prop}
/-- append onto an own slice. -/
theorem F_appendT {s x : Operand} {t e : TypeId} {d : Nat} {sz' : Nat} {ag' : Bool} {z : Value} {sz bytes : Nat} [ht : Ty P t (.slice e) sz' ag'] [hi : Inf P e z sz bytes] {a a2 : Option Addr} {k cap m c2 : Nat} {xs ys : List Value} {L' : Option Addr → Nat → List Res}
    (h0 : ops[i]? = some o) (ho : o.op = .call { callee := .builtin .append, args := #[s, x], argTypes := #[t, t] }) (hs : ev fs s = some (.slice a k cap)) (hx : ev fs x = some (.slice a2 m c2)) (hr : SlE E sz a2 m ys) (h1 : ∀ v, v ∈ ys → v.oneCell' = true)
    (hb : (k + m) * bytes ≤ 140737488355328) (h63 : k + m ≤ 9223372036854775807) (hd : o.dst = some d) (hn : Nat.blt d n = true) (hg : Goes ops fs o)
    (u : ∀ a' c', Upd L (.sl e sz a k cap xs) (.sl e sz a' (k + m) c' (xs ++ ys)) (L' a' c'))
    (h : ∀ a' c', ∃ js', Jok ops i js js' E (L' a' c') ∧ GF n ds ((d, .slice a' (k + m) c') :: fs) E (L' a' c') (wpF P ops T (JL js') π)) : GF n ds fs E L (wpF P ops T (JL js) ((i, 4) :: π)) := fun a0 ha =>
  ⟨o, h0, by
    rw [if_pos (hg.wanted ha)]
    refine ⟨trivial, fun M w hw0 => ?_⟩
    have hw : St E (M ++ L) w := hw0
    have hok : slOk e sz a k cap xs (fun b => w.heap[b]?) := hw.own _ ((u none 0).app M).mem
    have fin : ∀ a' c' w', (Builtin.append_ #[t, t] o.type #[.slice a k cap, .slice a2 m c2]).run P w = .ok (.slice a' (k + m) c') w' → slOk e sz a' (k + m) c' (xs ++ ys) (fun b => w'.heap[b]?) →
        w.heap.size ≤ w'.heap.size → w'.os = w.os → w'.output = w.output → w'.tape = w.tape → (∀ b, some b ≠ a.map (·.block) → b < w.heap.size → w'.heap[b]? = w.heap[b]?) →
        (∀ p', a' = some p' → (some p'.block = a.map (·.block)) ∨ w.heap.size = p'.block) →
        StepsS P o a0.eval (fun r w' => ∃ Φ', (∀ w, Fam.J Φ' w → ∀ p, i ∉ descs ops p → JL js p w) ∧ Φ'.ok M w' ∧ wpF P ops T (fun p w => i ∈ descs ops p ∨ JL js p w) π (a0.put o.dst r) Φ') w := by
      intro a' c' w' hrun hok' hsz hos hout htape hkeep hnew
      have e1 : (execOp a0.eval o).run P w = .ok (.value (.slice a' (k + m) c')) w' := by
        simp [execOp, ho, resolve, invoke, builtin, ha.eval hs, ha.eval hx, hrun, Result.andThen]
      unfold StepsS
      rw [e1]
      obtain ⟨js', hj, hk⟩ := h a' c'
      refine ⟨Fam.st E (L' a' c'), hj.J, ?_, by rw [hd]; exact wpF_weak π _ _ _ _ hj.weak (hk _ (ha.put hn _))⟩
      refine hw.update ((u a' c').app M) hsz (fun b hb' hlt => hkeep b (fun he => hb' ?_) hlt) hok' (fun b hb' => ?_) ?_ hos hout htape
      · cases a with
        | none => simp at he
        | some p => simp at he; subst he; simp [Res.sl]
      · cases a' with
        | none => simp [Res.sl] at hb'
        | some p' =>
          simp [Res.sl] at hb'
          subst hb'
          have hlt : p'.block < w'.heap.size := by
            rcases hok'.2 with ⟨h, _⟩ | ⟨g, cur, h, hg', _⟩
            · cases h
            · cases h; exact (Array.getElem?_eq_some_iff.1 hg').1
          rcases hnew _ rfl with h' | h'
          · left
            cases a with
            | none => simp at h'
            | some p => simp at h'; exact ⟨by simp [Res.sl, h'], hlt⟩
          · exact .inr ⟨by omega, hlt⟩
      · cases a' <;> simp [Res.sl]
    have hr' : Rd E (M ++ L) sz a2 m ys := SlE.rd hr
    rcases hr'.2 w hw with ⟨rfl, rfl⟩ | ⟨p, rfl, _, hy⟩
    · have hys : ys = [] := List.eq_nil_of_length_eq_zero (by simpa using hr.1)
      subst hys
      refine fin a cap w (by simpa using run_append_sl0 (ty := o.type) ht.und hi hok) (by simpa using hok) (Nat.le_refl _) rfl rfl rfl (fun _ _ _ => rfl) (fun p' h => .inl (by simp [h]))
    · obtain ⟨a', c', w', r1, r2, r3, r4, r5, r6, r7, r8⟩ := run_append_sl (ty := o.type) ht.und hi hok (c := c2) hr.1 hy h1 hb (by simp only [maxLen]; omega)
      exact fin a' c' w' r1 r2 r3 r4 r5 r6 r7 r8⟩
end rules
end Go.Proofs.YtaibabmladgldaaDoor
set_option linter.unusedSimpArgs false
set_option linter.unusedVariables false
set_option maxHeartbeats 2000000
set_option maxRecDepth 20000
namespace Go.Proofs.YtaibabmladgldaaDoor
open Go.RowKit

/-! The kit's small functions: lists of numbers and of strings. -/
def i64s (l : List Int) : List Value := l.map fun n => .int .i64 n
theorem i64s_get {l : List Int} {k : Nat} {n : Int} (h : l[k]? = some n) : (i64s l)[k]? = some (.int .i64 n) := by simp [i64s, h]
def strs (l : List (List UInt8)) : List Value := l.map fun s => .string (S s)
theorem strs_get {l : List (List UInt8)} {k : Nat} {s : List UInt8} (h : l[k]? = some s) : (strs l)[k]? = some (.string (S s)) := by simp [strs, h]
theorem take_next {α : Type} {xs ys : List α} {k : Nat} (h : xs.take k = ys.take k) (hx : k < xs.length) (hy : k < ys.length) (e : xs[k] = ys[k]) : xs.take (k + 1) = ys.take (k + 1) := by
  rw [List.take_succ_eq_append_getElem hx, List.take_succ_eq_append_getElem hy, h, e]
def unI : List Value → Option (List Int)
  | [] => some []
  | .int .i64 n :: l => (unI l).map (n :: ·)
  | _ :: _ => none
theorem unI_eq : ∀ (vs : List Value) (xs : List Int), unI vs = some xs → vs = i64s xs := by
  intro vs
  induction vs with
  | nil => intro xs h; simp only [unI, Option.some.injEq] at h; subst h; rfl
  | cons v vs ih =>
    intro xs h
    unfold unI at h
    split at h
    · rename_i h0; cases h0
    · rename_i n l h0
      cases h0
      simp only [Option.map_eq_some_iff] at h
      obtain ⟨ys, h1, rfl⟩ := h
      rw [ih ys h1]; rfl
    · cases h
theorem SlE.toI {E : Env} {p : Option Addr} {n : Nat} {vs : List Value} {xs : List Int} (h : SlE E 1 p n vs) (hx : unI vs = some xs) : SlE E 1 p n (i64s xs) := by rw [← unI_eq vs xs hx]; exact h
theorem SlE.nI {E : Env} {p : Option Addr} {n : Nat} {xs : List Int} (h : SlE E 1 p n (i64s xs)) : n = xs.length := by have := h.1; simp [i64s] at this; exact this.symm
theorem SlE.nS {E : Env} {p : Option Addr} {n : Nat} {xs : List (List UInt8)} (h : SlE E 1 p n (strs xs)) : n = xs.length := by have := h.1; simp [strs] at this; exact this.symm
theorem i64s_one (l : List Int) : ∀ v, v ∈ i64s l → v.oneCell' = true := by
  intro v hv
  simp only [i64s, List.mem_map] at hv
  obtain ⟨_, _, rfl⟩ := hv
  rfl
theorem strs_one (l : List (List UInt8)) : ∀ v, v ∈ strs l → v.oneCell' = true := by
  intro v hv
  simp only [strs, List.mem_map] at hv
  obtain ⟨_, _, rfl⟩ := hv
  rfl
theorem Short_call (E : Env) (L : List Res) (p : Option Addr) (c : Nat) (l : List (List UInt8)) (hl : SlE E 1 p l.length (strs l)) (hn : l.length ≤ 9223372036854775807) (m : Int) :
    CallV Tryd.prog 18 #[.slice p l.length c, .int .i64 m] E L (.bool (l.all fun s => decide ((s.length : Int) ≤ m))) := by
  refine CallS.toV (CallS.intro (l := [.slice p l.length c, .int .i64 m]) _ Tryd.func18 rfl Tryd.ntmps18 rfl ?_)
  refine G_seq (G_region ?_)
  refine Ga ?_
  refine G_end (X_then (G_seq (G_seq (G_region ?_))))
  refine Ga ?_
  refine G_end (X_then (G_block ?_))
  refine G_loop (α := Nat) (fun k => [(0, .slice p l.length c), (1, .int .i64 m), (5, .int .i64 k)]) (fun _ => E) (fun _ => L)
    (fun k => k ≤ l.length ∧ ∀ s, s ∈ l.take k → (s.length : Int) ≤ m) (fun k => l.length - k) 0 ⟨Nat.zero_le _, by simp⟩ ⟨rfl, rfl, rfl, trivial⟩ rfl rfl ?_
  rintro k ⟨hk, hall⟩
  by_cases hlt : k < l.length
  · have hx := strs_get (List.getElem?_eq_getElem hlt)
    by_cases hle : (l[k].length : Int) ≤ m
    · refine G_seq ?_
      refine G_seq (G_region ?_)
      refine Gm ?_
      refine Gm ?_
      refine Gv (V_lenS rfl rfl) ?_
      refine Gv (V_lss rfl rfl rfl) ?_
      refine G_end (X_then ?_)
      refine G_cond_t rfl (decide_eq_true (by omega)) ?_
      refine G_skip (X_then (G_seq (G_block (G_seq (G_region ?_)))))
      refine Gm ?_
      refine Gm ?_
      refine Gv (V_idxAddr rfl rfl rfl (SlE.rd (by assumption)) (by omega) (by omega)) ?_
      refine Gv (V_loadS rfl rfl (SlE.rd (by assumption)) (by assumption) (by simp)) ?_
      refine Gv (V_len rfl rfl) ?_
      refine Gm ?_
      refine Gv (V_gtr rfl rfl rfl) ?_
      refine G_end (X_then ?_)
      refine G_cond_f rfl (decide_eq_false (by omega)) ?_
      refine G_skip (X_block (X_then (G_region ?_)))
      refine Gm ?_
      refine Gv (V_add_i64 rfl rfl rfl (by omega) (by omega)) ?_
      refine Ga ?_
      refine G_end (X_then ?_)
      exact G_again (k + 1) ⟨hlt, by rw [List.take_succ_eq_append_getElem hlt]; intro s hs; rcases List.mem_append.1 hs with h | h; exact hall s h; simp only [List.mem_singleton] at h; subst h; exact hle⟩ (by omega) ⟨rfl, rfl, rfl, trivial⟩ rfl rfl
    · have : (l.all fun s => decide ((s.length : Int) ≤ m)) = false := by
        rw [List.all_eq_false]; exact ⟨l[k], List.getElem_mem hlt, by simpa using hle⟩
      rw [this]
      refine G_seq (G_seq (G_region ?_))
      refine Gm ?_
      refine Gm ?_
      refine Gv (V_lenS rfl rfl) ?_
      refine Gv (V_lss rfl rfl rfl) ?_
      refine G_end (X_then ?_)
      refine G_cond_t rfl (decide_eq_true (by omega)) ?_
      refine G_skip (X_then (G_seq (G_block (G_seq (G_region ?_)))))
      refine Gm ?_
      refine Gm ?_
      refine Gv (V_idxAddr rfl rfl rfl (SlE.rd (by assumption)) (by omega) (by omega)) ?_
      refine Gv (V_loadS rfl rfl (SlE.rd (by assumption)) (by assumption) (by simp)) ?_
      refine Gv (V_len rfl rfl) ?_
      refine Gm ?_
      refine Gv (V_gtr rfl rfl rfl) ?_
      refine G_end (X_then ?_)
      refine G_cond_t rfl (decide_eq_true (by omega)) ?_
      refine G_seq (G_region ?_)
      refine Ga ?_
      refine G_end (X_then (G_ret (X_block_ret (X_then_ret (X_then_ret (X_block_ret (X_then_ret ?_)))))))
      refine G_leaveS (.nil _) (by exact (.cons (.tmp rfl) (.nil))) rfl ?_ ?_
      · exact (.refl _)
      exact ⟨(by kernel_rfl), rfl⟩
  · have : (l.all fun s => decide ((s.length : Int) ≤ m)) = true := by
      rw [List.all_eq_true]; intro s hs; rw [List.take_of_length_le (by omega)] at hall; simpa using hall s hs
    rw [this]
    refine G_seq (G_seq (G_region ?_))
    refine Gm ?_
    refine Gm ?_
    refine Gv (V_lenS rfl rfl) ?_
    refine Gv (V_lss rfl rfl rfl) ?_
    refine G_end (X_then ?_)
    refine G_cond_f rfl (decide_eq_false (by omega)) ?_
    refine G_exit (X_then_exit (X_then_exit (X_block_hit (X_then (G_seq (G_region ?_))))))
    refine Ga ?_
    refine G_end (X_then (G_ret ?_))
    refine G_leaveS (.nil _) (by exact (.cons (.tmp rfl) (.nil))) rfl ?_ ?_
    · exact (.refl _)
    exact ⟨(by kernel_rfl), rfl⟩
theorem SameInts_call (E : Env) (L : List Res) (p q : Option Addr) (c d : Nat) (xs ys : List Int) (hx : SlE E 1 p xs.length (i64s xs)) (hy : SlE E 1 q ys.length (i64s ys)) (hn : xs.length ≤ 9223372036854775806) (hm : ys.length ≤ 9223372036854775806) :
    CallV Tryd.prog 15 #[.slice p xs.length c, .slice q ys.length d] E L (.bool (decide (xs = ys))) := by
  refine CallS.toV (CallS.intro (l := [.slice p xs.length c, .slice q ys.length d]) _ Tryd.func15 rfl Tryd.ntmps15 rfl ?_)
  by_cases hlen : xs.length ≠ ys.length
  · have hne : xs ≠ ys := fun h => hlen (congrArg List.length h)
    refine G_seq (G_region ?_)
    refine Ga ?_
    refine G_end (X_then (G_seq (G_seq (G_region ?_))))
    refine Gm ?_
    refine Gv (V_lenS rfl rfl) ?_
    refine Gm ?_
    refine Gv (V_lenS rfl rfl) ?_
    refine Gv (V_neq rfl rfl rfl) ?_
    refine G_end (X_then ?_)
    refine G_cond_t rfl (decide_eq_true (by omega)) ?_
    refine G_seq (G_region ?_)
    refine Ga ?_
    refine G_end (X_then (G_ret (X_then_ret ?_)))
    refine G_leaveS (.nil _) (by exact (.cons (.tmp rfl) (.nil))) rfl ?_ ?_
    · exact (.refl _)
    exact ⟨(by (simp [resVal, *]; done)), (by rfl)⟩
  refine G_seq (G_region ?_)
  refine Ga ?_
  refine G_end (X_then (G_seq (G_seq (G_region ?_))))
  refine Gm ?_
  refine Gv (V_lenS rfl rfl) ?_
  refine Gm ?_
  refine Gv (V_lenS rfl rfl) ?_
  refine Gv (V_neq rfl rfl rfl) ?_
  refine G_end (X_then ?_)
  refine G_cond_f rfl (decide_eq_false (by omega)) ?_
  refine G_skip (X_then (G_seq (G_seq (G_region ?_))))
  refine Ga ?_
  refine G_end (X_then (G_block ?_))
  refine G_loop (α := Nat) (fun k => [(0, .slice p xs.length c), (1, .slice q ys.length d), (5, .int .i64 k)]) (fun _ => E) (fun _ => L)
    (fun k => k ≤ xs.length ∧ xs.take k = ys.take k) (fun k => xs.length - k) 0 ⟨Nat.zero_le _, by simp⟩ ⟨rfl, rfl, rfl, trivial⟩ rfl rfl ?_
  rintro k ⟨hk, hall⟩
  by_cases hlt : k < xs.length
  · have hlt' : k < ys.length := by omega
    have h1 := i64s_get (List.getElem?_eq_getElem hlt)
    have h2 := i64s_get (List.getElem?_eq_getElem hlt')
    by_cases he : xs[k] = ys[k]
    · refine G_seq ?_
      refine G_seq (G_region ?_)
      refine Gm ?_
      refine Gm ?_
      refine Gv (V_lenS rfl rfl) ?_
      refine Gv (V_lss rfl rfl rfl) ?_
      refine G_end (X_then ?_)
      refine G_cond_t rfl (decide_eq_true (by omega)) ?_
      refine G_skip (X_then (G_seq (G_block (G_seq ?_))))
      refine G_draw mixed (by kernel_rfl) ?_
      refine Q_val (V_move rfl rfl) rfl rfl (.none rfl) ?_
      refine Q_val (V_move rfl rfl) rfl rfl (.none rfl) ?_
      refine Q_val (V_idxAddr rfl rfl rfl (SlE.rd (by assumption)) (by omega) (by omega)) rfl rfl (.none rfl) ?_
      refine Q_val (V_loadS rfl rfl (SlE.rd (by assumption)) (by assumption) (by simp)) rfl rfl (.none rfl) ?_
      refine Q_val (V_move rfl rfl) rfl rfl (.none rfl) ?_
      refine Q_val (V_move rfl rfl) rfl rfl (.none rfl) ?_
      refine Q_val (V_idxAddr rfl rfl rfl (SlE.rd (by assumption)) (by omega) (by omega)) rfl rfl (.none rfl) ?_
      refine Q_val (V_loadS rfl rfl (SlE.rd (by assumption)) (by assumption) (by simp)) rfl rfl (.none rfl) ?_
      refine Q_val (V_neq rfl rfl rfl) rfl rfl (.none rfl) ?_
      refine Q_end ?_
      refine X_then ?_
      refine G_cond_f rfl (decide_eq_false (by omega)) ?_
      refine G_skip (X_block (X_then (G_region ?_)))
      refine Gm ?_
      refine Gv (V_add_i64 rfl rfl rfl (by omega) (by omega)) ?_
      refine Ga ?_
      refine G_end (X_then ?_)
      exact G_again (k + 1) ⟨hlt, take_next hall hlt hlt' he⟩ (by omega) ⟨rfl, rfl, rfl, trivial⟩ rfl rfl
    · have hne : xs ≠ ys := fun h => he (by subst h; rfl)
      refine G_seq (G_seq (G_region ?_))
      refine Gm ?_
      refine Gm ?_
      refine Gv (V_lenS rfl rfl) ?_
      refine Gv (V_lss rfl rfl rfl) ?_
      refine G_end (X_then ?_)
      refine G_cond_t rfl (decide_eq_true (by omega)) ?_
      refine G_skip (X_then (G_seq (G_block (G_seq ?_))))
      refine G_draw mixed (by kernel_rfl) ?_
      refine Q_val (V_move rfl rfl) rfl rfl (.none rfl) ?_
      refine Q_val (V_move rfl rfl) rfl rfl (.none rfl) ?_
      refine Q_val (V_idxAddr rfl rfl rfl (SlE.rd (by assumption)) (by omega) (by omega)) rfl rfl (.none rfl) ?_
      refine Q_val (V_loadS rfl rfl (SlE.rd (by assumption)) (by assumption) (by simp)) rfl rfl (.none rfl) ?_
      refine Q_val (V_move rfl rfl) rfl rfl (.none rfl) ?_
      refine Q_val (V_move rfl rfl) rfl rfl (.none rfl) ?_
      refine Q_val (V_idxAddr rfl rfl rfl (SlE.rd (by assumption)) (by omega) (by omega)) rfl rfl (.none rfl) ?_
      refine Q_val (V_loadS rfl rfl (SlE.rd (by assumption)) (by assumption) (by simp)) rfl rfl (.none rfl) ?_
      refine Q_val (V_neq rfl rfl rfl) rfl rfl (.none rfl) ?_
      refine Q_end ?_
      refine X_then ?_
      refine G_cond_t rfl (decide_eq_true (by omega)) ?_
      refine G_seq (G_region ?_)
      refine Ga ?_
      refine G_end (X_then (G_ret (X_block_ret (X_then_ret (X_then_ret (X_block_ret (X_then_ret ?_)))))))
      refine G_leaveS (.nil _) (by exact (.cons (.tmp rfl) (.nil))) rfl ?_ ?_
      · exact (.refl _)
      exact ⟨(by (simp [resVal, *]; done)), (by rfl)⟩
  · have heq : xs = ys := by rw [List.take_of_length_le (by omega), List.take_of_length_le (by omega)] at hall; exact hall
    refine G_seq (G_seq (G_region ?_))
    refine Gm ?_
    refine Gm ?_
    refine Gv (V_lenS rfl rfl) ?_
    refine Gv (V_lss rfl rfl rfl) ?_
    refine G_end (X_then ?_)
    refine G_cond_f rfl (decide_eq_false (by omega)) ?_
    refine G_exit (X_then_exit (X_then_exit (X_block_hit (X_then (G_seq (G_region ?_))))))
    refine Ga ?_
    refine G_end (X_then (G_ret ?_))
    refine G_leaveS (.nil _) (by exact (.cons (.tmp rfl) (.nil))) rfl ?_ ?_
    · exact (.refl _)
    exact ⟨(by (simp [resVal, *]; done)), (by rfl)⟩
theorem SameInts_call' (E : Env) (L : List Res) (p q : Option Addr) (n m c d : Nat) (xs ys : List Int) (hx : SlE E 1 p n (i64s xs)) (hy : SlE E 1 q m (i64s ys)) (hn : n ≤ 9223372036854775806) (hm : m ≤ 9223372036854775806) :
    CallV Tryd.prog 15 #[.slice p n c, .slice q m d] E L (.bool (decide (xs = ys))) := by
  have e1 := hx.nI; have e2 := hy.nI; subst e1 e2; exact SameInts_call E L p q c d xs ys hx hy hn hm
theorem OwnInts_call (E : Env) (L : List Res) (p : Option Addr) (c : Nat) (l : List Int) (hl : SlE E 1 p l.length (i64s l)) (hn : l.length ≤ 1000000000) :
    CallS Tryd.prog 25 #[.slice p l.length c] E L (fun r E' L' => ∃ a c', r = .slice a l.length c' ∧ SlE E' 1 a l.length (i64s l) ∧ l.length ≤ c' ∧ L' = L) := by
  refine CallS.intro (l := [.slice p l.length c]) _ Tryd.func25 rfl Tryd.ntmps25 rfl ?_
  refine G_seq (G_region ?_)
  refine Ga ?_
  refine G_end (X_then (G_seq (G_region ?_)))
  (refine G_lit0z rfl rfl rfl (.none rfl) ?_; intro b3)
  refine Gm ?_
  refine G_append rfl rfl rfl (SlE.rd hl) (i64s_one l) (by omega) (by omega) rfl rfl (.none rfl) (fun _ _ => .head _ _ _) ?_
  intro a5 c5
  refine G.freezeSl (.head _ _) ?_
  intro E1 hE1 hal hc
  simp only [Nat.zero_add, List.nil_append] at hal hc ⊢
  refine Ga ?_
  refine G_end (X_then (G_ret ?_))
  refine G_leaveS (.nil _) (by exact (.cons (.tmp rfl) (.nil))) rfl ?_ ?_
  · exact hE1
  exact ⟨_, ⟨_, ⟨rfl, ⟨(by assumption), ⟨(by assumption), rfl⟩⟩⟩⟩⟩
end Go.Proofs.YtaibabmladgldaaDoor
set_option linter.unusedSimpArgs false
set_option linter.unusedVariables false
set_option maxHeartbeats 2000000
set_option maxRecDepth 20000
namespace Go.Proofs.YtaibabmladgldaaDoor
open Go.RowKit

/-! Grammars as plain data, and how they lie in memory. -/
abbrev Pr := Int × List Int
structure Gr where
  k : Int
  toks : List (List UInt8)
  sep : List UInt8
  names : List (List UInt8)
  start : Int
  prods : List Pr
/-- A production, where its right side lies. -/
abbrev Row := Option Addr × Nat × Pr
def prow (x : Row) : List Value := [.int .i64 x.2.2.1, .slice x.1 x.2.2.2.length x.2.1]
def prows (rows : List Row) : List Value := rows.flatMap prow
theorem prows_len (rows : List Row) : (prows rows).length = rows.length * 2 := by
  induction rows with
  | nil => rfl
  | cons x l ih => simp only [prows, List.flatMap_cons, List.length_append, prow, List.length_cons, List.length_nil] at *; omega
theorem prows_append (a b : List Row) : prows (a ++ b) = prows a ++ prows b := List.flatMap_append
theorem prows_drop (l : List Row) (k : Nat) : (prows l).drop (k * 2) = prows (l.drop k) := by
  induction l generalizing k with
  | nil => simp [prows]
  | cons t l ih =>
    cases k with
    | zero => simp
    | succ k =>
      have e : (k + 1) * 2 = k * 2 + 2 := by omega
      rw [e]
      show (prow t ++ prows l).drop (k * 2 + 2) = _
      rw [Nat.add_comm, ← List.drop_drop]
      simpa [prow] using ih k
theorem prows_get {l : List Row} {k : Nat} {x : Row} (h : l[k]? = some x) : ((prows l).drop (k * 2)).take 2 = [.int .i64 x.2.2.1, .slice x.1 x.2.2.2.length x.2.1] := by
  rw [prows_drop, List.drop_eq_getElem_cons (List.getElem?_eq_some_iff.1 h).1]
  have := (List.getElem?_eq_some_iff.1 h).2
  rw [this]
  simp [prows, prow]
theorem prows_left {l : List Row} {k : Nat} {x : Row} (h : l[k]? = some x) : (prows l)[k * 2]? = some (.int .i64 x.2.2.1) := by
  have := prows_get h
  have h2 : (((prows l).drop (k * 2)).take 2)[0]? = some (.int .i64 x.2.2.1) := by rw [this]; rfl
  simpa [List.getElem?_take, List.getElem?_drop] using h2
theorem prows_right {l : List Row} {k : Nat} {x : Row} (h : l[k]? = some x) : (prows l)[k * 2 + 1]? = some (.slice x.1 x.2.2.2.length x.2.1) := by
  have := prows_get h
  have h2 : (((prows l).drop (k * 2)).take 2)[1]? = some (.slice x.1 x.2.2.2.length x.2.1) := by rw [this]; rfl
  simpa [List.getElem?_take, List.getElem?_drop] using h2
/-- The right sides of the rows lie in E. -/
def RowsE (E : Env) (rows : List Row) : Prop := ∀ r, r ∈ rows → SlE E 1 r.1 r.2.2.2.length (i64s r.2.2.2) ∧ r.2.2.2.length ≤ r.2.1
theorem RowsE.mono {E E' : Env} {rows : List Row} (h : RowsE E rows) (hE : E.Le E') : RowsE E' rows := fun r hr => ⟨(h r hr).1.mono hE, (h r hr).2⟩
theorem RowsE.get {E : Env} {rows : List Row} (h : RowsE E rows) {k : Nat} {x : Row} (hx : rows[k]? = some x) : SlE E 1 x.1 x.2.2.2.length (i64s x.2.2.2) := (h x (List.mem_of_getElem? hx)).1
theorem RowsE.cap {E : Env} {rows : List Row} (h : RowsE E rows) {k : Nat} {x : Row} (hx : rows[k]? = some x) : x.2.2.2.length ≤ x.2.1 := (h x (List.mem_of_getElem? hx)).2
def PsE (E : Env) (a : Option Addr) (n : Nat) (ps : List Pr) : Prop := ∃ rows : List Row, rows.map (·.2.2) = ps ∧ SlE E 2 a n (prows rows) ∧ RowsE E rows
theorem PsE.mono {E E' : Env} {a : Option Addr} {n : Nat} {ps : List Pr} (h : PsE E a n ps) (hE : E.Le E') : PsE E' a n ps := by
  obtain ⟨rows, h1, h2, h3⟩ := h
  exact ⟨rows, h1, h2.mono hE, h3.mono hE⟩
theorem SlE.nR {E : Env} {a : Option Addr} {n : Nat} {rows : List Row} (h : SlE E 2 a n (prows rows)) : n = rows.length := by have := h.1; rw [prows_len] at this; omega
theorem PsE.len {E : Env} {a : Option Addr} {n : Nat} {ps : List Pr} (h : PsE E a n ps) : n = ps.length := by
  obtain ⟨rows, rfl, h2, _⟩ := h
  rw [List.length_map]; exact h2.nR
/-- A grammar as a value. -/
def GrE (E : Env) (v : Value) (g : Gr) : Prop := ∃ tp tc np nc pp pc, v = .agg #[.int .i64 g.k, .slice tp g.toks.length tc, .string (S g.sep), .slice np g.names.length nc, .int .i64 g.start, .slice pp g.prods.length pc] ∧
  SlE E 1 tp g.toks.length (strs g.toks) ∧ SlE E 1 np g.names.length (strs g.names) ∧ PsE E pp g.prods.length g.prods ∧ g.toks.length ≤ tc ∧ g.names.length ≤ nc ∧ g.prods.length ≤ pc
theorem GrE.mono {E E' : Env} {v : Value} {g : Gr} (h : GrE E v g) (hE : E.Le E') : GrE E' v g := by
  obtain ⟨tp, tc, np, nc, pp, pc, h0, h1, h2, h3, h4⟩ := h
  exact ⟨tp, tc, np, nc, pp, pc, h0, h1.mono hE, h2.mono hE, h3.mono hE, h4⟩
theorem GrE.mk {E : Env} {g : Gr} {tp np pp : Option Addr} {tc nc pc : Nat} (h1 : SlE E 1 tp g.toks.length (strs g.toks)) (h2 : SlE E 1 np g.names.length (strs g.names)) (h3 : PsE E pp g.prods.length g.prods) (h4 : g.toks.length ≤ tc) (h5 : g.names.length ≤ nc) (h6 : g.prods.length ≤ pc) :
    GrE E (.agg #[.int .i64 g.k, .slice tp g.toks.length tc, .string (S g.sep), .slice np g.names.length nc, .int .i64 g.start, .slice pp g.prods.length pc]) g := ⟨tp, tc, np, nc, pp, pc, rfl, h1, h2, h3, h4, h5, h6⟩
/-- A light grammar. -/
structure Light (g : Gr) : Prop where
  t : g.toks.length ≤ 10
  n : g.names.length ≤ 10
  p : g.prods.length ≤ 30
  sep : g.sep.length ≤ 40
  ts : ∀ s, s ∈ g.toks → s.length ≤ 40
  ns : ∀ s, s ∈ g.names → s.length ≤ 40
  ps : ∀ p, p ∈ g.prods → p.2.length ≤ 8
def lightB (g : Gr) : Bool := decide (g.toks.length ≤ 10) && decide (g.names.length ≤ 10) && decide (g.prods.length ≤ 30) && decide (g.sep.length ≤ 40) && g.toks.all (fun s => decide (s.length ≤ 40)) && g.names.all (fun s => decide (s.length ≤ 40)) && g.prods.all (fun p => decide (p.2.length ≤ 8))
theorem lightB_iff {g : Gr} : lightB g = true ↔ Light g := by
  simp only [lightB, Bool.and_eq_true, decide_eq_true_eq, List.all_eq_true]
  exact ⟨fun ⟨⟨⟨⟨⟨⟨h1, h2⟩, h3⟩, h4⟩, h5⟩, h6⟩, h7⟩ => ⟨h1, h2, h3, h4, h5, h6, h7⟩, fun ⟨h1, h2, h3, h4, h5, h6, h7⟩ => ⟨⟨⟨⟨⟨⟨h1, h2⟩, h3⟩, h4⟩, h5⟩, h6⟩, h7⟩⟩
end Go.Proofs.YtaibabmladgldaaDoor
set_option linter.unusedSimpArgs false
set_option linter.unusedVariables false
set_option maxHeartbeats 2000000
set_option maxRecDepth 20000
namespace Go.Proofs.YtaibabmladgldaaDoor
open Go.RowKit

/-! Words and names. -/
def isLet (c : Int) : Bool := (decide (c ≥ 97) && decide (c ≤ 122)) || (decide (c ≥ 65) && decide (c ≤ 90))
def isDig (c : Int) : Bool := decide (c ≥ 48) && decide (c ≤ 57)
def badAt (i : Nat) (c : Int) : Bool := !isLet c && (decide (i = 0) || (!isDig c && decide (c ≠ 95)))
def badW : Nat → List UInt8 → Bool
  | _, [] => false
  | i, c :: l => badAt i (c.toNat : Int) || badW (i + 1) l
def wordE (s : List UInt8) : Int := if s.length = 0 then 5 else if badW 0 s = true then 3 else if 12 < s.length then 4 else 0
def langW : List (List UInt8) := [[108, 111, 111, 107, 97, 104, 101, 97, 100], [116, 111, 107, 101, 110], [115, 101, 112, 97, 114, 97, 116, 111, 114], [115, 116, 97, 114, 116]]
def langB (s : List UInt8) : Bool := decide (s ∈ langW)
def nameE (s : List UInt8) : Int := if wordE s = 0 then (if langB s = true then 12 else 0) else wordE s
def smallB (s : List UInt8) : Bool := decide (nameE s = 0) && decide (97 ≤ ((s.getD 0 0).toNat : Int))
def capB (s : List UInt8) : Bool := decide (nameE s = 0) && decide (((s.getD 0 0).toNat : Int) < 97)
theorem badW_of (s : List UInt8) : ∀ (j k : Nat), (h : k < s.length) → badAt (j + k) (s[k].toNat : Int) = true → badW j s = true := by
  induction s with
  | nil => intro j k h; cases h
  | cons c l ih =>
    intro j k hk h
    simp only [badW, Bool.or_eq_true]
    cases k with
    | zero => exact .inl h
    | succ k => exact .inr (ih (j + 1) k (by simpa using hk) (by rw [show j + 1 + k = j + (k + 1) by omega]; exact h))
theorem badW_all (s : List UInt8) : ∀ (j : Nat), (∀ k, (h : k < s.length) → badAt (j + k) (s[k].toNat : Int) = false) → badW j s = false := by
  induction s with
  | nil => intro j _; rfl
  | cons c l ih =>
    intro j h
    simp only [badW, Bool.or_eq_false_iff]
    exact ⟨h 0 (by simp), ih (j + 1) fun k hk => by have := h (k + 1) (by simpa using hk); rw [show j + 1 + k = j + (k + 1) by omega]; exact this⟩

section
variable (E : Env) (L : List Res)
theorem letter_call (c : Int) : CallV Tryd.prog 94 #[.int .i32 c] E L (.bool (isLet c)) := by
  refine CallS.toV (CallS.intro (l := [.int .i32 c]) _ Tryd.func94 rfl Tryd.ntmps94 rfl ?_)
  refine G_seq (G_region ?_)
  refine Ga ?_
  refine G_end (X_then (G_seq (G_region ?_)))
  refine Gm ?_
  refine Gv (V_geq rfl rfl rfl) ?_
  refine Gm ?_
  apply G_joinAnd 3 5 8 rfl
  · intro H1
    dsimp only [List.take]
    simp only [Bool.and_eq_true, Bool.or_eq_true, Bool.not_eq_true', Bool.not_eq_false', Bool.and_eq_false_iff, Bool.or_eq_false_iff, Bool.not_not, decide_eq_true_eq, decide_eq_false_iff_not, ne_eq, Decidable.not_not, Bool.decide_eq_true] at H1
    refine Gy (V_move rfl rfl) ?_
    refine Gy (V_leq rfl rfl rfl) ?_
    refine Gv (V_pick_t rfl rfl rfl) ?_
    refine G_end ?_
    exact JQ_end 3 rfl rfl (by kernel_rfl)
  · intro H2
    dsimp only [List.take]
    simp only [Bool.and_eq_true, Bool.or_eq_true, Bool.not_eq_true', Bool.not_eq_false', Bool.and_eq_false_iff, Bool.or_eq_false_iff, Bool.not_not, decide_eq_true_eq, decide_eq_false_iff_not, ne_eq, Decidable.not_not, Bool.decide_eq_true] at H2
    refine Gn ?_
    refine Gn ?_
    refine Gv (V_pick_f rfl rfl rfl) ?_
    refine G_end ?_
    exact JQ_end 3 rfl rfl (by kernel_rfl)
  dsimp only [List.drop]
  refine Gm ?_
  apply G_joinOr 7 9 16 rfl
  · intro H3
    dsimp only [List.take]
    simp only [Bool.and_eq_true, Bool.or_eq_true, Bool.not_eq_true', Bool.not_eq_false', Bool.and_eq_false_iff, Bool.or_eq_false_iff, Bool.not_not, decide_eq_true_eq, decide_eq_false_iff_not, ne_eq, Decidable.not_not, Bool.decide_eq_true] at H3
    refine Gn ?_
    refine Gn ?_
    refine Gn ?_
    refine G_stay (.un rfl rfl rfl rfl) rfl rfl ?_
    refine G_stay (.un rfl rfl rfl rfl) rfl rfl ?_
    refine Gn ?_
    refine Gv (V_pick_t rfl rfl rfl) ?_
    refine G_end ?_
    exact JQ_end 7 rfl rfl (by kernel_rfl)
  · intro H4
    dsimp only [List.take]
    simp only [Bool.and_eq_true, Bool.or_eq_true, Bool.not_eq_true', Bool.not_eq_false', Bool.and_eq_false_iff, Bool.or_eq_false_iff, Bool.not_not, decide_eq_true_eq, decide_eq_false_iff_not, ne_eq, Decidable.not_not, Bool.decide_eq_true] at H4
    refine Gy (V_move rfl rfl) ?_
    refine Gy (V_geq rfl rfl rfl) ?_
    refine Gy (V_move rfl rfl) ?_
    apply G_joinAnd 3 12 15 rfl
    · intro H5
      dsimp only [List.take]
      simp only [Bool.and_eq_true, Bool.or_eq_true, Bool.not_eq_true', Bool.not_eq_false', Bool.and_eq_false_iff, Bool.or_eq_false_iff, Bool.not_not, decide_eq_true_eq, decide_eq_false_iff_not, ne_eq, Decidable.not_not, Bool.decide_eq_true] at H5
      refine Gy (V_move rfl rfl) ?_
      refine Gy (V_leq rfl rfl rfl) ?_
      refine Gy (V_pick_t rfl rfl rfl) ?_
      refine G_end ?_
      exact JQ_end 3 rfl rfl (by kernel_rfl)
    · intro H6
      dsimp only [List.take]
      simp only [Bool.and_eq_true, Bool.or_eq_true, Bool.not_eq_true', Bool.not_eq_false', Bool.and_eq_false_iff, Bool.or_eq_false_iff, Bool.not_not, decide_eq_true_eq, decide_eq_false_iff_not, ne_eq, Decidable.not_not, Bool.decide_eq_true] at H6
      refine Gn ?_
      refine Gn ?_
      refine Gy (V_pick_f rfl rfl rfl) ?_
      refine G_end ?_
      exact JQ_end 3 rfl rfl (by kernel_rfl)
    dsimp only [List.drop]
    refine Gv (V_pick_f rfl rfl rfl) ?_
    refine G_end ?_
    exact JQ_end 5 rfl rfl (by kernel_rfl)
  dsimp only [List.drop]
  refine Ga ?_
  refine G_end (X_then (G_ret ?_))
  refine G_leaveS (.nil _) (by exact (.cons (.tmp rfl) (.nil))) rfl ?_ ?_
  · exact (.refl _)
  exact ⟨rfl, rfl⟩
theorem digit_call (c : Int) : CallV Tryd.prog 95 #[.int .i32 c] E L (.bool (isDig c)) := by
  refine CallS.toV (CallS.intro (l := [.int .i32 c]) _ Tryd.func95 rfl Tryd.ntmps95 rfl ?_)
  refine G_seq (G_region ?_)
  refine Ga ?_
  refine G_end (X_then (G_seq (G_region ?_)))
  refine Gm ?_
  refine Gv (V_geq rfl rfl rfl) ?_
  refine Gm ?_
  apply G_joinAnd 3 5 8 rfl
  · intro H1
    dsimp only [List.take]
    simp only [Bool.and_eq_true, Bool.or_eq_true, Bool.not_eq_true', Bool.not_eq_false', Bool.and_eq_false_iff, Bool.or_eq_false_iff, Bool.not_not, decide_eq_true_eq, decide_eq_false_iff_not, ne_eq, Decidable.not_not, Bool.decide_eq_true] at H1
    refine Gy (V_move rfl rfl) ?_
    refine Gy (V_leq rfl rfl rfl) ?_
    refine Gv (V_pick_t rfl rfl rfl) ?_
    refine G_end ?_
    exact JQ_end 3 rfl rfl (by kernel_rfl)
  · intro H2
    dsimp only [List.take]
    simp only [Bool.and_eq_true, Bool.or_eq_true, Bool.not_eq_true', Bool.not_eq_false', Bool.and_eq_false_iff, Bool.or_eq_false_iff, Bool.not_not, decide_eq_true_eq, decide_eq_false_iff_not, ne_eq, Decidable.not_not, Bool.decide_eq_true] at H2
    refine Gn ?_
    refine Gn ?_
    refine Gv (V_pick_f rfl rfl rfl) ?_
    refine G_end ?_
    exact JQ_end 3 rfl rfl (by kernel_rfl)
  dsimp only [List.drop]
  refine Ga ?_
  refine G_end (X_then (G_ret ?_))
  refine G_leaveS (.nil _) (by exact (.cons (.tmp rfl) (.nil))) rfl ?_ ?_
  · exact (.refl _)
  exact ⟨rfl, rfl⟩
theorem letterR_call (c : Int) : CallV Tryd.prog 97 #[.int .u8 c] E L (.bool (isLet c)) := by
  refine CallS.toV (CallS.intro (l := [.int .u8 c]) _ Tryd.func97 rfl Tryd.ntmps97 rfl ?_)
  refine G_seq (G_region ?_)
  refine Ga ?_
  refine G_end (X_then (G_seq (G_region ?_)))
  refine Gm ?_
  refine Gv (V_geq rfl rfl rfl) ?_
  refine Gm ?_
  apply G_joinAnd 3 5 8 rfl
  · intro H1
    dsimp only [List.take]
    simp only [Bool.and_eq_true, Bool.or_eq_true, Bool.not_eq_true', Bool.not_eq_false', Bool.and_eq_false_iff, Bool.or_eq_false_iff, Bool.not_not, decide_eq_true_eq, decide_eq_false_iff_not, ne_eq, Decidable.not_not, Bool.decide_eq_true] at H1
    refine Gy (V_move rfl rfl) ?_
    refine Gy (V_leq rfl rfl rfl) ?_
    refine Gv (V_pick_t rfl rfl rfl) ?_
    refine G_end ?_
    exact JQ_end 3 rfl rfl (by kernel_rfl)
  · intro H2
    dsimp only [List.take]
    simp only [Bool.and_eq_true, Bool.or_eq_true, Bool.not_eq_true', Bool.not_eq_false', Bool.and_eq_false_iff, Bool.or_eq_false_iff, Bool.not_not, decide_eq_true_eq, decide_eq_false_iff_not, ne_eq, Decidable.not_not, Bool.decide_eq_true] at H2
    refine Gn ?_
    refine Gn ?_
    refine Gv (V_pick_f rfl rfl rfl) ?_
    refine G_end ?_
    exact JQ_end 3 rfl rfl (by kernel_rfl)
  dsimp only [List.drop]
  refine Gm ?_
  apply G_joinOr 7 9 16 rfl
  · intro H3
    dsimp only [List.take]
    simp only [Bool.and_eq_true, Bool.or_eq_true, Bool.not_eq_true', Bool.not_eq_false', Bool.and_eq_false_iff, Bool.or_eq_false_iff, Bool.not_not, decide_eq_true_eq, decide_eq_false_iff_not, ne_eq, Decidable.not_not, Bool.decide_eq_true] at H3
    refine Gn ?_
    refine Gn ?_
    refine Gn ?_
    refine G_stay (.un rfl rfl rfl rfl) rfl rfl ?_
    refine G_stay (.un rfl rfl rfl rfl) rfl rfl ?_
    refine Gn ?_
    refine Gv (V_pick_t rfl rfl rfl) ?_
    refine G_end ?_
    exact JQ_end 7 rfl rfl (by kernel_rfl)
  · intro H4
    dsimp only [List.take]
    simp only [Bool.and_eq_true, Bool.or_eq_true, Bool.not_eq_true', Bool.not_eq_false', Bool.and_eq_false_iff, Bool.or_eq_false_iff, Bool.not_not, decide_eq_true_eq, decide_eq_false_iff_not, ne_eq, Decidable.not_not, Bool.decide_eq_true] at H4
    refine Gy (V_move rfl rfl) ?_
    refine Gy (V_geq rfl rfl rfl) ?_
    refine Gy (V_move rfl rfl) ?_
    apply G_joinAnd 3 12 15 rfl
    · intro H5
      dsimp only [List.take]
      simp only [Bool.and_eq_true, Bool.or_eq_true, Bool.not_eq_true', Bool.not_eq_false', Bool.and_eq_false_iff, Bool.or_eq_false_iff, Bool.not_not, decide_eq_true_eq, decide_eq_false_iff_not, ne_eq, Decidable.not_not, Bool.decide_eq_true] at H5
      refine Gy (V_move rfl rfl) ?_
      refine Gy (V_leq rfl rfl rfl) ?_
      refine Gy (V_pick_t rfl rfl rfl) ?_
      refine G_end ?_
      exact JQ_end 3 rfl rfl (by kernel_rfl)
    · intro H6
      dsimp only [List.take]
      simp only [Bool.and_eq_true, Bool.or_eq_true, Bool.not_eq_true', Bool.not_eq_false', Bool.and_eq_false_iff, Bool.or_eq_false_iff, Bool.not_not, decide_eq_true_eq, decide_eq_false_iff_not, ne_eq, Decidable.not_not, Bool.decide_eq_true] at H6
      refine Gn ?_
      refine Gn ?_
      refine Gy (V_pick_f rfl rfl rfl) ?_
      refine G_end ?_
      exact JQ_end 3 rfl rfl (by kernel_rfl)
    dsimp only [List.drop]
    refine Gv (V_pick_f rfl rfl rfl) ?_
    refine G_end ?_
    exact JQ_end 5 rfl rfl (by kernel_rfl)
  dsimp only [List.drop]
  refine Ga ?_
  refine G_end (X_then (G_ret ?_))
  refine G_leaveS (.nil _) (by exact (.cons (.tmp rfl) (.nil))) rfl ?_ ?_
  · exact (.refl _)
  exact ⟨rfl, rfl⟩
theorem digitR_call (c : Int) : CallV Tryd.prog 98 #[.int .u8 c] E L (.bool (isDig c)) := by
  refine CallS.toV (CallS.intro (l := [.int .u8 c]) _ Tryd.func98 rfl Tryd.ntmps98 rfl ?_)
  refine G_seq (G_region ?_)
  refine Ga ?_
  refine G_end (X_then (G_seq (G_region ?_)))
  refine Gm ?_
  refine Gv (V_geq rfl rfl rfl) ?_
  refine Gm ?_
  apply G_joinAnd 3 5 8 rfl
  · intro H1
    dsimp only [List.take]
    simp only [Bool.and_eq_true, Bool.or_eq_true, Bool.not_eq_true', Bool.not_eq_false', Bool.and_eq_false_iff, Bool.or_eq_false_iff, Bool.not_not, decide_eq_true_eq, decide_eq_false_iff_not, ne_eq, Decidable.not_not, Bool.decide_eq_true] at H1
    refine Gy (V_move rfl rfl) ?_
    refine Gy (V_leq rfl rfl rfl) ?_
    refine Gv (V_pick_t rfl rfl rfl) ?_
    refine G_end ?_
    exact JQ_end 3 rfl rfl (by kernel_rfl)
  · intro H2
    dsimp only [List.take]
    simp only [Bool.and_eq_true, Bool.or_eq_true, Bool.not_eq_true', Bool.not_eq_false', Bool.and_eq_false_iff, Bool.or_eq_false_iff, Bool.not_not, decide_eq_true_eq, decide_eq_false_iff_not, ne_eq, Decidable.not_not, Bool.decide_eq_true] at H2
    refine Gn ?_
    refine Gn ?_
    refine Gv (V_pick_f rfl rfl rfl) ?_
    refine G_end ?_
    exact JQ_end 3 rfl rfl (by kernel_rfl)
  dsimp only [List.drop]
  refine Ga ?_
  refine G_end (X_then (G_ret ?_))
  refine G_leaveS (.nil _) (by exact (.cons (.tmp rfl) (.nil))) rfl ?_ ?_
  · exact (.refl _)
  exact ⟨rfl, rfl⟩
theorem Word_call (s : List UInt8) (hs : s.length ≤ 1000000) : CallV Tryd.prog 88 #[.string (S s)] E L (.int .i64 (wordE s)) := by
  refine CallS.toV (CallS.intro (l := [.string (S s)]) _ Tryd.func88 rfl Tryd.ntmps88 rfl ?_)
  cases s with
  | nil => refine G_seq ?_
           refine G_region ?_
           refine Ga ?_
           refine G_end (X_then (G_seq (G_seq (G_region ?_))))
           refine Gm ?_
           refine Gv (V_seql rfl rfl rfl) ?_
           refine G_end (X_then ?_)
           refine G_cond_t rfl (by kernel_rfl) ?_
           refine G_seq (G_region ?_)
           refine Ga ?_
           refine G_end (X_then (G_ret (X_then_ret ?_)))
           refine G_leaveS (.nil _) (by exact (.cons (.tmp rfl) (.nil))) rfl ?_ ?_
           · exact (.refl _)
           exact ⟨(by kernel_rfl), rfl⟩
  | cons c0 l0 =>
    obtain ⟨s, hs0⟩ : ∃ s, c0 :: l0 = s := ⟨_, rfl⟩
    have hne : 0 < s.length := by rw [← hs0]; simp
    have hne2 : s ≠ [] := by rw [← hs0]; simp
    rw [hs0] at hs ⊢
    refine G_seq (G_region ?_)
    refine Ga ?_
    refine G_end (X_then (G_seq (G_seq (G_region ?_))))
    refine Gm ?_
    refine Gv (V_seql rfl rfl rfl) ?_
    refine G_end (X_then ?_)
    refine G_cond_f rfl (decide_eq_false (by omega)) ?_
    refine G_skip (X_then (G_seq (G_seq (G_region ?_))))
    refine Gm ?_
    (refine G_rangeStr rfl rfl rfl rfl (.none rfl) ?_; intro b8)
    refine G_end (X_then (G_block ?_))
    refine G_loop (α := Nat) (fun _ => [(0, .string (S s)), (8, .pointer (some ⟨b8, 0, none⟩))]) (fun _ => E) (fun i => .blk b8 (.stringIter (S s) i) :: L)
      (fun i => i ≤ s.length ∧ ∀ k, k < i → (h : k < s.length) → badAt k (s[k].toNat : Int) = false) (fun i => s.length - i) 0 ⟨Nat.zero_le _, fun k hk => by omega⟩ ⟨rfl, rfl, trivial⟩ rfl rfl ?_
    rintro i ⟨hi, hall⟩
    by_cases hlt : i < s.length
    · refine G_seq ?_
      refine G_region ?_
      refine G_nextStr rfl rfl hlt rfl rfl (.none rfl) (fun _ => .head _ _ _) ?_ ?_
      · intro hasc
        obtain ⟨c, hc⟩ : ∃ c : Int, (s[i].toNat : Int) = c := ⟨_, rfl⟩
        have hbad : badAt (0 + i) (s[i].toNat : Int) = true → wordE s = 3 := fun h => by
          have := badW_of s 0 i hlt h
          rw [wordE, if_neg (by omega), if_pos this]
        rw [Nat.zero_add] at hbad
        rw [hc] at hbad ⊢
        cases hlet : isLet c with
        | true =>
          refine Gv (V_extract rfl rfl rfl) ?_
          refine G_end (X_then (G_seq ?_))
          refine G_cond_t rfl rfl ?_
          refine G_skip (X_then (G_block (G_seq (G_region ?_))))
          refine Gv (V_extract rfl rfl rfl) ?_
          refine Gv (V_extract rfl rfl rfl) ?_
          refine Ga ?_
          refine Ga ?_
          refine G_end (X_then (G_seq (G_region ?_)))
          refine Gm ?_
          refine G_callv (k := 94) (.mk rfl rfl rfl rfl) rfl rfl (.none rfl) (letter_call _ _ _) ?_
          refine Gv (V_not rfl rfl) ?_
          refine Gm ?_
          refine G.bool_f 16 rfl (by simp [*]; done) ?_
          refine Gn ?_
          refine Gn ?_
          refine Gn ?_
          refine G_stay (.un rfl rfl rfl rfl) rfl rfl ?_
          refine G_stay (.un rfl rfl rfl rfl) rfl rfl ?_
          refine G_stay (.un rfl rfl rfl rfl) rfl rfl ?_
          refine G_stay (.un rfl rfl rfl rfl) rfl rfl ?_
          refine G_stay (.un rfl rfl rfl rfl) rfl rfl ?_
          refine G_stay (.un rfl rfl rfl rfl) rfl rfl ?_
          refine G_stay (.un rfl rfl rfl rfl) rfl rfl ?_
          refine Gn ?_
          refine Gv (V_pick_f rfl rfl rfl) ?_
          refine G_end (X_then ?_)
          refine G_cond_f rfl rfl ?_
          refine G_skip (X_block (X_then ?_))
          refine G_again (i + 1) ⟨hlt, ?_⟩ (by omega) ⟨rfl, rfl, trivial⟩ rfl rfl
          intro k hk h
          by_cases hki : k = i
          · subst hki; rw [hc, badAt, hlet]; rfl
          · exact hall k (by omega) h
        | false =>
          cases hdig : isDig c with
          | true =>
            by_cases h0 : i = 0
            · rw [hbad (by rw [badAt, hlet, hdig]; simp [h0])]
              refine Gv (V_extract rfl rfl rfl) ?_
              refine G_end (X_then (G_seq ?_))
              refine G_cond_t rfl rfl ?_
              refine G_skip (X_then (G_block (G_seq (G_region ?_))))
              refine Gv (V_extract rfl rfl rfl) ?_
              refine Gv (V_extract rfl rfl rfl) ?_
              refine Ga ?_
              refine Ga ?_
              refine G_end (X_then (G_seq (G_region ?_)))
              refine Gm ?_
              refine G_callv (k := 94) (.mk rfl rfl rfl rfl) rfl rfl (.none rfl) (letter_call _ _ _) ?_
              refine Gv (V_not rfl rfl) ?_
              refine Gm ?_
              refine G.bool_t 16 rfl (by simp [*]; done) ?_
              refine Gy (V_move rfl rfl) ?_
              refine Gy (V_eql rfl rfl rfl) ?_
              refine Gy (V_move rfl rfl) ?_
              refine G.bool_t 19 rfl (decide_eq_true (by omega)) ?_
              refine Gn ?_
              refine Gn ?_
              refine Gn ?_
              refine Gn ?_
              refine G_stay (.un rfl rfl rfl rfl) rfl rfl ?_
              refine G_stay (.un rfl rfl rfl rfl) rfl rfl ?_
              refine Gn ?_
              refine Gy (V_pick_t rfl rfl rfl) ?_
              refine Gv (V_pick_t rfl rfl rfl) ?_
              refine G_end (X_then ?_)
              refine G_cond_t rfl rfl ?_
              refine G_seq (G_region ?_)
              refine Ga ?_
              refine G_end (X_then (G_ret (X_block_ret (X_then_ret (X_block_ret (X_then_ret ?_))))))
              refine G_leaveS (.drop _ (.nil _)) (by exact (.cons (.tmp rfl) (.nil))) rfl ?_ ?_
              · exact (.refl _)
              exact ⟨(by kernel_rfl), rfl⟩
            · refine Gv (V_extract rfl rfl rfl) ?_
              refine G_end (X_then (G_seq ?_))
              refine G_cond_t rfl rfl ?_
              refine G_skip (X_then (G_block (G_seq (G_region ?_))))
              refine Gv (V_extract rfl rfl rfl) ?_
              refine Gv (V_extract rfl rfl rfl) ?_
              refine Ga ?_
              refine Ga ?_
              refine G_end (X_then (G_seq (G_region ?_)))
              refine Gm ?_
              refine G_callv (k := 94) (.mk rfl rfl rfl rfl) rfl rfl (.none rfl) (letter_call _ _ _) ?_
              refine Gv (V_not rfl rfl) ?_
              refine Gm ?_
              refine G.bool_t 16 rfl (by simp [*]; done) ?_
              refine Gy (V_move rfl rfl) ?_
              refine Gy (V_eql rfl rfl rfl) ?_
              refine Gy (V_move rfl rfl) ?_
              refine G.bool_f 19 rfl (decide_eq_false (by omega)) ?_
              refine Gy (V_move rfl rfl) ?_
              refine G_callv (k := 95) (.mk rfl rfl rfl rfl) rfl rfl (.yes rfl rfl rfl rfl) (digit_call _ _ _) ?_
              refine Gy (V_not rfl rfl) ?_
              refine Gy (V_move rfl rfl) ?_
              refine G.bool_f 23 rfl (by simp [*]; done) ?_
              refine Gn ?_
              refine Gn ?_
              refine Gy (V_pick_f rfl rfl rfl) ?_
              refine Gy (V_pick_f rfl rfl rfl) ?_
              refine Gv (V_pick_t rfl rfl rfl) ?_
              refine G_end (X_then ?_)
              refine G_cond_f rfl rfl ?_
              refine G_skip (X_block (X_then ?_))
              refine G_again (i + 1) ⟨hlt, ?_⟩ (by omega) ⟨rfl, rfl, trivial⟩ rfl rfl
              intro k hk h
              by_cases hki : k = i
              · subst hki; rw [hc, badAt, hlet, hdig]; simp [h0]
              · exact hall k (by omega) h
          | false =>
            by_cases h0 : i = 0
            · rw [hbad (by rw [badAt, hlet, hdig]; simp [h0])]
              refine Gv (V_extract rfl rfl rfl) ?_
              refine G_end (X_then (G_seq ?_))
              refine G_cond_t rfl rfl ?_
              refine G_skip (X_then (G_block (G_seq (G_region ?_))))
              refine Gv (V_extract rfl rfl rfl) ?_
              refine Gv (V_extract rfl rfl rfl) ?_
              refine Ga ?_
              refine Ga ?_
              refine G_end (X_then (G_seq (G_region ?_)))
              refine Gm ?_
              refine G_callv (k := 94) (.mk rfl rfl rfl rfl) rfl rfl (.none rfl) (letter_call _ _ _) ?_
              refine Gv (V_not rfl rfl) ?_
              refine Gm ?_
              refine G.bool_t 16 rfl (by simp [*]; done) ?_
              refine Gy (V_move rfl rfl) ?_
              refine Gy (V_eql rfl rfl rfl) ?_
              refine Gy (V_move rfl rfl) ?_
              refine G.bool_t 19 rfl (decide_eq_true (by omega)) ?_
              refine Gn ?_
              refine Gn ?_
              refine Gn ?_
              refine Gn ?_
              refine G_stay (.un rfl rfl rfl rfl) rfl rfl ?_
              refine G_stay (.un rfl rfl rfl rfl) rfl rfl ?_
              refine Gn ?_
              refine Gy (V_pick_t rfl rfl rfl) ?_
              refine Gv (V_pick_t rfl rfl rfl) ?_
              refine G_end (X_then ?_)
              refine G_cond_t rfl rfl ?_
              refine G_seq (G_region ?_)
              refine Ga ?_
              refine G_end (X_then (G_ret (X_block_ret (X_then_ret (X_block_ret (X_then_ret ?_))))))
              refine G_leaveS (.drop _ (.nil _)) (by exact (.cons (.tmp rfl) (.nil))) rfl ?_ ?_
              · exact (.refl _)
              exact ⟨(by kernel_rfl), rfl⟩
            · by_cases h95 : c = 95
              · refine Gv (V_extract rfl rfl rfl) ?_
                refine G_end (X_then (G_seq ?_))
                refine G_cond_t rfl rfl ?_
                refine G_skip (X_then (G_block (G_seq (G_region ?_))))
                refine Gv (V_extract rfl rfl rfl) ?_
                refine Gv (V_extract rfl rfl rfl) ?_
                refine Ga ?_
                refine Ga ?_
                refine G_end (X_then (G_seq (G_region ?_)))
                refine Gm ?_
                refine G_callv (k := 94) (.mk rfl rfl rfl rfl) rfl rfl (.none rfl) (letter_call _ _ _) ?_
                refine Gv (V_not rfl rfl) ?_
                refine Gm ?_
                apply G_joinAnd 12 16 28 rfl
                · intro H1
                  dsimp only [List.take]
                  simp only [Bool.and_eq_true, Bool.or_eq_true, Bool.not_eq_true', Bool.not_eq_false', Bool.and_eq_false_iff, Bool.or_eq_false_iff, Bool.not_not, decide_eq_true_eq, decide_eq_false_iff_not, ne_eq, Decidable.not_not, Bool.decide_eq_true] at H1
                  refine Gy (V_move rfl rfl) ?_
                  refine Gy (V_eql rfl rfl rfl) ?_
                  refine Gy (V_move rfl rfl) ?_
                  refine G.bool_f 19 rfl (decide_eq_false (by omega)) ?_
                  refine Gy (V_move rfl rfl) ?_
                  refine G_callv (k := 95) (.mk rfl rfl rfl rfl) rfl rfl (.yes rfl rfl rfl rfl) (digit_call _ _ _) ?_
                  refine Gy (V_not rfl rfl) ?_
                  refine Gy (V_move rfl rfl) ?_
                  apply G_joinAnd 3 23 26 rfl
                  · intro H2
                    dsimp only [List.take]
                    simp only [Bool.and_eq_true, Bool.or_eq_true, Bool.not_eq_true', Bool.not_eq_false', Bool.and_eq_false_iff, Bool.or_eq_false_iff, Bool.not_not, decide_eq_true_eq, decide_eq_false_iff_not, ne_eq, Decidable.not_not, Bool.decide_eq_true] at H2
                    refine Gy (V_move rfl rfl) ?_
                    refine Gy (V_neq rfl rfl rfl) ?_
                    refine Gy (V_pick_t rfl rfl rfl) ?_
                    refine G_end ?_
                    exact JQ_end 3 rfl rfl (by kernel_rfl)
                  · intro H3
                    dsimp only [List.take]
                    simp only [Bool.and_eq_true, Bool.or_eq_true, Bool.not_eq_true', Bool.not_eq_false', Bool.and_eq_false_iff, Bool.or_eq_false_iff, Bool.not_not, decide_eq_true_eq, decide_eq_false_iff_not, ne_eq, Decidable.not_not, Bool.decide_eq_true] at H3
                    refine Gn ?_
                    refine Gn ?_
                    refine Gy (V_pick_f rfl rfl rfl) ?_
                    refine G_end ?_
                    exact JQ_end 3 rfl rfl (by kernel_rfl)
                  dsimp only [List.drop]
                  refine Gy (V_pick_f rfl rfl rfl) ?_
                  refine Gv (V_pick_t rfl rfl rfl) ?_
                  refine G_end ?_
                  exact JQ_end 11 rfl rfl (by kernel_rfl)
                · intro H4
                  dsimp only [List.take]
                  simp only [Bool.and_eq_true, Bool.or_eq_true, Bool.not_eq_true', Bool.not_eq_false', Bool.and_eq_false_iff, Bool.or_eq_false_iff, Bool.not_not, decide_eq_true_eq, decide_eq_false_iff_not, ne_eq, Decidable.not_not, Bool.decide_eq_true] at H4
                  refine Gn ?_
                  refine Gn ?_
                  refine Gn ?_
                  refine G_stay (.un rfl rfl rfl rfl) rfl rfl ?_
                  refine G_stay (.un rfl rfl rfl rfl) rfl rfl ?_
                  refine G_stay (.un rfl rfl rfl rfl) rfl rfl ?_
                  refine G_stay (.un rfl rfl rfl rfl) rfl rfl ?_
                  refine G_stay (.un rfl rfl rfl rfl) rfl rfl ?_
                  refine G_stay (.un rfl rfl rfl rfl) rfl rfl ?_
                  refine G_stay (.un rfl rfl rfl rfl) rfl rfl ?_
                  refine Gn ?_
                  refine Gv (V_pick_f rfl rfl rfl) ?_
                  refine G_end ?_
                  exact JQ_end 12 rfl rfl (by kernel_rfl)
                dsimp only [List.drop]
                refine G_end (X_then ?_)
                refine G_cond_f rfl (by simp [*]; done) ?_
                refine G_skip (X_block (X_then ?_))
                refine G_again (i + 1) ⟨hlt, ?_⟩ (by omega) ⟨rfl, rfl, trivial⟩ rfl rfl
                intro k hk h
                by_cases hki : k = i
                · subst hki; rw [hc, badAt, hlet, hdig]; simp [h0, h95]
                · exact hall k (by omega) h
              · rw [hbad (by rw [badAt, hlet, hdig]; simp [h95])]
                refine Gv (V_extract rfl rfl rfl) ?_
                refine G_end (X_then (G_seq ?_))
                refine G_cond_t rfl rfl ?_
                refine G_skip (X_then (G_block (G_seq (G_region ?_))))
                refine Gv (V_extract rfl rfl rfl) ?_
                refine Gv (V_extract rfl rfl rfl) ?_
                refine Ga ?_
                refine Ga ?_
                refine G_end (X_then (G_seq (G_region ?_)))
                refine Gm ?_
                refine G_callv (k := 94) (.mk rfl rfl rfl rfl) rfl rfl (.none rfl) (letter_call _ _ _) ?_
                refine Gv (V_not rfl rfl) ?_
                refine Gm ?_
                refine G.bool_t 16 rfl (by simp [*]; done) ?_
                refine Gy (V_move rfl rfl) ?_
                refine Gy (V_eql rfl rfl rfl) ?_
                refine Gy (V_move rfl rfl) ?_
                refine G.bool_f 19 rfl (decide_eq_false (by omega)) ?_
                refine Gy (V_move rfl rfl) ?_
                refine G_callv (k := 95) (.mk rfl rfl rfl rfl) rfl rfl (.yes rfl rfl rfl rfl) (digit_call _ _ _) ?_
                refine Gy (V_not rfl rfl) ?_
                refine Gy (V_move rfl rfl) ?_
                refine G.bool_t 23 rfl (by simp [*]; done) ?_
                refine Gy (V_move rfl rfl) ?_
                refine Gy (V_neq rfl rfl rfl) ?_
                refine Gy (V_pick_t rfl rfl rfl) ?_
                refine Gy (V_pick_f rfl rfl rfl) ?_
                refine Gv (V_pick_t rfl rfl rfl) ?_
                refine G_end (X_then ?_)
                refine G_cond_t rfl (decide_eq_true (by omega)) ?_
                refine G_seq (G_region ?_)
                refine Ga ?_
                refine G_end (X_then (G_ret (X_block_ret (X_then_ret (X_block_ret (X_then_ret ?_))))))
                refine G_leaveS (.drop _ (.nil _)) (by exact (.cons (.tmp rfl) (.nil))) rfl ?_ ?_
                · exact (.refl _)
                exact ⟨(by kernel_rfl), rfl⟩
      · intro hhigh c q hc1 hc2 hq
        obtain ⟨d, hd⟩ : ∃ d : Int, (c : Int) = d := ⟨_, rfl⟩
        have hlet : isLet d = false := by simp only [isLet, Bool.or_eq_false_iff, Bool.and_eq_false_iff, decide_eq_false_iff_not]; omega
        have hdig : isDig d = false := by simp only [isDig, Bool.and_eq_false_iff, decide_eq_false_iff_not]; omega
        have h95 : ¬ d = 95 := by omega
        have hlet' : isLet (s[i].toNat : Int) = false := by simp only [isLet, Bool.or_eq_false_iff, Bool.and_eq_false_iff, decide_eq_false_iff_not]; omega
        have hdig' : isDig (s[i].toNat : Int) = false := by simp only [isDig, Bool.and_eq_false_iff, decide_eq_false_iff_not]; omega
        have h95' : ¬ (s[i].toNat : Int) = 95 := by omega
        have hw : wordE s = 3 := by
          have := badW_of s 0 i hlt (by rw [badAt, hlet', hdig', decide_eq_true h95']; simp)
          rw [wordE, if_neg (by omega), if_pos this]
        rw [hw, hd]
        by_cases h0 : i = 0
        · refine Gv (V_extract rfl rfl rfl) ?_
          refine G_end (X_then (G_seq ?_))
          refine G_cond_t rfl rfl ?_
          refine G_skip (X_then (G_block (G_seq (G_region ?_))))
          refine Gv (V_extract rfl rfl rfl) ?_
          refine Gv (V_extract rfl rfl rfl) ?_
          refine Ga ?_
          refine Ga ?_
          refine G_end (X_then (G_seq (G_region ?_)))
          refine Gm ?_
          refine G_callv (k := 94) (.mk rfl rfl rfl rfl) rfl rfl (.none rfl) (letter_call _ _ _) ?_
          refine Gv (V_not rfl rfl) ?_
          refine Gm ?_
          refine G.bool_t 16 rfl (by simp [*]; done) ?_
          refine Gy (V_move rfl rfl) ?_
          refine Gy (V_eql rfl rfl rfl) ?_
          refine Gy (V_move rfl rfl) ?_
          refine G.bool_t 19 rfl (decide_eq_true (by omega)) ?_
          refine Gn ?_
          refine Gn ?_
          refine Gn ?_
          refine Gn ?_
          refine G_stay (.un rfl rfl rfl rfl) rfl rfl ?_
          refine G_stay (.un rfl rfl rfl rfl) rfl rfl ?_
          refine Gn ?_
          refine Gy (V_pick_t rfl rfl rfl) ?_
          refine Gv (V_pick_t rfl rfl rfl) ?_
          refine G_end (X_then ?_)
          refine G_cond_t rfl rfl ?_
          refine G_seq (G_region ?_)
          refine Ga ?_
          refine G_end (X_then (G_ret (X_block_ret (X_then_ret (X_block_ret (X_then_ret ?_))))))
          refine G_leaveS (.drop _ (.nil _)) (by exact (.cons (.tmp rfl) (.nil))) rfl ?_ ?_
          · exact (.refl _)
          exact ⟨(by kernel_rfl), rfl⟩
        · refine Gv (V_extract rfl rfl rfl) ?_
          refine G_end (X_then (G_seq ?_))
          refine G_cond_t rfl rfl ?_
          refine G_skip (X_then (G_block (G_seq (G_region ?_))))
          refine Gv (V_extract rfl rfl rfl) ?_
          refine Gv (V_extract rfl rfl rfl) ?_
          refine Ga ?_
          refine Ga ?_
          refine G_end (X_then (G_seq (G_region ?_)))
          refine Gm ?_
          refine G_callv (k := 94) (.mk rfl rfl rfl rfl) rfl rfl (.none rfl) (letter_call _ _ _) ?_
          refine Gv (V_not rfl rfl) ?_
          refine Gm ?_
          refine G.bool_t 16 rfl (by simp [*]; done) ?_
          refine Gy (V_move rfl rfl) ?_
          refine Gy (V_eql rfl rfl rfl) ?_
          refine Gy (V_move rfl rfl) ?_
          refine G.bool_f 19 rfl (decide_eq_false (by omega)) ?_
          refine Gy (V_move rfl rfl) ?_
          refine G_callv (k := 95) (.mk rfl rfl rfl rfl) rfl rfl (.yes rfl rfl rfl rfl) (digit_call _ _ _) ?_
          refine Gy (V_not rfl rfl) ?_
          refine Gy (V_move rfl rfl) ?_
          refine G.bool_t 23 rfl (by simp [*]; done) ?_
          refine Gy (V_move rfl rfl) ?_
          refine Gy (V_neq rfl rfl rfl) ?_
          refine Gy (V_pick_t rfl rfl rfl) ?_
          refine Gy (V_pick_f rfl rfl rfl) ?_
          refine Gv (V_pick_t rfl rfl rfl) ?_
          refine G_end (X_then ?_)
          refine G_cond_t rfl (decide_eq_true (by omega)) ?_
          refine G_seq (G_region ?_)
          refine Ga ?_
          refine G_end (X_then (G_ret (X_block_ret (X_then_ret (X_block_ret (X_then_ret ?_))))))
          refine G_leaveS (.drop _ (.nil _)) (by exact (.cons (.tmp rfl) (.nil))) rfl ?_ ?_
          · exact (.refl _)
          exact ⟨(by kernel_rfl), rfl⟩
    · have hil : i = s.length := by omega
      have hbw : badW 0 s = false := badW_all s 0 fun k hk => by rw [Nat.zero_add]; exact hall k (by omega) hk
      have hw : wordE s = if 12 < s.length then 4 else 0 := by rw [wordE, if_neg (by omega), hbw]; simp
      rw [hw]
      subst hil
      refine G_seq (G_region ?_)
      refine G_nextStrEnd rfl rfl (.head _) (Nat.le_refl _) rfl rfl (.none rfl) ?_
      refine Gv (V_extract rfl rfl rfl) ?_
      refine G_end (X_then (G_seq ?_))
      refine G_cond_f rfl rfl ?_
      refine G_exit (X_then_exit (X_then_exit (X_block_hit (X_then (G_seq (G_seq (G_region ?_)))))))
      refine Gm ?_
      refine Gv (V_len rfl rfl) ?_
      refine Gv (V_gtr rfl rfl rfl) ?_
      refine G_end (X_then ?_)
      refine G_cond rfl (fun H1 => ?_) (fun H1 => ?_)
      · simp only [Bool.and_eq_true, Bool.or_eq_true, Bool.not_eq_true', Bool.not_eq_false', Bool.and_eq_false_iff, Bool.or_eq_false_iff, Bool.not_not, decide_eq_true_eq, decide_eq_false_iff_not, ne_eq, Decidable.not_not, Bool.decide_eq_true] at H1
        refine G_seq (G_region ?_)
        refine Ga ?_
        refine G_end (X_then (G_ret (X_then_ret ?_)))
        refine G_leaveS (.drop _ (.nil _)) (by exact (.cons (.tmp rfl) (.nil))) rfl ?_ ?_
        · exact (.refl _)
        exact ⟨(by (simp (discharger := omega) only [resVal, if_pos, if_neg]; first | done | rfl)), (by rfl)⟩
      simp only [Bool.and_eq_true, Bool.or_eq_true, Bool.not_eq_true', Bool.not_eq_false', Bool.and_eq_false_iff, Bool.or_eq_false_iff, Bool.not_not, decide_eq_true_eq, decide_eq_false_iff_not, ne_eq, Decidable.not_not, Bool.decide_eq_true] at H1
      refine G_skip (X_then (G_seq (G_region ?_)))
      refine Ga ?_
      refine G_end (X_then (G_ret ?_))
      refine G_leaveS (.drop _ (.nil _)) (by exact (.cons (.tmp rfl) (.nil))) rfl ?_ ?_
      · exact (.refl _)
      exact ⟨(by (simp (discharger := omega) only [resVal, if_pos, if_neg]; first | done | rfl)), (by rfl)⟩
theorem WordR_call (s : List UInt8) (hs : s.length ≤ 1000000) : CallV Tryd.prog 90 #[.string (S s)] E L (.int .i64 (wordE s)) := by
  refine CallS.toV (CallS.intro (l := [.string (S s)]) _ Tryd.func90 rfl Tryd.ntmps90 rfl ?_)
  cases s with
  | nil => refine G_seq ?_
           refine G_region ?_
           refine Ga ?_
           refine G_end (X_then (G_seq (G_seq (G_region ?_))))
           refine Gm ?_
           refine Gv (V_seql rfl rfl rfl) ?_
           refine G_end (X_then ?_)
           refine G_cond_t rfl (by kernel_rfl) ?_
           refine G_seq (G_region ?_)
           refine Ga ?_
           refine G_end (X_then (G_ret (X_then_ret ?_)))
           refine G_leaveS (.nil _) (by exact (.cons (.tmp rfl) (.nil))) rfl ?_ ?_
           · exact (.refl _)
           exact ⟨(by kernel_rfl), rfl⟩
  | cons c0 l0 =>
    obtain ⟨s, hs0⟩ : ∃ s, c0 :: l0 = s := ⟨_, rfl⟩
    have hne : 0 < s.length := by rw [← hs0]; simp
    have hne2 : s ≠ [] := by rw [← hs0]; simp
    rw [hs0] at hs ⊢
    refine G_seq (G_region ?_)
    refine Ga ?_
    refine G_end (X_then (G_seq (G_seq (G_region ?_))))
    refine Gm ?_
    refine Gv (V_seql rfl rfl rfl) ?_
    refine G_end (X_then ?_)
    refine G_cond_f rfl (decide_eq_false (by omega)) ?_
    refine G_skip (X_then (G_seq (G_seq (G_region ?_))))
    refine Ga ?_
    refine G_end (X_then (G_block ?_))
    refine G_loop (α := Nat) (fun i => [(0, .string (S s)), (3, .int .i64 i)]) (fun _ => E) (fun i => L)
      (fun i => i ≤ s.length ∧ ∀ k, k < i → (h : k < s.length) → badAt k (s[k].toNat : Int) = false) (fun i => s.length - i) 0 ⟨Nat.zero_le _, fun k hk => by omega⟩ ⟨rfl, rfl, trivial⟩ rfl rfl ?_
    rintro i ⟨hi, hall⟩
    by_cases hlt : i < s.length
    · have hx := List.getElem?_eq_getElem hlt
      obtain ⟨c, hc⟩ : ∃ c : Int, (s[i].toNat : Int) = c := ⟨_, rfl⟩
      have hbad : badAt (0 + i) (s[i].toNat : Int) = true → wordE s = 3 := fun h => by
        have := badW_of s 0 i hlt h
        rw [wordE, if_neg (by omega), if_pos this]
      rw [Nat.zero_add] at hbad
      rw [hc] at hbad
      have go : badAt i c = false → ∀ k, k < i + 1 → (h : k < s.length) → badAt k (s[k].toNat : Int) = false := by
        intro hb k hk h
        by_cases hki : k = i
        · subst hki; rw [hc]; exact hb
        · exact hall k (by omega) h
      cases hlet : isLet c with
      | true =>
        refine G_seq (G_seq (G_region ?_))
        refine Gm ?_
        refine Gm ?_
        refine Gv (V_len rfl rfl) ?_
        refine Gv (V_lss rfl rfl rfl) ?_
        refine G_end (X_then ?_)
        refine G_cond_t rfl (decide_eq_true (by omega)) ?_
        refine G_skip (X_then (G_seq (G_block (G_seq (G_region ?_)))))
        refine Gm ?_
        refine Gm ?_
        refine Gv (V_sidx rfl rfl rfl (by omega) (by assumption)) ?_
        refine G_callv (k := 97) (.mk rfl rfl rfl rfl) rfl rfl (.none rfl) (letterR_call _ _ _) ?_
        refine Gv (V_not rfl rfl) ?_
        refine Gm ?_
        refine G.bool_f 17 rfl (by simp [*]; done) ?_
        refine Gn ?_
        refine Gn ?_
        refine Gn ?_
        refine G_stay (.un rfl rfl rfl rfl) rfl rfl ?_
        refine G_stay (.un rfl rfl rfl rfl) rfl rfl ?_
        refine G_stay (.un rfl rfl rfl rfl) rfl rfl ?_
        refine G_stay (.un rfl rfl rfl rfl) rfl rfl ?_
        refine G_stay (.un rfl rfl rfl rfl) rfl rfl ?_
        refine G_stay (.un rfl rfl rfl rfl) rfl rfl ?_
        refine G_stay (.un rfl rfl rfl rfl) rfl rfl ?_
        refine G_stay (.un rfl rfl rfl rfl) rfl rfl ?_
        refine G_stay (.un rfl rfl rfl rfl) rfl rfl ?_
        refine G_stay (.un rfl rfl rfl rfl) rfl rfl ?_
        refine G_stay (.un rfl rfl rfl rfl) rfl rfl ?_
        refine Gn ?_
        refine Gv (V_pick_f rfl rfl rfl) ?_
        refine G_end (X_then ?_)
        refine G_cond_f rfl rfl ?_
        refine G_skip (X_block (X_then (G_region ?_)))
        refine Gm ?_
        refine Gv (V_add_i64 rfl rfl rfl (by omega) (by omega)) ?_
        refine Ga ?_
        refine G_end (X_then ?_)
        exact G_again (i + 1) ⟨hlt, go (by rw [badAt, hlet]; rfl)⟩ (by omega) ⟨rfl, rfl, trivial⟩ rfl rfl
      | false =>
        cases hdig : isDig c with
        | true =>
          by_cases h0 : i = 0
          · rw [hbad (by rw [badAt, hlet, hdig]; simp [h0])]
            have hb : (!isLet (s[i].toNat : Int) && true) = true := by rw [hc, hlet]; rfl
            refine G_seq (G_seq (G_region ?_))
            refine Gm ?_
            refine Gm ?_
            refine Gv (V_len rfl rfl) ?_
            refine Gv (V_lss rfl rfl rfl) ?_
            refine G_end (X_then ?_)
            refine G_cond_t rfl (decide_eq_true (by omega)) ?_
            refine G_skip (X_then (G_seq (G_block (G_seq (G_region ?_)))))
            refine Gm ?_
            refine Gm ?_
            refine Gv (V_sidx rfl rfl rfl (by omega) (by assumption)) ?_
            refine G_callv (k := 97) (.mk rfl rfl rfl rfl) rfl rfl (.none rfl) (letterR_call _ _ _) ?_
            refine Gv (V_not rfl rfl) ?_
            refine Gm ?_
            apply G_joinAnd 16 17 33 rfl
            · intro H1
              dsimp only [List.take]
              simp only [Bool.and_eq_true, Bool.or_eq_true, Bool.not_eq_true', Bool.not_eq_false', Bool.and_eq_false_iff, Bool.or_eq_false_iff, Bool.not_not, decide_eq_true_eq, decide_eq_false_iff_not, ne_eq, Decidable.not_not, Bool.decide_eq_true] at H1
              refine Gy (V_move rfl rfl) ?_
              refine Gy (V_eql rfl rfl rfl) ?_
              refine Gy (V_move rfl rfl) ?_
              refine G.bool_t 20 rfl (decide_eq_true (by omega)) ?_
              refine Gn ?_
              refine Gn ?_
              refine Gn ?_
              refine Gn ?_
              refine Gn ?_
              refine Gn ?_
              refine G_stay (.un rfl rfl rfl rfl) rfl rfl ?_
              refine G_stay (.un rfl rfl rfl rfl) rfl rfl ?_
              refine G_stay (.un rfl rfl rfl rfl) rfl rfl ?_
              refine G_stay (.un rfl rfl rfl rfl) rfl rfl ?_
              refine Gn ?_
              refine Gy (V_pick_t rfl rfl rfl) ?_
              refine Gv (V_pick_t rfl rfl rfl) ?_
              refine G_end ?_
              exact JQ_end 17 rfl rfl (by kernel_rfl)
            · intro H2
              dsimp only [List.take]
              simp only [Bool.and_eq_true, Bool.or_eq_true, Bool.not_eq_true', Bool.not_eq_false', Bool.and_eq_false_iff, Bool.or_eq_false_iff, Bool.not_not, decide_eq_true_eq, decide_eq_false_iff_not, ne_eq, Decidable.not_not, Bool.decide_eq_true] at H2
              refine Gn ?_
              refine Gn ?_
              refine Gn ?_
              refine G_stay (.un rfl rfl rfl rfl) rfl rfl ?_
              refine G_stay (.un rfl rfl rfl rfl) rfl rfl ?_
              refine G_stay (.un rfl rfl rfl rfl) rfl rfl ?_
              refine G_stay (.un rfl rfl rfl rfl) rfl rfl ?_
              refine G_stay (.un rfl rfl rfl rfl) rfl rfl ?_
              refine G_stay (.un rfl rfl rfl rfl) rfl rfl ?_
              refine G_stay (.un rfl rfl rfl rfl) rfl rfl ?_
              refine G_stay (.un rfl rfl rfl rfl) rfl rfl ?_
              refine G_stay (.un rfl rfl rfl rfl) rfl rfl ?_
              refine G_stay (.un rfl rfl rfl rfl) rfl rfl ?_
              refine G_stay (.un rfl rfl rfl rfl) rfl rfl ?_
              refine Gn ?_
              refine Gv (V_pick_f rfl rfl rfl) ?_
              refine G_end ?_
              exact JQ_end 16 rfl rfl (by kernel_rfl)
            dsimp only [List.drop]
            refine G_end (X_then ?_)
            refine G_cond_t rfl (by assumption) ?_
            refine G_seq (G_region ?_)
            refine Ga ?_
            refine G_end (X_then (G_ret (X_block_ret (X_then_ret (X_then_ret (X_block_ret (X_then_ret ?_)))))))
            refine G_leaveS (.nil _) (by exact (.cons (.tmp rfl) (.nil))) rfl ?_ ?_
            · exact (.refl _)
            exact ⟨(by kernel_rfl), rfl⟩
          · have hb : badAt i c = false := by rw [badAt, hlet, hdig]; simp [h0]
            refine G_seq (G_seq (G_region ?_))
            refine Gm ?_
            refine Gm ?_
            refine Gv (V_len rfl rfl) ?_
            refine Gv (V_lss rfl rfl rfl) ?_
            refine G_end (X_then ?_)
            refine G_cond_t rfl (decide_eq_true (by omega)) ?_
            refine G_skip (X_then (G_seq (G_block (G_seq (G_region ?_)))))
            refine Gm ?_
            refine Gm ?_
            refine Gv (V_sidx rfl rfl rfl (by omega) (by assumption)) ?_
            refine G_callv (k := 97) (.mk rfl rfl rfl rfl) rfl rfl (.none rfl) (letterR_call _ _ _) ?_
            refine Gv (V_not rfl rfl) ?_
            refine Gm ?_
            refine G.bool_t 17 rfl (by simp [*]; done) ?_
            refine Gy (V_move rfl rfl) ?_
            refine Gy (V_eql rfl rfl rfl) ?_
            refine Gy (V_move rfl rfl) ?_
            refine G.bool_f 20 rfl (decide_eq_false (by omega)) ?_
            refine Gy (V_move rfl rfl) ?_
            refine Gy (V_move rfl rfl) ?_
            refine Gy (V_sidx rfl rfl rfl (by omega) (by assumption)) ?_
            refine G_callv (k := 98) (.mk rfl rfl rfl rfl) rfl rfl (.yes rfl rfl rfl rfl) (digitR_call _ _ _) ?_
            refine Gy (V_not rfl rfl) ?_
            refine Gy (V_move rfl rfl) ?_
            refine G.bool_f 26 rfl (by simp [*]; done) ?_
            refine Gn ?_
            refine Gn ?_
            refine Gn ?_
            refine Gn ?_
            refine Gy (V_pick_f rfl rfl rfl) ?_
            refine Gy (V_pick_f rfl rfl rfl) ?_
            refine Gv (V_pick_t rfl rfl rfl) ?_
            refine G_end (X_then ?_)
            refine G_cond_f rfl rfl ?_
            refine G_skip (X_block (X_then (G_region ?_)))
            refine Gm ?_
            refine Gv (V_add_i64 rfl rfl rfl (by omega) (by omega)) ?_
            refine Ga ?_
            refine G_end (X_then ?_)
            exact G_again (i + 1) ⟨hlt, go hb⟩ (by omega) ⟨rfl, rfl, trivial⟩ rfl rfl
        | false =>
          by_cases h0 : i = 0
          · rw [hbad (by rw [badAt, hlet, hdig]; simp [h0])]
            have hb : (!isLet (s[i].toNat : Int) && true) = true := by rw [hc, hlet]; rfl
            refine G_seq (G_seq (G_region ?_))
            refine Gm ?_
            refine Gm ?_
            refine Gv (V_len rfl rfl) ?_
            refine Gv (V_lss rfl rfl rfl) ?_
            refine G_end (X_then ?_)
            refine G_cond_t rfl (decide_eq_true (by omega)) ?_
            refine G_skip (X_then (G_seq (G_block (G_seq (G_region ?_)))))
            refine Gm ?_
            refine Gm ?_
            refine Gv (V_sidx rfl rfl rfl (by omega) (by assumption)) ?_
            refine G_callv (k := 97) (.mk rfl rfl rfl rfl) rfl rfl (.none rfl) (letterR_call _ _ _) ?_
            refine Gv (V_not rfl rfl) ?_
            refine Gm ?_
            apply G_joinAnd 16 17 33 rfl
            · intro H1
              dsimp only [List.take]
              simp only [Bool.and_eq_true, Bool.or_eq_true, Bool.not_eq_true', Bool.not_eq_false', Bool.and_eq_false_iff, Bool.or_eq_false_iff, Bool.not_not, decide_eq_true_eq, decide_eq_false_iff_not, ne_eq, Decidable.not_not, Bool.decide_eq_true] at H1
              refine Gy (V_move rfl rfl) ?_
              refine Gy (V_eql rfl rfl rfl) ?_
              refine Gy (V_move rfl rfl) ?_
              refine G.bool_t 20 rfl (decide_eq_true (by omega)) ?_
              refine Gn ?_
              refine Gn ?_
              refine Gn ?_
              refine Gn ?_
              refine Gn ?_
              refine Gn ?_
              refine G_stay (.un rfl rfl rfl rfl) rfl rfl ?_
              refine G_stay (.un rfl rfl rfl rfl) rfl rfl ?_
              refine G_stay (.un rfl rfl rfl rfl) rfl rfl ?_
              refine G_stay (.un rfl rfl rfl rfl) rfl rfl ?_
              refine Gn ?_
              refine Gy (V_pick_t rfl rfl rfl) ?_
              refine Gv (V_pick_t rfl rfl rfl) ?_
              refine G_end ?_
              exact JQ_end 17 rfl rfl (by kernel_rfl)
            · intro H2
              dsimp only [List.take]
              simp only [Bool.and_eq_true, Bool.or_eq_true, Bool.not_eq_true', Bool.not_eq_false', Bool.and_eq_false_iff, Bool.or_eq_false_iff, Bool.not_not, decide_eq_true_eq, decide_eq_false_iff_not, ne_eq, Decidable.not_not, Bool.decide_eq_true] at H2
              refine Gn ?_
              refine Gn ?_
              refine Gn ?_
              refine G_stay (.un rfl rfl rfl rfl) rfl rfl ?_
              refine G_stay (.un rfl rfl rfl rfl) rfl rfl ?_
              refine G_stay (.un rfl rfl rfl rfl) rfl rfl ?_
              refine G_stay (.un rfl rfl rfl rfl) rfl rfl ?_
              refine G_stay (.un rfl rfl rfl rfl) rfl rfl ?_
              refine G_stay (.un rfl rfl rfl rfl) rfl rfl ?_
              refine G_stay (.un rfl rfl rfl rfl) rfl rfl ?_
              refine G_stay (.un rfl rfl rfl rfl) rfl rfl ?_
              refine G_stay (.un rfl rfl rfl rfl) rfl rfl ?_
              refine G_stay (.un rfl rfl rfl rfl) rfl rfl ?_
              refine G_stay (.un rfl rfl rfl rfl) rfl rfl ?_
              refine Gn ?_
              refine Gv (V_pick_f rfl rfl rfl) ?_
              refine G_end ?_
              exact JQ_end 16 rfl rfl (by kernel_rfl)
            dsimp only [List.drop]
            refine G_end (X_then ?_)
            refine G_cond_t rfl (by assumption) ?_
            refine G_seq (G_region ?_)
            refine Ga ?_
            refine G_end (X_then (G_ret (X_block_ret (X_then_ret (X_then_ret (X_block_ret (X_then_ret ?_)))))))
            refine G_leaveS (.nil _) (by exact (.cons (.tmp rfl) (.nil))) rfl ?_ ?_
            · exact (.refl _)
            exact ⟨(by kernel_rfl), rfl⟩
          · by_cases h95 : c = 95
            · have hb : badAt i c = false := by rw [badAt, hlet, hdig]; simp [h0, h95]
              refine G_seq (G_seq (G_region ?_))
              refine Gm ?_
              refine Gm ?_
              refine Gv (V_len rfl rfl) ?_
              refine Gv (V_lss rfl rfl rfl) ?_
              refine G_end (X_then ?_)
              refine G_cond_t rfl (decide_eq_true (by omega)) ?_
              refine G_skip (X_then (G_seq (G_block (G_seq (G_region ?_)))))
              refine Gm ?_
              refine Gm ?_
              refine Gv (V_sidx rfl rfl rfl (by omega) (by assumption)) ?_
              refine G_callv (k := 97) (.mk rfl rfl rfl rfl) rfl rfl (.none rfl) (letterR_call _ _ _) ?_
              refine Gv (V_not rfl rfl) ?_
              refine Gm ?_
              apply G_joinAnd 16 17 33 rfl
              · intro H1
                dsimp only [List.take]
                simp only [Bool.and_eq_true, Bool.or_eq_true, Bool.not_eq_true', Bool.not_eq_false', Bool.and_eq_false_iff, Bool.or_eq_false_iff, Bool.not_not, decide_eq_true_eq, decide_eq_false_iff_not, ne_eq, Decidable.not_not, Bool.decide_eq_true] at H1
                refine Gy (V_move rfl rfl) ?_
                refine Gy (V_eql rfl rfl rfl) ?_
                refine Gy (V_move rfl rfl) ?_
                refine G.bool_f 20 rfl (decide_eq_false (by omega)) ?_
                refine Gy (V_move rfl rfl) ?_
                refine Gy (V_move rfl rfl) ?_
                refine Gy (V_sidx rfl rfl rfl (by omega) (by assumption)) ?_
                refine G_callv (k := 98) (.mk rfl rfl rfl rfl) rfl rfl (.yes rfl rfl rfl rfl) (digitR_call _ _ _) ?_
                refine Gy (V_not rfl rfl) ?_
                refine Gy (V_move rfl rfl) ?_
                apply G_joinAnd 5 26 31 rfl
                · intro H2
                  dsimp only [List.take]
                  simp only [Bool.and_eq_true, Bool.or_eq_true, Bool.not_eq_true', Bool.not_eq_false', Bool.and_eq_false_iff, Bool.or_eq_false_iff, Bool.not_not, decide_eq_true_eq, decide_eq_false_iff_not, ne_eq, Decidable.not_not, Bool.decide_eq_true] at H2
                  refine Gy (V_move rfl rfl) ?_
                  refine Gy (V_move rfl rfl) ?_
                  refine Gy (V_sidx rfl rfl rfl (by omega) (by assumption)) ?_
                  refine Gy (V_neq rfl rfl rfl) ?_
                  refine Gy (V_pick_t rfl rfl rfl) ?_
                  refine G_end ?_
                  exact JQ_end 5 rfl rfl (by kernel_rfl)
                · intro H3
                  dsimp only [List.take]
                  simp only [Bool.and_eq_true, Bool.or_eq_true, Bool.not_eq_true', Bool.not_eq_false', Bool.and_eq_false_iff, Bool.or_eq_false_iff, Bool.not_not, decide_eq_true_eq, decide_eq_false_iff_not, ne_eq, Decidable.not_not, Bool.decide_eq_true] at H3
                  refine Gn ?_
                  refine Gn ?_
                  refine Gn ?_
                  refine Gn ?_
                  refine Gy (V_pick_f rfl rfl rfl) ?_
                  refine G_end ?_
                  exact JQ_end 5 rfl rfl (by kernel_rfl)
                dsimp only [List.drop]
                refine Gy (V_pick_f rfl rfl rfl) ?_
                refine Gv (V_pick_t rfl rfl rfl) ?_
                refine G_end ?_
                exact JQ_end 13 rfl rfl (by kernel_rfl)
              · intro H4
                dsimp only [List.take]
                simp only [Bool.and_eq_true, Bool.or_eq_true, Bool.not_eq_true', Bool.not_eq_false', Bool.and_eq_false_iff, Bool.or_eq_false_iff, Bool.not_not, decide_eq_true_eq, decide_eq_false_iff_not, ne_eq, Decidable.not_not, Bool.decide_eq_true] at H4
                refine Gn ?_
                refine Gn ?_
                refine Gn ?_
                refine G_stay (.un rfl rfl rfl rfl) rfl rfl ?_
                refine G_stay (.un rfl rfl rfl rfl) rfl rfl ?_
                refine G_stay (.un rfl rfl rfl rfl) rfl rfl ?_
                refine G_stay (.un rfl rfl rfl rfl) rfl rfl ?_
                refine G_stay (.un rfl rfl rfl rfl) rfl rfl ?_
                refine G_stay (.un rfl rfl rfl rfl) rfl rfl ?_
                refine G_stay (.un rfl rfl rfl rfl) rfl rfl ?_
                refine G_stay (.un rfl rfl rfl rfl) rfl rfl ?_
                refine G_stay (.un rfl rfl rfl rfl) rfl rfl ?_
                refine G_stay (.un rfl rfl rfl rfl) rfl rfl ?_
                refine G_stay (.un rfl rfl rfl rfl) rfl rfl ?_
                refine Gn ?_
                refine Gv (V_pick_f rfl rfl rfl) ?_
                refine G_end ?_
                exact JQ_end 16 rfl rfl (by kernel_rfl)
              dsimp only [List.drop]
              refine G_end (X_then ?_)
              refine G_cond_f rfl (by simp [*]; done) ?_
              refine G_skip (X_block (X_then (G_region ?_)))
              refine Gm ?_
              refine Gv (V_add_i64 rfl rfl rfl (by omega) (by omega)) ?_
              refine Ga ?_
              refine G_end (X_then ?_)
              exact G_again (i + 1) ⟨hlt, go hb⟩ (by omega) ⟨rfl, rfl, trivial⟩ rfl rfl
            · rw [hbad (by rw [badAt, hlet, hdig]; simp [h95])]
              refine G_seq (G_seq (G_region ?_))
              refine Gm ?_
              refine Gm ?_
              refine Gv (V_len rfl rfl) ?_
              refine Gv (V_lss rfl rfl rfl) ?_
              refine G_end (X_then ?_)
              refine G_cond_t rfl (decide_eq_true (by omega)) ?_
              refine G_skip (X_then (G_seq (G_block (G_seq (G_region ?_)))))
              refine Gm ?_
              refine Gm ?_
              refine Gv (V_sidx rfl rfl rfl (by omega) (by assumption)) ?_
              refine G_callv (k := 97) (.mk rfl rfl rfl rfl) rfl rfl (.none rfl) (letterR_call _ _ _) ?_
              refine Gv (V_not rfl rfl) ?_
              refine Gm ?_
              refine G.bool_t 17 rfl (by simp [*]; done) ?_
              refine Gy (V_move rfl rfl) ?_
              refine Gy (V_eql rfl rfl rfl) ?_
              refine Gy (V_move rfl rfl) ?_
              refine G.bool_f 20 rfl (decide_eq_false (by omega)) ?_
              refine Gy (V_move rfl rfl) ?_
              refine Gy (V_move rfl rfl) ?_
              refine Gy (V_sidx rfl rfl rfl (by omega) (by assumption)) ?_
              refine G_callv (k := 98) (.mk rfl rfl rfl rfl) rfl rfl (.yes rfl rfl rfl rfl) (digitR_call _ _ _) ?_
              refine Gy (V_not rfl rfl) ?_
              refine Gy (V_move rfl rfl) ?_
              refine G.bool_t 26 rfl (by simp [*]; done) ?_
              refine Gy (V_move rfl rfl) ?_
              refine Gy (V_move rfl rfl) ?_
              refine Gy (V_sidx rfl rfl rfl (by omega) (by assumption)) ?_
              refine Gy (V_neq rfl rfl rfl) ?_
              refine Gy (V_pick_t rfl rfl rfl) ?_
              refine Gy (V_pick_f rfl rfl rfl) ?_
              refine Gv (V_pick_t rfl rfl rfl) ?_
              refine G_end (X_then ?_)
              refine G_cond_t rfl (decide_eq_true (by omega)) ?_
              refine G_seq (G_region ?_)
              refine Ga ?_
              refine G_end (X_then (G_ret (X_block_ret (X_then_ret (X_then_ret (X_block_ret (X_then_ret ?_)))))))
              refine G_leaveS (.nil _) (by exact (.cons (.tmp rfl) (.nil))) rfl ?_ ?_
              · exact (.refl _)
              exact ⟨(by kernel_rfl), rfl⟩
    · have hil : i = s.length := by omega
      have hbw : badW 0 s = false := badW_all s 0 fun k hk => by rw [Nat.zero_add]; exact hall k (by omega) hk
      have hw : wordE s = if 12 < s.length then 4 else 0 := by rw [wordE, if_neg (by omega), hbw]; simp
      rw [hw]
      subst hil
      refine G_seq (G_seq (G_region ?_))
      refine Gm ?_
      refine Gm ?_
      refine Gv (V_len rfl rfl) ?_
      refine Gv (V_lss rfl rfl rfl) ?_
      refine G_end (X_then ?_)
      refine G_cond_f rfl (decide_eq_false (by omega)) ?_
      refine G_exit (X_then_exit (X_then_exit (X_block_hit (X_then (G_seq (G_seq (G_region ?_)))))))
      refine Gm ?_
      refine Gv (V_len rfl rfl) ?_
      refine Gv (V_gtr rfl rfl rfl) ?_
      refine G_end (X_then ?_)
      refine G_cond rfl (fun H1 => ?_) (fun H1 => ?_)
      · simp only [Bool.and_eq_true, Bool.or_eq_true, Bool.not_eq_true', Bool.not_eq_false', Bool.and_eq_false_iff, Bool.or_eq_false_iff, Bool.not_not, decide_eq_true_eq, decide_eq_false_iff_not, ne_eq, Decidable.not_not, Bool.decide_eq_true] at H1
        refine G_seq (G_region ?_)
        refine Ga ?_
        refine G_end (X_then (G_ret (X_then_ret ?_)))
        refine G_leaveS (.nil _) (by exact (.cons (.tmp rfl) (.nil))) rfl ?_ ?_
        · exact (.refl _)
        exact ⟨(by (simp (discharger := omega) only [resVal, if_pos, if_neg]; first | done | rfl)), (by rfl)⟩
      simp only [Bool.and_eq_true, Bool.or_eq_true, Bool.not_eq_true', Bool.not_eq_false', Bool.and_eq_false_iff, Bool.or_eq_false_iff, Bool.not_not, decide_eq_true_eq, decide_eq_false_iff_not, ne_eq, Decidable.not_not, Bool.decide_eq_true] at H1
      refine G_skip (X_then (G_seq (G_region ?_)))
      refine Ga ?_
      refine G_end (X_then (G_ret ?_))
      refine G_leaveS (.nil _) (by exact (.cons (.tmp rfl) (.nil))) rfl ?_ ?_
      · exact (.refl _)
      exact ⟨(by (simp (discharger := omega) only [resVal, if_pos, if_neg]; first | done | rfl)), (by rfl)⟩
theorem IndexS_call (p : Option Addr) (n c : Nat) (l : List (List UInt8)) (hl : SlE E 1 p n (strs l)) (hn : n ≤ 1000000) (s : List UInt8) :
    CallS Tryd.prog 99 #[.slice p n c, .string (S s)] E L (fun r E' L' => ∃ i : Int, r = .int .i64 i ∧ (0 ≤ i ↔ s ∈ l) ∧ L' = L) := by
  have e1 := hl.nS
  subst e1
  refine CallS.intro (l := [.slice p l.length c, .string (S s)]) _ Tryd.func99 rfl Tryd.ntmps99 rfl ?_
  refine G_seq (G_region ?_)
  refine Ga ?_
  refine G_end (X_then (G_seq (G_seq (G_region ?_))))
  refine Gm ?_
  refine Gv (V_lenS rfl rfl) ?_
  refine Gm ?_
  refine G_end (X_then (G_block ?_))
  refine G_loop (α := Nat) (fun i => [(0, .slice p l.length c), (1, .string (S s)), (7, .int .i64 l.length), (8, .int .i64 i)]) (fun _ => E) (fun i => L)
    (fun i => i ≤ l.length ∧ s ∉ l.take i) (fun i => l.length - i) 0 ⟨Nat.zero_le _, by simp⟩ ⟨rfl, rfl, rfl, rfl, trivial⟩ rfl rfl ?_
  rintro i ⟨hi, hall⟩
  by_cases hlt : i < l.length
  · have hx := strs_get (List.getElem?_eq_getElem hlt)
    by_cases he : s = l[i]
    · have hmem : (0 : Int) ≤ (i : Int) ↔ s ∈ l := ⟨fun _ => by rw [he]; exact List.getElem_mem hlt, fun _ => by omega⟩
      refine G_seq (G_region ?_)
      refine Gv (V_lss rfl rfl rfl) ?_
      refine G_end (X_then (G_seq ?_))
      refine G_cond_t rfl (decide_eq_true (by omega)) ?_
      refine G_skip (X_then (G_seq (G_block (G_seq (G_region ?_)))))
      refine Gm ?_
      refine Ga ?_
      refine G_end (X_then (G_seq (G_region ?_)))
      refine Gm ?_
      refine Gm ?_
      refine Gm ?_
      refine Gv (V_idxAddr rfl rfl rfl (SlE.rd (by assumption)) (by omega) (by omega)) ?_
      refine Gv (V_loadS rfl rfl (SlE.rd (by assumption)) (by assumption) (by simp)) ?_
      refine Gv (V_seql rfl rfl rfl) ?_
      refine G_end (X_then ?_)
      refine G_cond_t rfl (decide_eq_true (by omega)) ?_
      refine G_seq (G_region ?_)
      refine Gm ?_
      refine Ga ?_
      refine G_end (X_then (G_ret (X_block_ret (X_then_ret (X_then_ret (X_block_ret (X_then_ret ?_)))))))
      refine G_leaveS (.nil _) (by exact (.cons (.tmp rfl) (.nil))) rfl ?_ ?_
      · exact (.refl _)
      exact ⟨_, ⟨rfl, ⟨(by assumption), rfl⟩⟩⟩
    · refine G_seq ?_
      refine G_region ?_
      refine Gv (V_lss rfl rfl rfl) ?_
      refine G_end (X_then (G_seq ?_))
      refine G_cond_t rfl (decide_eq_true (by omega)) ?_
      refine G_skip (X_then (G_seq (G_block (G_seq (G_region ?_)))))
      refine Gm ?_
      refine Ga ?_
      refine G_end (X_then (G_seq (G_region ?_)))
      refine Gm ?_
      refine Gm ?_
      refine Gm ?_
      refine Gv (V_idxAddr rfl rfl rfl (SlE.rd (by assumption)) (by omega) (by omega)) ?_
      refine Gv (V_loadS rfl rfl (SlE.rd (by assumption)) (by assumption) (by simp)) ?_
      refine Gv (V_seql rfl rfl rfl) ?_
      refine G_end (X_then ?_)
      refine G_cond_f rfl (decide_eq_false (by omega)) ?_
      refine G_skip (X_block (X_then (G_region ?_)))
      refine Gv (V_add_i64 rfl rfl rfl (by omega) (by omega)) ?_
      refine Gm ?_
      refine G_end (X_then ?_)
      refine G_again (i + 1) ⟨hlt, ?_⟩ (by omega) ⟨rfl, rfl, rfl, rfl, trivial⟩ rfl rfl
      rw [List.take_succ_eq_append_getElem hlt]
      simp only [List.mem_append, List.mem_singleton, not_or]
      exact ⟨hall, he⟩
  · have hmem : (0 : Int) ≤ -1 ↔ s ∈ l := ⟨fun h => by omega, fun h => by rw [List.take_of_length_le (by omega)] at hall; exact absurd h hall⟩
    refine G_seq (G_region ?_)
    refine Gv (V_lss rfl rfl rfl) ?_
    refine G_end (X_then (G_seq ?_))
    refine G_cond_f rfl (decide_eq_false (by omega)) ?_
    refine G_exit (X_then_exit (X_then_exit (X_block_hit (X_then (G_seq (G_region ?_))))))
    refine Ga ?_
    refine G_end (X_then (G_ret ?_))
    refine G_leaveS (.nil _) (by exact (.cons (.tmp rfl) (.nil))) rfl ?_ ?_
    · exact (.refl _)
    exact ⟨_, ⟨rfl, ⟨(by assumption), rfl⟩⟩⟩
theorem Contains_call (p : Option Addr) (n c : Nat) (l : List (List UInt8)) (hl : SlE E 1 p n (strs l)) (hn : n ≤ 1000000) (s : List UInt8) :
    CallS Tryd.prog 96 #[.slice p n c, .string (S s)] E L (fun r E' L' => r = .bool (decide (s ∈ l)) ∧ L' = L) := by
  refine CallS.intro (l := [.slice p n c, .string (S s)]) _ Tryd.func96 rfl Tryd.ntmps96 rfl ?_
  refine G_seq (G_region ?_)
  refine Ga ?_
  refine G_end (X_then (G_seq (G_region ?_)))
  refine Gm ?_
  refine Gm ?_
  refine G_call (k := 99) (.mk rfl rfl rfl rfl) rfl rfl (.none rfl) (IndexS_call _ _ _ _ _ _ (by assumption) (by assumption) _) ?_
  rintro r1 E2 L3 hE4 ⟨z5, ⟨rfl, ⟨Z6, rfl⟩⟩⟩
  replace hl := hl.mono hE4
  refine Gv (V_geq rfl rfl rfl) ?_
  refine Ga ?_
  refine G_end (X_then (G_ret ?_))
  refine G_leaveS (.nil _) (by exact (.cons (.tmp rfl) (.nil))) rfl ?_ ?_
  · exact hE4
  exact ⟨(by (simp [resVal, *]; done)), (by rfl)⟩
theorem Language_call (s : List UInt8) : CallV Tryd.prog 89 #[.string (S s)] E L (.bool (langB s)) := by
  refine CallS.toV (CallS.intro (l := [.string (S s)]) _ Tryd.func89 rfl Tryd.ntmps89 rfl ?_)
  refine G_seq (G_region ?_)
  refine Ga ?_
  refine G_end (X_then (G_seq (G_region ?_)))
  refine Gv (V_buildArr rfl rfl (by simp [fillS, setLs, setL, Value.cells]; rfl)) ?_
  (refine G_alloc rfl rfl rfl (.none rfl) ?_; intro b3)
  refine G_storeA rfl rfl rfl rfl (by simp [Value.oneCell']) rfl (.none rfl) (.head _ _ _) rfl ?_
  refine G_end (X_then (G_seq (G_region ?_)))
  refine Gv (V_slArr rfl rfl) ?_
  refine Gm ?_
  refine G.freezeB (.head _ _) (k := 4) (sz := 1) rfl ?_
  intro E1 hE1 hs1
  replace hs1 : SlE E1 1 (some ⟨b3, 0, none⟩) 4 (strs langW) := hs1
  refine G_call (k := 96) (.mk rfl rfl rfl rfl) rfl rfl (.none rfl) (Contains_call _ _ _ _ _ _ (by assumption) (by omega) _) ?_
  rintro r1 E2 L3 hE4 ⟨rfl, rfl⟩
  replace hs1 := hs1.mono hE4
  refine Ga ?_
  refine G_end (X_then (G_ret ?_))
  refine G_leaveS (.nil _) (by exact (.cons (.tmp rfl) (.nil))) rfl ?_ ?_
  · exact (hE1.trans hE4)
  exact ⟨rfl, rfl⟩
theorem LanguageR_call (s : List UInt8) : CallV Tryd.prog 91 #[.string (S s)] E L (.bool (langB s)) := by
  refine CallS.toV (CallS.intro (l := [.string (S s)]) _ Tryd.func91 rfl Tryd.ntmps91 rfl ?_)
  have e : langB s = (decide (s = [108, 111, 111, 107, 97, 104, 101, 97, 100]) || decide (s = [116, 111, 107, 101, 110]) || decide (s = [115, 101, 112, 97, 114, 97, 116, 111, 114]) || decide (s = [115, 116, 97, 114, 116])) := by
    rw [Bool.eq_iff_iff]
    simp [langB, langW, or_assoc]
  rw [e]
  refine G_seq (G_region ?_)
  refine Ga ?_
  refine G_end (X_then (G_seq (G_region ?_)))
  refine Gm ?_
  refine Gv (V_seql rfl rfl rfl) ?_
  refine Gm ?_
  apply G_joinOr 3 5 8 rfl
  · intro H1
    dsimp only [List.take]
    simp only [Bool.and_eq_true, Bool.or_eq_true, Bool.not_eq_true', Bool.not_eq_false', Bool.and_eq_false_iff, Bool.or_eq_false_iff, Bool.not_not, decide_eq_true_eq, decide_eq_false_iff_not, ne_eq, Decidable.not_not, Bool.decide_eq_true] at H1
    refine Gn ?_
    refine Gn ?_
    refine Gv (V_pick_t rfl rfl rfl) ?_
    refine G_end ?_
    exact JQ_end 3 rfl rfl (by kernel_rfl)
  · intro H2
    dsimp only [List.take]
    simp only [Bool.and_eq_true, Bool.or_eq_true, Bool.not_eq_true', Bool.not_eq_false', Bool.and_eq_false_iff, Bool.or_eq_false_iff, Bool.not_not, decide_eq_true_eq, decide_eq_false_iff_not, ne_eq, Decidable.not_not, Bool.decide_eq_true] at H2
    refine Gy (V_move rfl rfl) ?_
    refine Gy (V_seql rfl rfl rfl) ?_
    refine Gv (V_pick_f rfl rfl rfl) ?_
    refine G_end ?_
    exact JQ_end 3 rfl rfl (by kernel_rfl)
  dsimp only [List.drop]
  refine Gm ?_
  apply G_joinOr 3 9 12 rfl
  · intro H3
    dsimp only [List.take]
    simp only [Bool.and_eq_true, Bool.or_eq_true, Bool.not_eq_true', Bool.not_eq_false', Bool.and_eq_false_iff, Bool.or_eq_false_iff, Bool.not_not, decide_eq_true_eq, decide_eq_false_iff_not, ne_eq, Decidable.not_not, Bool.decide_eq_true] at H3
    refine Gn ?_
    refine Gn ?_
    refine Gv (V_pick_t rfl rfl rfl) ?_
    refine G_end ?_
    exact JQ_end 3 rfl rfl (by kernel_rfl)
  · intro H4
    dsimp only [List.take]
    simp only [Bool.and_eq_true, Bool.or_eq_true, Bool.not_eq_true', Bool.not_eq_false', Bool.and_eq_false_iff, Bool.or_eq_false_iff, Bool.not_not, decide_eq_true_eq, decide_eq_false_iff_not, ne_eq, Decidable.not_not, Bool.decide_eq_true] at H4
    refine Gy (V_move rfl rfl) ?_
    refine Gy (V_seql rfl rfl rfl) ?_
    refine Gv (V_pick_f rfl rfl rfl) ?_
    refine G_end ?_
    exact JQ_end 3 rfl rfl (by kernel_rfl)
  dsimp only [List.drop]
  refine Gm ?_
  apply G_joinOr 3 13 16 rfl
  · intro H5
    dsimp only [List.take]
    simp only [Bool.and_eq_true, Bool.or_eq_true, Bool.not_eq_true', Bool.not_eq_false', Bool.and_eq_false_iff, Bool.or_eq_false_iff, Bool.not_not, decide_eq_true_eq, decide_eq_false_iff_not, ne_eq, Decidable.not_not, Bool.decide_eq_true] at H5
    refine Gn ?_
    refine Gn ?_
    refine Gv (V_pick_t rfl rfl rfl) ?_
    refine G_end ?_
    exact JQ_end 3 rfl rfl (by kernel_rfl)
  · intro H6
    dsimp only [List.take]
    simp only [Bool.and_eq_true, Bool.or_eq_true, Bool.not_eq_true', Bool.not_eq_false', Bool.and_eq_false_iff, Bool.or_eq_false_iff, Bool.not_not, decide_eq_true_eq, decide_eq_false_iff_not, ne_eq, Decidable.not_not, Bool.decide_eq_true] at H6
    refine Gy (V_move rfl rfl) ?_
    refine Gy (V_seql rfl rfl rfl) ?_
    refine Gv (V_pick_f rfl rfl rfl) ?_
    refine G_end ?_
    exact JQ_end 3 rfl rfl (by kernel_rfl)
  dsimp only [List.drop]
  refine Ga ?_
  refine G_end (X_then (G_ret ?_))
  refine G_leaveS (.nil _) (by exact (.cons (.tmp rfl) (.nil))) rfl ?_ ?_
  · exact (.refl _)
  exact ⟨rfl, rfl⟩
theorem NCheck_call (s : List UInt8) (hs : s.length ≤ 1000000) : CallV Tryd.prog 78 #[.string (S s)] E L (.int .i64 (nameE s)) := by
  refine CallS.toV (CallS.intro (l := [.string (S s)]) _ Tryd.func78 rfl Tryd.ntmps78 rfl ?_)
  refine G_seq (G_region ?_)
  refine Ga ?_
  refine G_end (X_then (G_seq (G_region ?_)))
  refine Gm ?_
  refine G_callv (k := 88) (.mk rfl rfl rfl rfl) rfl rfl (.none rfl) (Word_call _ _ _ (by assumption)) ?_
  refine Ga ?_
  refine G_end (X_then (G_seq (G_seq (G_region ?_))))
  refine Gm ?_
  refine Gv (V_eql rfl rfl rfl) ?_
  refine Gm ?_
  apply G_joinAnd 3 8 11 rfl
  · intro H1
    dsimp only [List.take]
    simp only [Bool.and_eq_true, Bool.or_eq_true, Bool.not_eq_true', Bool.not_eq_false', Bool.and_eq_false_iff, Bool.or_eq_false_iff, Bool.not_not, decide_eq_true_eq, decide_eq_false_iff_not, ne_eq, Decidable.not_not, Bool.decide_eq_true] at H1
    refine Gy (V_move rfl rfl) ?_
    refine G_callv (k := 89) (.mk rfl rfl rfl rfl) rfl rfl (.yes rfl rfl rfl rfl) (Language_call _ _ _) ?_
    refine Gv (V_pick_t rfl rfl rfl) ?_
    refine G_end ?_
    exact JQ_end 3 rfl rfl (by kernel_rfl)
  · intro H2
    dsimp only [List.take]
    simp only [Bool.and_eq_true, Bool.or_eq_true, Bool.not_eq_true', Bool.not_eq_false', Bool.and_eq_false_iff, Bool.or_eq_false_iff, Bool.not_not, decide_eq_true_eq, decide_eq_false_iff_not, ne_eq, Decidable.not_not, Bool.decide_eq_true] at H2
    refine Gn ?_
    refine Gn ?_
    refine Gv (V_pick_f rfl rfl rfl) ?_
    refine G_end ?_
    exact JQ_end 3 rfl rfl (by kernel_rfl)
  dsimp only [List.drop]
  refine G_end (X_then ?_)
  refine G_cond rfl (fun H3 => ?_) (fun H3 => ?_)
  · simp only [Bool.and_eq_true, Bool.or_eq_true, Bool.not_eq_true', Bool.not_eq_false', Bool.and_eq_false_iff, Bool.or_eq_false_iff, Bool.not_not, decide_eq_true_eq, decide_eq_false_iff_not, ne_eq, Decidable.not_not, Bool.decide_eq_true] at H3
    refine G_region ?_
    refine Ga ?_
    refine G_end (X_then (G_seq (G_region ?_)))
    refine Gm ?_
    refine Ga ?_
    refine G_end (X_then (G_ret ?_))
    refine G_leaveS (.nil _) (by exact (.cons (.tmp rfl) (.nil))) rfl ?_ ?_
    · exact (.refl _)
    exact ⟨(by (simp [resVal, nameE, *]; done)), (by rfl)⟩
  simp only [Bool.and_eq_true, Bool.or_eq_true, Bool.not_eq_true', Bool.not_eq_false', Bool.and_eq_false_iff, Bool.or_eq_false_iff, Bool.not_not, decide_eq_true_eq, decide_eq_false_iff_not, ne_eq, Decidable.not_not, Bool.decide_eq_true] at H3
  refine G_skip (X_then (G_seq (G_region ?_)))
  refine Gm ?_
  refine Ga ?_
  refine G_end (X_then (G_ret ?_))
  refine G_leaveS (.nil _) (by exact (.cons (.tmp rfl) (.nil))) rfl ?_ ?_
  · exact (.refl _)
  exact ⟨(by ((try simp only [resVal, nameE]); (repeat' split) <;> first | rfl | (exfalso; omega) | (simp_all; done) | (simp_all; omega))), (by rfl)⟩
theorem NCheckR_call (s : List UInt8) (hs : s.length ≤ 1000000) : CallV Tryd.prog 81 #[.string (S s)] E L (.int .i64 (nameE s)) := by
  refine CallS.toV (CallS.intro (l := [.string (S s)]) _ Tryd.func81 rfl Tryd.ntmps81 rfl ?_)
  refine G_seq (G_region ?_)
  refine Ga ?_
  refine G_end (X_then (G_seq (G_region ?_)))
  refine Gm ?_
  refine G_callv (k := 90) (.mk rfl rfl rfl rfl) rfl rfl (.none rfl) (WordR_call _ _ _ (by assumption)) ?_
  refine Ga ?_
  refine G_end (X_then (G_seq (G_seq (G_region ?_))))
  refine Gm ?_
  refine Gv (V_eql rfl rfl rfl) ?_
  refine Gm ?_
  apply G_joinAnd 3 8 11 rfl
  · intro H1
    dsimp only [List.take]
    simp only [Bool.and_eq_true, Bool.or_eq_true, Bool.not_eq_true', Bool.not_eq_false', Bool.and_eq_false_iff, Bool.or_eq_false_iff, Bool.not_not, decide_eq_true_eq, decide_eq_false_iff_not, ne_eq, Decidable.not_not, Bool.decide_eq_true] at H1
    refine Gy (V_move rfl rfl) ?_
    refine G_callv (k := 91) (.mk rfl rfl rfl rfl) rfl rfl (.yes rfl rfl rfl rfl) (LanguageR_call _ _ _) ?_
    refine Gv (V_pick_t rfl rfl rfl) ?_
    refine G_end ?_
    exact JQ_end 3 rfl rfl (by kernel_rfl)
  · intro H2
    dsimp only [List.take]
    simp only [Bool.and_eq_true, Bool.or_eq_true, Bool.not_eq_true', Bool.not_eq_false', Bool.and_eq_false_iff, Bool.or_eq_false_iff, Bool.not_not, decide_eq_true_eq, decide_eq_false_iff_not, ne_eq, Decidable.not_not, Bool.decide_eq_true] at H2
    refine Gn ?_
    refine Gn ?_
    refine Gv (V_pick_f rfl rfl rfl) ?_
    refine G_end ?_
    exact JQ_end 3 rfl rfl (by kernel_rfl)
  dsimp only [List.drop]
  refine G_end (X_then ?_)
  refine G_cond rfl (fun H3 => ?_) (fun H3 => ?_)
  · simp only [Bool.and_eq_true, Bool.or_eq_true, Bool.not_eq_true', Bool.not_eq_false', Bool.and_eq_false_iff, Bool.or_eq_false_iff, Bool.not_not, decide_eq_true_eq, decide_eq_false_iff_not, ne_eq, Decidable.not_not, Bool.decide_eq_true] at H3
    refine G_region ?_
    refine Ga ?_
    refine G_end (X_then (G_seq (G_region ?_)))
    refine Gm ?_
    refine Ga ?_
    refine G_end (X_then (G_ret ?_))
    refine G_leaveS (.nil _) (by exact (.cons (.tmp rfl) (.nil))) rfl ?_ ?_
    · exact (.refl _)
    exact ⟨(by (simp [resVal, nameE, *]; done)), (by rfl)⟩
  simp only [Bool.and_eq_true, Bool.or_eq_true, Bool.not_eq_true', Bool.not_eq_false', Bool.and_eq_false_iff, Bool.or_eq_false_iff, Bool.not_not, decide_eq_true_eq, decide_eq_false_iff_not, ne_eq, Decidable.not_not, Bool.decide_eq_true] at H3
  refine G_skip (X_then (G_seq (G_region ?_)))
  refine Gm ?_
  refine Ga ?_
  refine G_end (X_then (G_ret ?_))
  refine G_leaveS (.nil _) (by exact (.cons (.tmp rfl) (.nil))) rfl ?_ ?_
  · exact (.refl _)
  exact ⟨(by ((try simp only [resVal, nameE]); (repeat' split) <;> first | rfl | (exfalso; omega) | (simp_all; done) | (simp_all; omega))), (by rfl)⟩
end
theorem nameE_first {s : List UInt8} (h : nameE s = 0) : ∃ c l, s = c :: l ∧ isLet (c.toNat : Int) = true := by
  unfold nameE at h
  split at h
  · rename_i h1
    unfold wordE at h1
    split at h1
    · cases h1
    · rename_i h2
      split at h1
      · cases h1
      · rename_i h3
        cases s with
        | nil => simp at h2
        | cons c l =>
          refine ⟨c, l, rfl, ?_⟩
          simp only [badW, Bool.or_eq_true, not_or, Bool.not_eq_true] at h3
          have := h3.1
          simp only [badAt, decide_true, Bool.true_or, Bool.and_true, Bool.not_eq_false'] at this
          exact this
  · contradiction
section
variable (E : Env) (L : List Res)
theorem Small_call (s : List UInt8) (hs : s.length ≤ 1000000) : CallV Tryd.prog 57 #[.string (S s)] E L (.bool (smallB s)) := by
  refine CallS.toV (CallS.intro (l := [.string (S s)]) _ Tryd.func57 rfl Tryd.ntmps57 rfl ?_)
  by_cases h : nameE s = 0
  · obtain ⟨c, l, rfl, hc⟩ := nameE_first h
    have hx : (c :: l)[Int.toNat 0]? = some c := rfl
    refine G_seq (G_region ?_)
    refine Ga ?_
    refine G_end (X_then (G_seq (G_region ?_)))
    refine Gm ?_
    refine G_callv (k := 78) (.mk rfl rfl rfl rfl) rfl rfl (.none rfl) (NCheck_call _ _ _ (by assumption)) ?_
    refine Gv (V_eql rfl rfl rfl) ?_
    refine Gm ?_
    refine G.bool_t 6 rfl (decide_eq_true (by omega)) ?_
    refine Gy (V_move rfl rfl) ?_
    refine Gy (V_sidx rfl rfl rfl (by omega) (by assumption)) ?_
    refine Gy (V_geq rfl rfl rfl) ?_
    refine Gv (V_pick_t rfl rfl rfl) ?_
    refine Ga ?_
    refine G_end (X_then (G_ret ?_))
    refine G_leaveS (.nil _) (by exact (.cons (.tmp rfl) (.nil))) rfl ?_ ?_
    · exact (.refl _)
    exact ⟨(by (simp [resVal, smallB, *]; done)), (by rfl)⟩
  · refine G_seq ?_
    refine G_region ?_
    refine Ga ?_
    refine G_end (X_then (G_seq (G_region ?_)))
    refine Gm ?_
    refine G_callv (k := 78) (.mk rfl rfl rfl rfl) rfl rfl (.none rfl) (NCheck_call _ _ _ (by assumption)) ?_
    refine Gv (V_eql rfl rfl rfl) ?_
    refine Gm ?_
    refine G.bool_f 6 rfl (decide_eq_false (by omega)) ?_
    refine Gn ?_
    refine Gn ?_
    refine Gn ?_
    refine Gv (V_pick_f rfl rfl rfl) ?_
    refine Ga ?_
    refine G_end (X_then (G_ret ?_))
    refine G_leaveS (.nil _) (by exact (.cons (.tmp rfl) (.nil))) rfl ?_ ?_
    · exact (.refl _)
    exact ⟨(by (simp [resVal, smallB, *]; done)), (by rfl)⟩
theorem SmallR_call (s : List UInt8) (hs : s.length ≤ 1000000) : CallV Tryd.prog 65 #[.string (S s)] E L (.bool (smallB s)) := by
  refine CallS.toV (CallS.intro (l := [.string (S s)]) _ Tryd.func65 rfl Tryd.ntmps65 rfl ?_)
  by_cases h : nameE s = 0
  · obtain ⟨c, l, rfl, hc⟩ := nameE_first h
    have hx : (c :: l)[Int.toNat 0]? = some c := rfl
    simp only [isLet, Bool.or_eq_true, Bool.and_eq_true, decide_eq_true_eq] at hc
    by_cases h1 : (97 : Int) ≤ c.toNat
    · have : smallB (c :: l) = true := by simp [smallB, h]; omega
      rw [this]
      refine G_seq (G_region ?_)
      refine Ga ?_
      refine G_end (X_then (G_seq (G_region ?_)))
      refine Gm ?_
      refine G_callv (k := 81) (.mk rfl rfl rfl rfl) rfl rfl (.none rfl) (NCheckR_call _ _ _ (by assumption)) ?_
      refine Gv (V_eql rfl rfl rfl) ?_
      refine Gm ?_
      refine G.bool_t 6 rfl (decide_eq_true (by omega)) ?_
      refine Gy (V_move rfl rfl) ?_
      refine Gy (V_sidx rfl rfl rfl (by omega) (by assumption)) ?_
      refine Gy (V_geq rfl rfl rfl) ?_
      refine Gv (V_pick_t rfl rfl rfl) ?_
      refine Gm ?_
      refine G.bool_t 11 rfl (decide_eq_true (by omega)) ?_
      refine Gy (V_move rfl rfl) ?_
      refine Gy (V_sidx rfl rfl rfl (by omega) (by assumption)) ?_
      refine Gy (V_leq rfl rfl rfl) ?_
      refine Gv (V_pick_t rfl rfl rfl) ?_
      refine Ga ?_
      refine G_end (X_then (G_ret ?_))
      refine G_leaveS (.nil _) (by exact (.cons (.tmp rfl) (.nil))) rfl ?_ ?_
      · exact (.refl _)
      exact ⟨(by ((try simp only [resVal]); (repeat' split) <;> first | rfl | (exfalso; omega) | (simp_all; done) | (simp_all; omega))), (by rfl)⟩
    · have : smallB (c :: l) = false := by simp [smallB, h]; omega
      rw [this]
      refine G_seq (G_region ?_)
      refine Ga ?_
      refine G_end (X_then (G_seq (G_region ?_)))
      refine Gm ?_
      refine G_callv (k := 81) (.mk rfl rfl rfl rfl) rfl rfl (.none rfl) (NCheckR_call _ _ _ (by assumption)) ?_
      refine Gv (V_eql rfl rfl rfl) ?_
      refine Gm ?_
      refine G.bool_t 6 rfl (decide_eq_true (by omega)) ?_
      refine Gy (V_move rfl rfl) ?_
      refine Gy (V_sidx rfl rfl rfl (by omega) (by assumption)) ?_
      refine Gy (V_geq rfl rfl rfl) ?_
      refine Gv (V_pick_t rfl rfl rfl) ?_
      refine Gm ?_
      refine G.bool_f 11 rfl (decide_eq_false (by omega)) ?_
      refine Gn ?_
      refine Gn ?_
      refine Gn ?_
      refine Gv (V_pick_f rfl rfl rfl) ?_
      refine Ga ?_
      refine G_end (X_then (G_ret ?_))
      refine G_leaveS (.nil _) (by exact (.cons (.tmp rfl) (.nil))) rfl ?_ ?_
      · exact (.refl _)
      exact ⟨(by kernel_rfl), rfl⟩
  · refine G_seq ?_
    refine G_region ?_
    refine Ga ?_
    refine G_end (X_then (G_seq (G_region ?_)))
    refine Gm ?_
    refine G_callv (k := 81) (.mk rfl rfl rfl rfl) rfl rfl (.none rfl) (NCheckR_call _ _ _ (by assumption)) ?_
    refine Gv (V_eql rfl rfl rfl) ?_
    refine Gm ?_
    refine G.bool_f 6 rfl (decide_eq_false (by omega)) ?_
    refine Gn ?_
    refine Gn ?_
    refine Gn ?_
    refine Gv (V_pick_f rfl rfl rfl) ?_
    refine Gm ?_
    refine Gn ?_
    refine Gn ?_
    refine Gn ?_
    refine Gv (V_pick_f rfl rfl rfl) ?_
    refine Ga ?_
    refine G_end (X_then (G_ret ?_))
    refine G_leaveS (.nil _) (by exact (.cons (.tmp rfl) (.nil))) rfl ?_ ?_
    · exact (.refl _)
    exact ⟨(by (simp [resVal, smallB, *]; done)), (by rfl)⟩
theorem Capital_call (s : List UInt8) (hs : s.length ≤ 1000000) : CallV Tryd.prog 58 #[.string (S s)] E L (.bool (capB s)) := by
  refine CallS.toV (CallS.intro (l := [.string (S s)]) _ Tryd.func58 rfl Tryd.ntmps58 rfl ?_)
  by_cases h : nameE s = 0
  · obtain ⟨c, l, rfl, hc⟩ := nameE_first h
    have hx : (c :: l)[Int.toNat 0]? = some c := rfl
    refine G_seq (G_region ?_)
    refine Ga ?_
    refine G_end (X_then (G_seq (G_region ?_)))
    refine Gm ?_
    refine G_callv (k := 78) (.mk rfl rfl rfl rfl) rfl rfl (.none rfl) (NCheck_call _ _ _ (by assumption)) ?_
    refine Gv (V_eql rfl rfl rfl) ?_
    refine Gm ?_
    refine G.bool_t 6 rfl (decide_eq_true (by omega)) ?_
    refine Gy (V_move rfl rfl) ?_
    refine Gy (V_sidx rfl rfl rfl (by omega) (by assumption)) ?_
    refine Gy (V_lss rfl rfl rfl) ?_
    refine Gv (V_pick_t rfl rfl rfl) ?_
    refine Ga ?_
    refine G_end (X_then (G_ret ?_))
    refine G_leaveS (.nil _) (by exact (.cons (.tmp rfl) (.nil))) rfl ?_ ?_
    · exact (.refl _)
    exact ⟨(by (simp [resVal, capB, *]; done)), (by rfl)⟩
  · refine G_seq ?_
    refine G_region ?_
    refine Ga ?_
    refine G_end (X_then (G_seq (G_region ?_)))
    refine Gm ?_
    refine G_callv (k := 78) (.mk rfl rfl rfl rfl) rfl rfl (.none rfl) (NCheck_call _ _ _ (by assumption)) ?_
    refine Gv (V_eql rfl rfl rfl) ?_
    refine Gm ?_
    refine G.bool_f 6 rfl (decide_eq_false (by omega)) ?_
    refine Gn ?_
    refine Gn ?_
    refine Gn ?_
    refine Gv (V_pick_f rfl rfl rfl) ?_
    refine Ga ?_
    refine G_end (X_then (G_ret ?_))
    refine G_leaveS (.nil _) (by exact (.cons (.tmp rfl) (.nil))) rfl ?_ ?_
    · exact (.refl _)
    exact ⟨(by (simp [resVal, capB, *]; done)), (by rfl)⟩
theorem CapitalR_call (s : List UInt8) (hs : s.length ≤ 1000000) : CallV Tryd.prog 66 #[.string (S s)] E L (.bool (capB s)) := by
  refine CallS.toV (CallS.intro (l := [.string (S s)]) _ Tryd.func66 rfl Tryd.ntmps66 rfl ?_)
  by_cases h : nameE s = 0
  · obtain ⟨c, l, rfl, hc⟩ := nameE_first h
    have hx : (c :: l)[Int.toNat 0]? = some c := rfl
    simp only [isLet, Bool.or_eq_true, Bool.and_eq_true, decide_eq_true_eq] at hc
    by_cases h1 : (97 : Int) ≤ c.toNat
    · have : capB (c :: l) = false := by simp [capB, h]; omega
      rw [this]
      refine G_seq (G_region ?_)
      refine Ga ?_
      refine G_end (X_then (G_seq (G_region ?_)))
      refine Gm ?_
      refine G_callv (k := 81) (.mk rfl rfl rfl rfl) rfl rfl (.none rfl) (NCheckR_call _ _ _ (by assumption)) ?_
      refine Gv (V_eql rfl rfl rfl) ?_
      refine Gm ?_
      refine G.bool_t 6 rfl (decide_eq_true (by omega)) ?_
      refine Gy (V_move rfl rfl) ?_
      refine Gy (V_sidx rfl rfl rfl (by omega) (by assumption)) ?_
      refine Gy (V_geq rfl rfl rfl) ?_
      refine Gv (V_pick_t rfl rfl rfl) ?_
      refine Gm ?_
      refine G.bool_t 11 rfl (decide_eq_true (by omega)) ?_
      refine Gy (V_move rfl rfl) ?_
      refine Gy (V_sidx rfl rfl rfl (by omega) (by assumption)) ?_
      refine Gy (V_leq rfl rfl rfl) ?_
      refine Gv (V_pick_t rfl rfl rfl) ?_
      refine Ga ?_
      refine G_end (X_then (G_ret ?_))
      refine G_leaveS (.nil _) (by exact (.cons (.tmp rfl) (.nil))) rfl ?_ ?_
      · exact (.refl _)
      exact ⟨(by ((try simp only [resVal]); (repeat' split) <;> first | rfl | (exfalso; omega) | (simp_all; done) | (simp_all; omega))), (by rfl)⟩
    · have : capB (c :: l) = true := by simp [capB, h]; omega
      rw [this]
      refine G_seq (G_region ?_)
      refine Ga ?_
      refine G_end (X_then (G_seq (G_region ?_)))
      refine Gm ?_
      refine G_callv (k := 81) (.mk rfl rfl rfl rfl) rfl rfl (.none rfl) (NCheckR_call _ _ _ (by assumption)) ?_
      refine Gv (V_eql rfl rfl rfl) ?_
      refine Gm ?_
      refine G.bool_t 6 rfl (decide_eq_true (by omega)) ?_
      refine Gy (V_move rfl rfl) ?_
      refine Gy (V_sidx rfl rfl rfl (by omega) (by assumption)) ?_
      refine Gy (V_geq rfl rfl rfl) ?_
      refine Gv (V_pick_t rfl rfl rfl) ?_
      refine Gm ?_
      refine G.bool_t 11 rfl (decide_eq_true (by omega)) ?_
      refine Gy (V_move rfl rfl) ?_
      refine Gy (V_sidx rfl rfl rfl (by omega) (by assumption)) ?_
      refine Gy (V_leq rfl rfl rfl) ?_
      refine Gv (V_pick_t rfl rfl rfl) ?_
      refine Ga ?_
      refine G_end (X_then (G_ret ?_))
      refine G_leaveS (.nil _) (by exact (.cons (.tmp rfl) (.nil))) rfl ?_ ?_
      · exact (.refl _)
      exact ⟨(by ((try simp only [resVal]); (repeat' split) <;> first | rfl | (exfalso; omega) | (simp_all; done) | (simp_all; omega))), (by rfl)⟩
  · refine G_seq ?_
    refine G_region ?_
    refine Ga ?_
    refine G_end (X_then (G_seq (G_region ?_)))
    refine Gm ?_
    refine G_callv (k := 81) (.mk rfl rfl rfl rfl) rfl rfl (.none rfl) (NCheckR_call _ _ _ (by assumption)) ?_
    refine Gv (V_eql rfl rfl rfl) ?_
    refine Gm ?_
    refine G.bool_f 6 rfl (decide_eq_false (by omega)) ?_
    refine Gn ?_
    refine Gn ?_
    refine Gn ?_
    refine Gv (V_pick_f rfl rfl rfl) ?_
    refine Gm ?_
    refine Gn ?_
    refine Gn ?_
    refine Gn ?_
    refine Gv (V_pick_f rfl rfl rfl) ?_
    refine Ga ?_
    refine G_end (X_then (G_ret ?_))
    refine G_leaveS (.nil _) (by exact (.cons (.tmp rfl) (.nil))) rfl ?_ ?_
    · exact (.refl _)
    exact ⟨(by (simp [resVal, capB, *]; done)), (by rfl)⟩
end
end Go.Proofs.YtaibabmladgldaaDoor
set_option linter.unusedSimpArgs false
set_option linter.unusedVariables false
set_option maxHeartbeats 2000000
set_option maxRecDepth 20000
namespace Go.Proofs.YtaibabmladgldaaDoor
open Go.RowKit

/-! The program's check of a grammar. -/
abbrev rowEnc (x : Row × Nat) : List Value := [.int .i64 (x.2 : Int), .agg #[.int .i64 x.1.2.2.1, .slice x.1.1 x.1.2.2.2.length x.1.2.1]]
theorem zip_pre {α : Type} {l : List α} {pre : List (α × Nat)} {x : α × Nat} (h : pre ++ [x] <+: l.zipIdx) : l[pre.length]? = some x.1 ∧ x.2 = pre.length ∧ pre.length < l.length := by
  obtain ⟨t, ht⟩ := h
  have h1 : (l.zipIdx)[pre.length]? = some x := by rw [← ht]; simp
  rw [List.getElem?_zipIdx] at h1
  simp only [Option.map_eq_some_iff, Nat.zero_add] at h1
  obtain ⟨a, h2, h3⟩ := h1
  subst h3
  exact ⟨h2, rfl, (List.getElem?_eq_some_iff.1 h2).1⟩
abbrev GB (b : Nat) (g : Gr) (tp : Option Addr) (tc : Nat) (np : Option Addr) (nc : Nat) (pp : Option Addr) (pc : Nat) : Res := .blk b (.cells #[.int .i64 g.k, .slice tp g.toks.length tc, .string (S g.sep), .slice np g.names.length nc, .int .i64 g.start, .slice pp g.prods.length pc] 25 (0, 0))
section
variable (E : Env) (L : List Res)
theorem iter_prods (c : Nat) (p : Option Addr) (n cc : Nat) (rows : List Row) (hl : SlE E 2 p n (prows rows)) (hn : n ≤ 1000) :
    Iter Tryd.prog 87 #[.pointer (some ⟨c, 0, none⟩)] (fun x => (rowEnc x).toArray) rows.zipIdx E [.blk c (.cells #[.slice p n cc] 23 (0, 0))] := by
  have e1 := hl.nR
  subst e1
  intro y E0 L0 Inv InvX hE0 h0 hy
  replace hl := hl.mono hE0
  refine CallS.intro (L := .blk c (.cells #[.slice p rows.length cc] 23 (0, 0)) :: L0) (l := [.func (.yield y) #[] #[], .pointer (some ⟨c, 0, none⟩)]) _ Tryd.func87 rfl Tryd.ntmps87 rfl ?_
  refine G_seq (G_region ?_)
  refine Gv (V_load rfl rfl (Cell.own1 (.head _))) ?_
  refine Gv (V_lenS rfl rfl) ?_
  refine Gm ?_
  refine G_end (X_then (G_block ?_))
  refine G_loop (α := Nat × Env × List Res) (fun x => [(0, .func (.yield y) #[] #[]), (5, .slice p rows.length cc), (6, .int .i64 rows.length), (7, .int .i64 x.1)]) (fun x => x.2.1) (fun x => .blk c (.cells #[.slice p rows.length cc] 23 (0, 0)) :: x.2.2)
    (fun x => E0.Le x.2.1 ∧ x.1 ≤ rows.length ∧ Inv (rows.zipIdx.take x.1) x.2.1 x.2.2) (fun x => rows.length - x.1) (0, E0, L0)
    ⟨.refl _, Nat.zero_le _, h0⟩ ⟨rfl, rfl, rfl, rfl, trivial⟩ rfl rfl ?_
  rintro ⟨k, E, L⟩ ⟨hE, hk, hI⟩
  simp only at hE hk hI ⊢
  replace hl := hl.mono hE
  by_cases hlt : k < rows.length
  · have hx := prows_get (List.getElem?_eq_getElem hlt)
    have hz : rows.zipIdx.take (k + 1) = rows.zipIdx.take k ++ [(rows[k], k)] := by
      rw [List.take_succ_eq_append_getElem (by simpa using hlt)]; simp
    have hpre : rows.zipIdx.take k ++ [(rows[k], k)] <+: rows.zipIdx := by rw [← hz]; exact List.take_prefix _ _
    refine G_seq (G_region ?_)
    refine Gv (V_lss rfl rfl rfl) ?_
    refine G_end (X_then (G_seq ?_))
    refine G_cond_t rfl (decide_eq_true (by omega)) ?_
    refine G_skip (X_then (G_seq (G_block (G_seq (G_region ?_)))))
    refine Gm ?_
    refine Gv (V_idxAddr rfl rfl rfl (SlE.rd (by assumption)) (by omega) (by omega)) ?_
    refine Gv (V_loadAS rfl rfl (SlE.rd (by assumption)) (by assumption) (by simp) (by rfl)) ?_
    (refine G_alloc rfl rfl rfl (.none rfl) ?_; intro b4)
    refine Ga ?_
    refine G_storeA rfl rfl rfl rfl (by simp [Value.oneCell']) rfl (.none rfl) (.head _ _ _) rfl ?_
    refine G_end (X_then (G_seq (G_region ?_)))
    refine Gm ?_
    refine Gm ?_
    refine Gv (V_loadA rfl rfl (Cells.own (.head _)) rfl) ?_
    refine G.drop ?_
    refine G_yield (.mk rfl rfl rfl rfl) rfl rfl (.none rfl) (hy _ (rows[k], k) E L [_] hE hpre hI) ?_
    rintro r E' L' hE' ⟨L3, rfl, (⟨rfl, hI'⟩ | ⟨rfl, hI'⟩)⟩
    · refine Gv (V_not rfl rfl) ?_
      refine G_end (X_then ?_)
      refine G_cond_f rfl (by kernel_rfl) ?_
      refine G_skip (X_block (X_then (G_region ?_)))
      refine Gv (V_add_i64 rfl rfl rfl (by omega) (by omega)) ?_
      refine Gm ?_
      refine G_end (X_then ?_)
      exact G_again (k + 1, E', L3) ⟨hE.trans hE', by simp only; omega, by rw [hz]; exact hI'⟩ (by simp only; omega) ⟨rfl, rfl, rfl, rfl, trivial⟩ rfl rfl
    · refine Gv (V_not rfl rfl) ?_
      refine G_end (X_then ?_)
      refine G_cond_t rfl (by kernel_rfl) ?_
      refine G_ret (X_block_ret (X_then_ret (X_then_ret (X_block_ret ?_))))
      exact G_leave_n 0 .nil rfl (hE.trans hE') ⟨[_], L3, rfl, .inr ⟨_, hpre, hI'⟩⟩
  · have hke : k = rows.length := by omega
    subst hke
    rw [List.take_of_length_le (by simp)] at hI
    refine G_seq (G_region ?_)
    refine Gv (V_lss rfl rfl rfl) ?_
    refine G_end (X_then (G_seq ?_))
    refine G_cond_f rfl (decide_eq_false (by omega)) ?_
    refine G_exit (X_then_exit (X_then_exit (X_block_hit ?_)))
    exact G_leave_n 0 .nil rfl hE ⟨[_], L, rfl, .inl hI⟩
theorem All_call (p : Option Addr) (n c : Nat) : CallS Tryd.prog 77 #[.slice p n c] E L (fun r E' L' => ∃ b, r = .func (.func 87) #[] #[.pointer (some ⟨b, 0, none⟩)] ∧ E = E' ∧ L' = .blk b (.cells #[.slice p n c] 23 (0, 0)) :: L) := by
  refine CallS.intro (l := [.slice p n c]) _ Tryd.func77 rfl Tryd.ntmps77 rfl ?_
  refine G_seq (G_region ?_)
  (refine G_box1 rfl rfl rfl rfl rfl (.none rfl) ?_; intro b1)
  refine Ga ?_
  refine G_end (X_then (G_seq (G_region ?_)))
  refine Gv (V_makeFunc rfl rfl rfl) ?_
  refine Ga ?_
  refine G_end (X_then (G_ret ?_))
  refine G_leaveS (.keep _ (.nil _)) (by exact (.cons (.tmp rfl) (.nil))) rfl ?_ ?_
  · exact (.refl _)
  exact ⟨_, ⟨rfl, ⟨rfl, rfl⟩⟩⟩
theorem prods_call (a b c d e : Value) (p : Option Addr) (n m : Nat) : CallS Tryd.prog 56 #[.agg #[a, b, c, d, e, .slice p n m]] E L (fun r E' L' => ∃ b, r = .func (.func 87) #[] #[.pointer (some ⟨b, 0, none⟩)] ∧ E = E' ∧ L' = .blk b (.cells #[.slice p n m] 23 (0, 0)) :: L) := by
  refine CallS.intro (l := [.agg #[a, b, c, d, e, .slice p n m]]) _ Tryd.func56 rfl Tryd.ntmps56 rfl ?_
  refine G_seq (G_region ?_)
  (refine G_boxA rfl rfl rfl rfl (.none rfl) ?_; intro b1)
  refine Ga ?_
  refine G_end (X_then (G_seq (G_region ?_)))
  refine Gv (V_fieldAddr rfl rfl (by decide)) ?_
  refine Gv (V_load rfl rfl (Cell.own (.head _) rfl)) ?_
  refine G_call (k := 77) (.mk rfl rfl rfl rfl) rfl rfl (.none rfl) (All_call _ _ _ _ _) ?_
  rintro r1 E2 L3 hE4 ⟨z5, ⟨rfl, ⟨rfl, rfl⟩⟩⟩
  refine Ga ?_
  refine G_end (X_then (G_ret ?_))
  refine G_leaveS (.keep _ (.drop _ (.nil _))) (by exact (.cons (.tmp rfl) (.nil))) rfl ?_ ?_
  · exact (.refl _)
  exact ⟨_, ⟨rfl, ⟨rfl, rfl⟩⟩⟩
end
end Go.Proofs.YtaibabmladgldaaDoor
set_option linter.unusedSimpArgs false
set_option linter.unusedVariables false
set_option maxHeartbeats 2000000
set_option maxRecDepth 20000
namespace Go.Proofs.YtaibabmladgldaaDoor
open Go.RowKit

theorem any_of {α : Type} {l : List α} {f : α → Bool} {i : Nat} (h : i < l.length) (hf : f l[i] = true) : l.any f = true := List.any_eq_true.2 ⟨l[i], List.getElem_mem h, hf⟩
theorem any_none {α : Type} {l : List α} {f : α → Bool} (h : ∀ i, (hi : i < l.length) → f l[i] = false) : l.any f = false := by
  rw [List.any_eq_false]
  intro x hx
  obtain ⟨i, hi, rfl⟩ := List.mem_iff_getElem.1 hx
  simp [h i hi]
theorem all_of {α : Type} {l : List α} {f : α → Bool} (h : ∀ i, (hi : i < l.length) → f l[i] = true) : l.all f = true := by
  rw [List.all_eq_true]
  intro x hx
  obtain ⟨i, hi, rfl⟩ := List.mem_iff_getElem.1 hx
  exact h i hi
theorem all_not {α : Type} {l : List α} {f : α → Bool} {i : Nat} (h : i < l.length) (hf : f l[i] = false) : l.all f = false := List.all_eq_false.2 ⟨l[i], List.getElem_mem h, by simp [hf]⟩
def fullB (g : Gr) : Bool := decide (8 < g.toks.length) || decide (8 < g.names.length) || decide (24 < g.prods.length) || g.prods.any (fun p => decide (6 < p.2.length))
theorem fullB_pos {g : Gr} (h : ¬ (g.toks.length ≤ 8 ∧ g.names.length ≤ 8 ∧ g.prods.length ≤ 24)) : fullB g = true := by
  have : 8 < g.toks.length ∨ 8 < g.names.length ∨ 24 < g.prods.length := by omega
  simp only [fullB, Bool.or_eq_true, decide_eq_true_eq]
  rcases this with h | h | h
  · exact .inl (.inl (.inl h))
  · exact .inl (.inl (.inr h))
  · exact .inl (.inr h)
theorem fullB_eq {g : Gr} (h : g.toks.length ≤ 8 ∧ g.names.length ≤ 8 ∧ g.prods.length ≤ 24) : fullB g = g.prods.any (fun p => decide (6 < p.2.length)) := by
  have h1 : decide (8 < g.toks.length) = false := decide_eq_false (by omega)
  have h2 : decide (8 < g.names.length) = false := decide_eq_false (by omega)
  have h3 : decide (24 < g.prods.length) = false := decide_eq_false (by omega)
  simp only [fullB, h1, h2, h3, Bool.false_or]
section
variable (E : Env) (L : List Res)
theorem many_call (gv : Value) (g : Gr) (hg : GrE E gv g) (hl : Light g) : CallV Tryd.prog 44 #[gv] E L (.int .i64 (if fullB g = true then 6 else 0)) := by
  obtain ⟨tp, tc, np, nc, pp, pc, rfl, ht, hn, ⟨rows, hrows, hps, hre⟩, k1, k2, k3⟩ := hg
  have hlen : g.prods.length = rows.length := by rw [← hrows]; simp
  have q1 := hl.t; have q2 := hl.n; have q3 := hl.p
  refine CallS.toV (CallS.intro (l := [_]) _ Tryd.func44 rfl Tryd.ntmps44 rfl ?_)
  by_cases h1 : g.toks.length ≤ 8 ∧ g.names.length ≤ 8 ∧ g.prods.length ≤ 24
  · have e : g.prods.any (fun p => decide (6 < p.2.length)) = rows.any (fun x => decide (6 < x.2.2.2.length)) := by rw [← hrows, List.any_map]; rfl
    rw [fullB_eq h1, e]
    obtain ⟨h1, h2, h3⟩ := h1
    refine G_seq (G_region ?_)
    (refine G_boxA rfl rfl rfl rfl (.none rfl) ?_; intro b1)
    (refine G_alloc rfl rfl rfl (.none rfl) ?_; intro b2)
    refine G_end (X_then (G_seq (G_seq (G_region ?_))))
    refine Gv (V_fieldAddr rfl rfl (by decide)) ?_
    refine Gv (V_load rfl rfl (Cell.own (.tail _ (.head _)) rfl)) ?_
    refine Gv (V_lenS rfl rfl) ?_
    refine Gv (V_gtr rfl rfl rfl) ?_
    refine Gm ?_
    refine G.bool_f 9 rfl (decide_eq_false (by omega)) ?_
    refine Gy (V_fieldAddr rfl rfl (by decide)) ?_
    refine Gy (V_load rfl rfl (Cell.own (.tail _ (.head _)) rfl)) ?_
    refine Gy (V_lenS rfl rfl) ?_
    refine Gy (V_gtr rfl rfl rfl) ?_
    refine Gv (V_pick_f rfl rfl rfl) ?_
    refine Gm ?_
    refine G.bool_f 15 rfl (decide_eq_false (by omega)) ?_
    refine Gy (V_fieldAddr rfl rfl (by decide)) ?_
    refine Gy (V_load rfl rfl (Cell.own (.tail _ (.head _)) rfl)) ?_
    refine Gy (V_lenS rfl rfl) ?_
    refine Gy (V_gtr rfl rfl rfl) ?_
    refine Gv (V_pick_f rfl rfl rfl) ?_
    refine G_end (X_then ?_)
    refine G_cond_f rfl (decide_eq_false (by omega)) ?_
    refine G_skip (X_then (G_seq (G_seq (G_region ?_))))
    refine Gv (V_loadA rfl rfl (Cells.own (.tail _ (.head _))) rfl) ?_
    refine G_call (k := 56) (.mk rfl rfl rfl rfl) rfl rfl (.none rfl) (prods_call _ _ _ _ _ _ _ _ _ _) ?_
    rintro r1 E2 L3 hE4 ⟨z5, ⟨rfl, ⟨rfl, rfl⟩⟩⟩
    replace ht := ht.mono hE4
    replace hn := hn.mono hE4
    replace hps := hps.mono hE4
    replace hre := hre.mono hE4
    refine G_end (X_then (G_block ?_))
    refine G_rangeI (σ := Int) (enc := rowEnc) rfl (iter_prods E z5 pp _ pc rows hps (by omega)) (fun _ => E) (fun v => .blk b2 (.cells #[.int .i64 v] 33 (0, 0)) :: GB b1 g tp tc np nc pp pc :: L)
      (fun pre v => v = 0 ∧ ∀ i, i < pre.length → (hi : i < rows.length) → decide (6 < rows[i].2.2.2.length) = false) (fun q pre v => q = .ret ∧ v = 6 ∧ rows.any (fun x => decide (6 < x.2.2.2.length)) = true) 0 ⟨rfl, fun i hi => by cases hi⟩ rfl (.refl _) rfl (fun _ => rfl) ?_ ?_ ?_
    · rintro y D tm fn M pre ⟨x, j⟩ v hpre ⟨rfl, hall⟩ hE
      obtain ⟨hx, hj, hlt⟩ := zip_pre hpre
      simp only at hx hj
      simp only [List.cons_append]
      dsimp only [rowEnc]
      by_cases hb : 6 < x.2.2.2.length
      · refine G_region ?_
        (refine G_alloc rfl rfl rfl (.none rfl) ?_; intro b4)
        refine G_storeA rfl rfl rfl rfl (by simp [Value.oneCell']) rfl (.none rfl) (.head _ _ _) rfl ?_
        refine G_end (X_then ?_)
        refine G_begin (.tail _ (.head _ _ _)) ?_
        refine G_block (G_seq (G_region ?_))
        refine Gv (V_fieldAddr rfl rfl (by decide)) ?_
        refine Gv (V_load rfl rfl (Cell.own (.head _) rfl)) ?_
        refine Gv (V_lenS rfl rfl) ?_
        refine Gv (V_gtr rfl rfl rfl) ?_
        refine G_end (X_then ?_)
        refine G_cond_t rfl (decide_eq_true (by omega)) ?_
        refine G_seq (G_region ?_)
        refine G_store1 rfl rfl rfl rfl rfl rfl (.none rfl) (.tail _ (.tail _ (.tail _ (.head _ _ _)))) ?_
        refine G_end (X_then (G_ret (X_block_ret ?_)))
        refine G.drop ?_
        exact G_rRet 6 ⟨rfl, rfl, List.any_eq_true.2 ⟨x, List.mem_of_getElem? hx, decide_eq_true hb⟩⟩ rfl (.refl _) rfl
      · refine G_region ?_
        (refine G_alloc rfl rfl rfl (.none rfl) ?_; intro b4)
        refine G_storeA rfl rfl rfl rfl (by simp [Value.oneCell']) rfl (.none rfl) (.head _ _ _) rfl ?_
        refine G_end (X_then ?_)
        refine G_begin (.tail _ (.head _ _ _)) ?_
        refine G_block (G_seq (G_region ?_))
        refine Gv (V_fieldAddr rfl rfl (by decide)) ?_
        refine Gv (V_load rfl rfl (Cell.own (.head _) rfl)) ?_
        refine Gv (V_lenS rfl rfl) ?_
        refine Gv (V_gtr rfl rfl rfl) ?_
        refine G_end (X_then ?_)
        refine G_cond_f rfl (decide_eq_false (by omega)) ?_
        refine G_skip (X_block ?_)
        refine G.drop ?_
        refine G_rEnd 0 ⟨rfl, ?_⟩ rfl (.refl _) rfl
        intro i hi hi2
        simp only [List.length_append, List.length_singleton] at hi
        by_cases he : i = pre.length
        · subst he
          have : rows[pre.length] = x := by rw [List.getElem?_eq_getElem hi2] at hx; exact Option.some.inj hx
          rw [this]; exact decide_eq_false hb
        · exact hall i (by omega) hi2
    · rintro D v ⟨rfl, hall⟩ hE
      rw [any_none fun i hi => hall i (by simpa using hi) hi]
      refine X_block (X_then (G_seq (G_region ?_)))
      refine G_store1 rfl rfl rfl rfl rfl rfl (.none rfl) (.tail _ (.head _ _ _)) ?_
      refine G_end (X_then (G_ret ?_))
      refine G_leave_ms [D] ?_
      refine G_leaveS (.drop _ (.drop _ (.nil _))) (by exact (.cons (.cell1 rfl (Cell.own1 (.head _))) (.nil))) rfl ?_ ?_
      · exact (.refl _)
      exact ⟨(by kernel_rfl), rfl⟩
    · rintro D q pre v hpre ⟨rfl, rfl, hs⟩ hE
      rw [hs]
      refine G_ret (X_block_ret (X_then_ret ?_))
      refine G_leave_ms [D] ?_
      refine G_leaveS (.drop _ (.drop _ (.nil _))) (by exact (.cons (.cell1 rfl (Cell.own1 (.head _))) (.nil))) rfl ?_ ?_
      · exact (.refl _)
      exact ⟨(by kernel_rfl), rfl⟩
  · have : fullB g = true := fullB_pos h1
    rw [if_pos this]
    refine G_seq (G_region ?_)
    (refine G_boxA rfl rfl rfl rfl (.none rfl) ?_; intro b1)
    (refine G_alloc rfl rfl rfl (.none rfl) ?_; intro b2)
    refine G_end (X_then (G_seq (G_seq (G_region ?_))))
    refine Gv (V_fieldAddr rfl rfl (by decide)) ?_
    refine Gv (V_load rfl rfl (Cell.own (.tail _ (.head _)) rfl)) ?_
    refine Gv (V_lenS rfl rfl) ?_
    refine Gv (V_gtr rfl rfl rfl) ?_
    refine Gm ?_
    apply G_joinOr 5 9 14 rfl
    · intro H1
      dsimp only [List.take]
      simp only [Bool.and_eq_true, Bool.or_eq_true, Bool.not_eq_true', Bool.not_eq_false', Bool.and_eq_false_iff, Bool.or_eq_false_iff, Bool.not_not, decide_eq_true_eq, decide_eq_false_iff_not, ne_eq, Decidable.not_not, Bool.decide_eq_true] at H1
      refine Gn ?_
      refine Gn ?_
      refine Gn ?_
      refine Gn ?_
      refine Gv (V_pick_t rfl rfl rfl) ?_
      refine G_end ?_
      exact JQ_end 5 rfl rfl (by kernel_rfl)
    · intro H2
      dsimp only [List.take]
      simp only [Bool.and_eq_true, Bool.or_eq_true, Bool.not_eq_true', Bool.not_eq_false', Bool.and_eq_false_iff, Bool.or_eq_false_iff, Bool.not_not, decide_eq_true_eq, decide_eq_false_iff_not, ne_eq, Decidable.not_not, Bool.decide_eq_true] at H2
      refine Gy (V_fieldAddr rfl rfl (by decide)) ?_
      refine Gy (V_load rfl rfl (Cell.own (.tail _ (.head _)) rfl)) ?_
      refine Gy (V_lenS rfl rfl) ?_
      refine Gy (V_gtr rfl rfl rfl) ?_
      refine Gv (V_pick_f rfl rfl rfl) ?_
      refine G_end ?_
      exact JQ_end 5 rfl rfl (by kernel_rfl)
    dsimp only [List.drop]
    refine Gm ?_
    apply G_joinOr 5 15 20 rfl
    · intro H3
      dsimp only [List.take]
      simp only [Bool.and_eq_true, Bool.or_eq_true, Bool.not_eq_true', Bool.not_eq_false', Bool.and_eq_false_iff, Bool.or_eq_false_iff, Bool.not_not, decide_eq_true_eq, decide_eq_false_iff_not, ne_eq, Decidable.not_not, Bool.decide_eq_true] at H3
      refine Gn ?_
      refine Gn ?_
      refine Gn ?_
      refine Gn ?_
      refine Gv (V_pick_t rfl rfl rfl) ?_
      refine G_end ?_
      exact JQ_end 5 rfl rfl (by kernel_rfl)
    · intro H4
      dsimp only [List.take]
      simp only [Bool.and_eq_true, Bool.or_eq_true, Bool.not_eq_true', Bool.not_eq_false', Bool.and_eq_false_iff, Bool.or_eq_false_iff, Bool.not_not, decide_eq_true_eq, decide_eq_false_iff_not, ne_eq, Decidable.not_not, Bool.decide_eq_true] at H4
      refine Gy (V_fieldAddr rfl rfl (by decide)) ?_
      refine Gy (V_load rfl rfl (Cell.own (.tail _ (.head _)) rfl)) ?_
      refine Gy (V_lenS rfl rfl) ?_
      refine Gy (V_gtr rfl rfl rfl) ?_
      refine Gv (V_pick_f rfl rfl rfl) ?_
      refine G_end ?_
      exact JQ_end 5 rfl rfl (by kernel_rfl)
    dsimp only [List.drop]
    refine G_end (X_then ?_)
    refine G_cond rfl (fun H5 => ?_) (fun H5 => ?_)
    · simp only [Bool.and_eq_true, Bool.or_eq_true, Bool.not_eq_true', Bool.not_eq_false', Bool.and_eq_false_iff, Bool.or_eq_false_iff, Bool.not_not, decide_eq_true_eq, decide_eq_false_iff_not, ne_eq, Decidable.not_not, Bool.decide_eq_true] at H5
      refine G_seq (G_region ?_)
      refine G_store1 rfl rfl rfl rfl rfl rfl (.none rfl) (.head _ _ _) ?_
      refine G_end (X_then (G_ret (X_then_ret ?_)))
      refine G_leaveS (.drop _ (.drop _ (.nil _))) (by exact (.cons (.cell1 rfl (Cell.own1 (.head _))) (.nil))) rfl ?_ ?_
      · exact (.refl _)
      exact ⟨(by kernel_rfl), rfl⟩
    simp only [Bool.and_eq_true, Bool.or_eq_true, Bool.not_eq_true', Bool.not_eq_false', Bool.and_eq_false_iff, Bool.or_eq_false_iff, Bool.not_not, decide_eq_true_eq, decide_eq_false_iff_not, ne_eq, Decidable.not_not, Bool.decide_eq_true] at H5
    (exfalso; omega)
end
end Go.Proofs.YtaibabmladgldaaDoor
