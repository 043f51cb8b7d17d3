/-
  Rules and contracts, packed: H6, H7, H8, S1, R1, R2, R3, R4, R5, R6, M2, R9, Sep37.
-/
import Derived.Test.YtimiokmgnclggaaGreatQ5
set_option maxHeartbeats 1000000
set_option linter.unusedSimpArgs false
set_option linter.unusedVariables false
set_option maxHeartbeats 2000000
set_option maxRecDepth 20000
namespace Go.Proofs.YtimiokmgnclggaaGreat
open Go.RowKit
def yes (l : List (List UInt8)) : List (List UInt8 × Value) := l.map fun s => (s, .bool true)
theorem yes_get (l : List (List UInt8)) (s : List UInt8) : mget (yes l) s = if s ∈ l then some (.bool true) else none := by
  induction l with
  | nil => rfl
  | cons a l ih =>
    simp only [yes, List.map_cons, mget, List.mem_cons] at ih ⊢
    by_cases h : s = a
    · simp [h]
    · rw [if_neg h, ih]; simp [h]
theorem yes_put (l : List (List UInt8)) (s : List UInt8) (h : s ∉ l) : mput (yes l) s (.bool true) = yes (l ++ [s]) := by
  induction l with
  | nil => rfl
  | cons a l ih =>
    simp only [List.mem_cons, not_or] at h
    have := ih h.2
    simp only [yes, List.map_cons, List.cons_append, mput, if_neg h.1] at this ⊢
    rw [this]
def dupB (l : List (List UInt8)) : Bool := !decide l.Nodup
theorem nodup_take {α : Type} {l : List α} {i : Nat} (hi : i < l.length) (h : (l.take i).Nodup) (hn : l[i] ∉ l.take i) : (l.take (i + 1)).Nodup := by
  rw [List.take_succ_eq_append_getElem hi, List.nodup_append]
  refine ⟨h, by simp, fun a ha b hb => ?_⟩
  rw [List.mem_singleton.1 hb]
  exact fun e => hn (e ▸ ha)
theorem dup_at {α : Type} {l : List α} {i : Nat} (hi : i < l.length) (hn : l[i] ∈ l.take i) : ¬ l.Nodup := by
  intro h
  have h2 : (l.take (i + 1)).Nodup := (List.take_sublist _ _).nodup h
  rw [List.take_succ_eq_append_getElem hi, List.nodup_append] at h2
  exact h2.2.2 _ hn _ (List.mem_singleton.2 rfl) rfl
section
variable (E : Env) (L : List Res)
theorem different_call (gv : Value) (g : Gr) (hg : GrE E gv g) (hl : Light g) : CallV Tryz.prog 57 #[gv] E L (.int .i64 (if dupB (g.toks ++ [g.sep] ++ g.names) = true then 8 else 0)) := by
  obtain ⟨tp, tc, np, nc, pp, pc, rfl, ht, hn, ⟨rows, hrows, hps, hre⟩, k1, k2, k3⟩ := hg
  have hlen : g.prods.length = rows.length := by rw [← hrows]; simp
  have q1 := hl.t; have q2 := hl.n; have q3 := hl.p
  refine CallS.toV (CallS.intro (l := [_]) _ Tryz.func57 rfl Tryz.ntmps57 rfl ?_)
  refine G_seq (G_region ?_)
  (refine G_boxA rfl rfl rfl rfl (.none rfl) ?_; intro b1)
  refine Ga ?_
  refine G_end (X_then (G_seq (G_region ?_)))
  (refine G_makeMap kS rfl rfl rfl (.none rfl) ?_; intro b6)
  refine Ga ?_
  refine G_end (X_then (G_seq (G_seq ?_)))
  refine G_drawX 18 [(0, 0), (1, 1), (2, 0), (3, 1), (4, 0), (5, 0), (6, 1), (7, 0), (8, 0), (9, 0), (10, 1), (13, 0), (14, 1), (11, 2), (12, 3), (15, 3), (16, 0), (17, 0)] mixed (by kernel_rfl) ?_
  refine F_pure rfl (fun _ _ => V_fieldAddr rfl rfl (by decide)) rfl rfl (.none rfl) ?_
  refine F_load rfl (.tail _ (.head _)) (V_load rfl rfl (Cell.own (.head _) rfl)) rfl rfl (.none rfl) ?_
  refine F_pure rfl (fun _ _ => V_fieldAddr rfl rfl (by decide)) rfl rfl (.none rfl) ?_
  refine F_load rfl (.tail _ (.head _)) (V_load rfl rfl (Cell.own (.head _) rfl)) rfl rfl (.none rfl) ?_
  refine F_pure rfl (fun _ _ => V_lenS rfl rfl) rfl rfl (.none rfl) ?_
  refine F_pure rfl (fun _ _ => V_fieldAddr rfl rfl (by decide)) rfl rfl (.none rfl) ?_
  refine F_load rfl (.tail _ (.head _)) (V_load rfl rfl (Cell.own (.head _) rfl)) rfl rfl (.none rfl) ?_
  refine F_pure rfl (fun _ _ => V_lenS rfl rfl) rfl rfl (.none rfl) ?_
  refine F_pure rfl (fun _ _ => V_sl3n rfl rfl rfl rfl (by omega) (by omega)) rfl rfl (.none rfl) ?_
  refine F_pure rfl (fun _ _ => V_fieldAddr rfl rfl (by decide)) rfl rfl (.none rfl) ?_
  refine F_load rfl (.tail _ (.head _)) (V_load rfl rfl (Cell.own (.head _) rfl)) rfl rfl (.none rfl) ?_
  refine F_pure rfl (fun _ _ => V_fieldAddr rfl rfl (by decide)) rfl rfl (.none rfl) ?_
  refine F_load rfl (.tail _ (.head _)) (V_load rfl rfl (Cell.own (.head _) rfl)) rfl rfl (.none rfl) ?_
  (refine F_litZ rfl rfl rfl (by decide) (by simp [fillS, zeros, setLs, setL, Value.cells, List.range, List.range.loop]; rfl) (by rfl) rfl rfl (.none rfl) ?_; intro b18 E18 hE18 hs18)
  replace ht := ht.mono hE18
  replace hn := hn.mono hE18
  replace hps := hps.mono hE18
  replace hre := hre.mono hE18
  (refine F_appendO rfl rfl rfl rfl (by assumption) (by assumption) (by omega) (by omega) (by omega) rfl rfl (.none rfl) ?_; intro b19 c19)
  (refine F_append2 rfl rfl rfl rfl (by assumption) (by simp [Value.oneCell', strs, i64s]) (by omega) (by omega) rfl rfl (.none rfl) (fun _ _ => (.head _ _ _)) ?_; intro b22 c22 N22; dsimp only [List.cons_append])
  refine F_pure rfl (fun _ _ => V_lenS rfl rfl) rfl rfl (.none rfl) ?_
  refine F_pure rfl (fun _ _ => V_move rfl rfl) rfl rfl (.none rfl) ?_
  (refine F_end (.keep _ (.keep _ (.keep _ (.suf _ (.nil _))))) ?_; dsimp only [List.drop])
  refine G_end (X_then (G_block ?_))
  obtain ⟨l, hll⟩ : ∃ l, g.toks ++ [g.sep] ++ g.names = l := ⟨_, rfl⟩
  have hlen2 : l.length = g.toks.length + 1 + g.names.length := by rw [← hll]; simp; omega
  refine G.freezeSl (.head _ _) ?_
  intro E1 hE1 hs hc
  replace hs : SlE E1 1 (some ⟨b22, 0, none⟩) (g.toks.length + 1 + g.names.length) (strs l) := by rw [← hll]; simpa [strs] using hs
  rw [← hlen2] at hs ⊢
  rw [hll]
  refine G_loop (α := Nat) (fun i => [(3, .map (some b6)), (22, .slice (some ⟨b22, 0, none⟩) l.length c22), (23, .int .i64 l.length), (24, .int .i64 i)]) (fun _ => E1) (fun i => .blk b6 (mobj kS (yes (l.take i))) :: GB b1 g tp tc np nc pp pc :: L)
    (fun i => i ≤ l.length ∧ (l.take i).Nodup) (fun i => l.length - i) 0 ⟨Nat.zero_le _, by simp⟩ ⟨rfl, rfl, rfl, rfl, trivial⟩ rfl rfl ?_
  rintro i ⟨hi, hall⟩
  by_cases hlt : i < l.length
  · have hx := strs_get (List.getElem?_eq_getElem hlt)
    refine G_seq (G_region ?_)
    refine Gv (V_lss rfl rfl rfl) ?_
    refine G_end (X_then (G_seq ?_))
    refine G_cond_t rfl (decide_eq_true (by omega)) ?_
    refine G_skip (X_then (G_seq (G_block (G_seq (G_region ?_)))))
    refine Gv (V_idxAddr rfl rfl rfl (SlE.rd (by assumption)) (by omega) (by omega)) ?_
    refine Gv (V_loadS rfl rfl (SlE.rd (by assumption)) (by assumption) (by simp)) ?_
    refine Ga ?_
    refine G_end (X_then (G_seq (G_seq (G_region ?_))))
    refine Gm ?_
    refine Gm ?_
    refine Gv (V_lookup kS _ rfl rfl rfl (.head _)) ?_
    refine G_end (X_then ?_)
    rw [yes_get]
    by_cases hb : l[i] ∈ l.take i
    · have hd : dupB l = true := by simp [dupB, dup_at hlt hb]
      rw [if_pos hb, Option.getD_some, hd]
      refine G_cond_t rfl rfl ?_
      refine G_seq (G_region ?_)
      refine Ga ?_
      refine G_end (X_then (G_ret (X_then_ret (X_block_ret (X_then_ret (X_then_ret (X_block_ret (X_then_ret ?_))))))))
      refine G_leaveS (.drop _ (.drop _ (.nil _))) (by exact (.cons (.tmp rfl) (.nil))) rfl ?_ ?_
      · exact (hE18.trans hE1)
      exact ⟨(by kernel_rfl), rfl⟩
    · rw [if_neg hb, Option.getD_none]
      refine G_cond_f rfl rfl ?_
      refine G_skip (X_then (G_region ?_))
      refine Gm ?_
      refine Gm ?_
      refine G_mapUpdate kS _ (.inl rfl) rfl rfl rfl rfl (.none rfl) (.head _ _ _) ?_
      refine G_end (X_block (X_then (G_region ?_)))
      refine Gv (V_add_i64 rfl rfl rfl (by omega) (by omega)) ?_
      refine Gm ?_
      refine G_end (X_then ?_)
      rw [yes_put _ _ hb, ← List.take_succ_eq_append_getElem hlt]
      exact G_again (i + 1) ⟨hlt, nodup_take hlt hall hb⟩ (by omega) ⟨rfl, rfl, rfl, rfl, trivial⟩ rfl rfl
  · rw [List.take_of_length_le (by omega)] at hall
    have hd : dupB l = false := by simp [dupB, hall]
    rw [hd]
    refine G_seq (G_region ?_)
    refine Gv (V_lss rfl rfl rfl) ?_
    refine G_end (X_then (G_seq ?_))
    refine G_cond_f rfl (decide_eq_false (by omega)) ?_
    refine G_exit (X_then_exit (X_then_exit (X_block_hit (X_then (G_seq (G_region ?_))))))
    refine Ga ?_
    refine G_end (X_then (G_ret ?_))
    refine G_leaveS (.drop _ (.drop _ (.nil _))) (by exact (.cons (.tmp rfl) (.nil))) rfl ?_ ?_
    · exact (hE18.trans hE1)
    exact ⟨(by kernel_rfl), rfl⟩
def termB (g : Gr) (s : Int) : Bool := decide (0 ≤ s) && decide (s < g.toks.length)
def ntB (g : Gr) (s : Int) : Bool := decide (16 ≤ s) && decide (s < 16 + g.names.length)
theorem terminal_call (gv : Value) (g : Gr) (hg : GrE E gv g) (hl : Light g) (s : Int) : CallV Tryz.prog 96 #[gv, .int .i64 s] E L (.bool (termB g s)) := by
  obtain ⟨tp, tc, np, nc, pp, pc, rfl, ht, hn, ⟨rows, hrows, hps, hre⟩, k1, k2, k3⟩ := hg
  have q1 := hl.t; have q2 := hl.n; have q3 := hl.p
  refine CallS.toV (CallS.intro (l := [_, _]) _ Tryz.func96 rfl Tryz.ntmps96 rfl ?_)
  refine G_seq (G_region ?_)
  (refine G_boxA rfl rfl rfl rfl (.none rfl) ?_; intro b2)
  refine Ga ?_
  refine G_end (X_then (G_seq (G_region ?_)))
  refine Gm ?_
  refine Gv (V_geq rfl rfl rfl) ?_
  refine Gm ?_
  apply G_joinAnd 6 7 13 rfl
  · intro H1
    dsimp only [List.take]
    simp only [Bool.and_eq_true, Bool.or_eq_true, Bool.not_eq_true', Bool.not_eq_false', Bool.and_eq_false_iff, Bool.or_eq_false_iff, Bool.not_not, decide_eq_true_eq, decide_eq_false_iff_not, ne_eq, Decidable.not_not, Bool.decide_eq_true] at H1
    refine Gy (V_move rfl rfl) ?_
    refine Gy (V_fieldAddr rfl rfl (by decide)) ?_
    refine Gy (V_load rfl rfl (Cell.own (.head _) rfl)) ?_
    refine Gy (V_lenS rfl rfl) ?_
    refine Gy (V_lss rfl rfl rfl) ?_
    refine Gv (V_pick_t rfl rfl rfl) ?_
    refine G_end ?_
    exact JQ_end 6 rfl rfl (by kernel_rfl)
  · intro H2
    dsimp only [List.take]
    simp only [Bool.and_eq_true, Bool.or_eq_true, Bool.not_eq_true', Bool.not_eq_false', Bool.and_eq_false_iff, Bool.or_eq_false_iff, Bool.not_not, decide_eq_true_eq, decide_eq_false_iff_not, ne_eq, Decidable.not_not, Bool.decide_eq_true] at H2
    refine Gn ?_
    refine Gn ?_
    refine Gn ?_
    refine Gn ?_
    refine Gn ?_
    refine Gv (V_pick_f rfl rfl rfl) ?_
    refine G_end ?_
    exact JQ_end 6 rfl rfl (by kernel_rfl)
  dsimp only [List.drop]
  refine Ga ?_
  refine G_end (X_then (G_ret ?_))
  refine G_leaveS (.drop _ (.nil _)) (by exact (.cons (.tmp rfl) (.nil))) rfl ?_ ?_
  · exact (.refl _)
  exact ⟨rfl, rfl⟩
theorem nonterminal_call (gv : Value) (g : Gr) (hg : GrE E gv g) (hl : Light g) (s : Int) : CallV Tryz.prog 93 #[gv, .int .i64 s] E L (.bool (ntB g s)) := by
  obtain ⟨tp, tc, np, nc, pp, pc, rfl, ht, hn, ⟨rows, hrows, hps, hre⟩, k1, k2, k3⟩ := hg
  have q1 := hl.t; have q2 := hl.n; have q3 := hl.p
  refine CallS.toV (CallS.intro (l := [_, _]) _ Tryz.func93 rfl Tryz.ntmps93 rfl ?_)
  refine G_seq (G_region ?_)
  (refine G_boxA rfl rfl rfl rfl (.none rfl) ?_; intro b2)
  refine Ga ?_
  refine G_end (X_then (G_seq (G_region ?_)))
  refine Gm ?_
  refine Gv (V_geq rfl rfl rfl) ?_
  refine Gm ?_
  apply G_joinAnd 7 7 14 rfl
  · intro H1
    dsimp only [List.take]
    simp only [Bool.and_eq_true, Bool.or_eq_true, Bool.not_eq_true', Bool.not_eq_false', Bool.and_eq_false_iff, Bool.or_eq_false_iff, Bool.not_not, decide_eq_true_eq, decide_eq_false_iff_not, ne_eq, Decidable.not_not, Bool.decide_eq_true] at H1
    refine Gy (V_move rfl rfl) ?_
    refine Gy (V_fieldAddr rfl rfl (by decide)) ?_
    refine Gy (V_load rfl rfl (Cell.own (.head _) rfl)) ?_
    refine Gy (V_lenS rfl rfl) ?_
    refine Gy (V_add_i64 rfl rfl rfl (by omega) (by omega)) ?_
    refine Gy (V_lss rfl rfl rfl) ?_
    refine Gv (V_pick_t rfl rfl rfl) ?_
    refine G_end ?_
    exact JQ_end 7 rfl rfl (by kernel_rfl)
  · intro H2
    dsimp only [List.take]
    simp only [Bool.and_eq_true, Bool.or_eq_true, Bool.not_eq_true', Bool.not_eq_false', Bool.and_eq_false_iff, Bool.or_eq_false_iff, Bool.not_not, decide_eq_true_eq, decide_eq_false_iff_not, ne_eq, Decidable.not_not, Bool.decide_eq_true] at H2
    refine Gn ?_
    refine Gn ?_
    refine Gn ?_
    refine Gn ?_
    refine Gn ?_
    refine Gn ?_
    refine Gv (V_pick_f rfl rfl rfl) ?_
    refine G_end ?_
    exact JQ_end 7 rfl rfl (by kernel_rfl)
  dsimp only [List.drop]
  refine Ga ?_
  refine G_end (X_then (G_ret ?_))
  refine G_leaveS (.drop _ (.nil _)) (by exact (.cons (.tmp rfl) (.nil))) rfl ?_ ?_
  · exact (.refl _)
  exact ⟨rfl, rfl⟩
theorem symbols1_call (b : Nat) (g : Gr) (tp : Option Addr) (tc : Nat) (np : Option Addr) (nc : Nat) (pp : Option Addr) (pc : Nat) (hm : GB b g tp tc np nc pp pc ∈ L)
    (hg : GrE E (.agg #[.int .i64 g.k, .slice tp g.toks.length tc, .string (S g.sep), .slice np g.names.length nc, .int .i64 g.start, .slice pp g.prods.length pc]) g) (hl : Light g) (s : Int) :
    CallV Tryz.prog 95 #[.int .i64 s, .pointer (some ⟨b, 0, none⟩)] E L (.bool (!termB g s && !ntB g s)) := by
  refine CallS.toV (CallS.intro (l := [_, _]) _ Tryz.func95 rfl Tryz.ntmps95 rfl ?_)
  refine G_seq (G_region ?_)
  refine Ga ?_
  refine G_end (X_then (G_seq (G_region ?_)))
  refine Gv (V_loadF rfl rfl (by assumption) (by simp only [Nat.zero_add, List.drop_succ_cons, List.drop_zero, List.take_succ_cons, List.take_zero]; rfl) (by rfl)) ?_
  refine Gm ?_
  refine G_callv (k := 96) (.mk rfl rfl rfl rfl) rfl rfl (.none rfl) (terminal_call _ _ _ _ (by assumption) (by assumption) _) ?_
  refine Gv (V_not rfl rfl) ?_
  refine Gm ?_
  apply G_joinAnd 5 8 13 rfl
  · intro H1
    dsimp only [List.take]
    simp only [Bool.and_eq_true, Bool.or_eq_true, Bool.not_eq_true', Bool.not_eq_false', Bool.and_eq_false_iff, Bool.or_eq_false_iff, Bool.not_not, decide_eq_true_eq, decide_eq_false_iff_not, ne_eq, Decidable.not_not, Bool.decide_eq_true] at H1
    refine Gy (V_loadF rfl rfl (by assumption) (by simp only [Nat.zero_add, List.drop_succ_cons, List.drop_zero, List.take_succ_cons, List.take_zero]; rfl) (by rfl)) ?_
    refine Gy (V_move rfl rfl) ?_
    refine G_callv (k := 93) (.mk rfl rfl rfl rfl) rfl rfl (.yes rfl rfl rfl rfl) (nonterminal_call _ _ _ _ (by assumption) (by assumption) _) ?_
    refine Gy (V_not rfl rfl) ?_
    refine Gv (V_pick_t rfl rfl rfl) ?_
    refine G_end ?_
    exact JQ_end 5 rfl rfl (by kernel_rfl)
  · intro H2
    dsimp only [List.take]
    simp only [Bool.and_eq_true, Bool.or_eq_true, Bool.not_eq_true', Bool.not_eq_false', Bool.and_eq_false_iff, Bool.or_eq_false_iff, Bool.not_not, decide_eq_true_eq, decide_eq_false_iff_not, ne_eq, Decidable.not_not, Bool.decide_eq_true] at H2
    refine Gn ?_
    refine Gn ?_
    refine Gn ?_
    refine Gn ?_
    refine Gv (V_pick_f rfl rfl rfl) ?_
    refine G_end ?_
    exact JQ_end 5 rfl rfl (by kernel_rfl)
  dsimp only [List.drop]
  refine Ga ?_
  refine G_end (X_then (G_ret ?_))
  refine G_leaveS (.nil _) (by exact (.cons (.tmp rfl) (.nil))) rfl ?_ ?_
  · exact (.refl _)
  exact ⟨rfl, rfl⟩
theorem IndexFuncI_call (p : Option Addr) (n c : Nat) (l : List Int) (hx : SlE E 1 p n (i64s l)) (hn : n ≤ 1000000) (b : Nat) (g : Gr) (tp : Option Addr) (tc : Nat) (np : Option Addr) (nc : Nat) (pp : Option Addr) (pc : Nat) (hm : GB b g tp tc np nc pp pc ∈ L)
    (hg : GrE E (.agg #[.int .i64 g.k, .slice tp g.toks.length tc, .string (S g.sep), .slice np g.names.length nc, .int .i64 g.start, .slice pp g.prods.length pc]) g) (hl : Light g) :
    CallS Tryz.prog 113 #[.slice p n c, .func (.func 95) #[] #[.pointer (some ⟨b, 0, none⟩)]] E L (fun r E' L' => ∃ i : Int, r = .int .i64 i ∧ (0 ≤ i ↔ l.any (fun s => !termB g s && !ntB g s) = true) ∧ L' = L) := by
  have e1 := hx.nI
  subst e1
  refine CallS.intro (l := [_, _]) _ Tryz.func113 rfl Tryz.ntmps113 rfl ?_
  refine G_seq (G_region ?_)
  refine Ga ?_
  refine G_end (X_then (G_seq (G_seq (G_region ?_))))
  refine Gm ?_
  refine Gv (V_lenS rfl rfl) ?_
  refine Gm ?_
  refine G_end (X_then (G_block ?_))
  refine G_loop (α := Nat) (fun i => [(0, .slice p l.length c), (1, .func (.func 95) #[] #[.pointer (some ⟨b, 0, none⟩)]), (7, .int .i64 l.length), (8, .int .i64 i)]) (fun _ => E) (fun i => L)
    (fun i => i ≤ l.length ∧ ∀ k, k < i → (hk : k < l.length) → (!termB g l[k] && !ntB g l[k]) = false) (fun i => l.length - i) 0 ⟨Nat.zero_le _, fun k hk => by cases hk⟩ ⟨rfl, rfl, rfl, rfl, trivial⟩ rfl rfl ?_
  rintro i ⟨hi, hall⟩
  by_cases hlt : i < l.length
  · have hy := i64s_get (List.getElem?_eq_getElem hlt)
    cases hb : (!termB g l[i] && !ntB g l[i]) with
    | true =>
      have hfin : (0 : Int) ≤ (i : Int) ↔ l.any (fun s => !termB g s && !ntB g s) = true := ⟨fun _ => any_of hlt hb, fun _ => by omega⟩
      refine G_seq (G_region ?_)
      refine Gv (V_lss rfl rfl rfl) ?_
      refine G_end (X_then (G_seq ?_))
      refine G_cond_t rfl (decide_eq_true (by omega)) ?_
      refine G_skip (X_then (G_seq (G_block (G_seq (G_region ?_)))))
      refine Gm ?_
      refine Ga ?_
      refine G_end (X_then (G_seq (G_region ?_)))
      refine Gm ?_
      refine Gm ?_
      refine Gm ?_
      refine Gv (V_idxAddr rfl rfl rfl (SlE.rd (by assumption)) (by omega) (by omega)) ?_
      refine Gv (V_loadS rfl rfl (SlE.rd (by assumption)) (by assumption) (by simp)) ?_
      refine G_callv (k := 95) (.mk rfl rfl rfl rfl) rfl rfl (.none rfl) (symbols1_call _ _ _ _ _ _ _ _ _ _ (by assumption) (by assumption) (by assumption) _) ?_
      refine G_end (X_then ?_)
      refine G_cond_t rfl (by assumption) ?_
      refine G_seq (G_region ?_)
      refine Gm ?_
      refine Ga ?_
      refine G_end (X_then (G_ret (X_block_ret (X_then_ret (X_then_ret (X_block_ret (X_then_ret ?_)))))))
      refine G_leaveS (.nil _) (by exact (.cons (.tmp rfl) (.nil))) rfl ?_ ?_
      · exact (.refl _)
      exact ⟨_, ⟨rfl, ⟨(by assumption), rfl⟩⟩⟩
    | false =>
      refine G_seq (G_region ?_)
      refine Gv (V_lss rfl rfl rfl) ?_
      refine G_end (X_then (G_seq ?_))
      refine G_cond_t rfl (decide_eq_true (by omega)) ?_
      refine G_skip (X_then (G_seq (G_block (G_seq (G_region ?_)))))
      refine Gm ?_
      refine Ga ?_
      refine G_end (X_then (G_seq (G_region ?_)))
      refine Gm ?_
      refine Gm ?_
      refine Gm ?_
      refine Gv (V_idxAddr rfl rfl rfl (SlE.rd (by assumption)) (by omega) (by omega)) ?_
      refine Gv (V_loadS rfl rfl (SlE.rd (by assumption)) (by assumption) (by simp)) ?_
      refine G_callv (k := 95) (.mk rfl rfl rfl rfl) rfl rfl (.none rfl) (symbols1_call _ _ _ _ _ _ _ _ _ _ (by assumption) (by assumption) (by assumption) _) ?_
      refine G_end (X_then ?_)
      refine G_cond_f rfl (by assumption) ?_
      refine G_skip (X_block (X_then (G_region ?_)))
      refine Gv (V_add_i64 rfl rfl rfl (by omega) (by omega)) ?_
      refine Gm ?_
      refine G_end (X_then ?_)
      refine G_again (i + 1) ⟨hlt, ?_⟩ (by omega) ⟨rfl, rfl, rfl, rfl, trivial⟩ rfl rfl
      intro k hk hk2
      by_cases he : k = i
      · subst he; exact hb
      · exact hall k (by omega) hk2
  · have hfin : (0 : Int) ≤ -1 ↔ l.any (fun s => !termB g s && !ntB g s) = true := ⟨fun h => by omega, fun h => by rw [any_none fun k hk => hall k (by omega) hk] at h; cases h⟩
    refine G_seq (G_region ?_)
    refine Gv (V_lss rfl rfl rfl) ?_
    refine G_end (X_then (G_seq ?_))
    refine G_cond_f rfl (decide_eq_false (by omega)) ?_
    refine G_exit (X_then_exit (X_then_exit (X_block_hit (X_then (G_seq (G_region ?_))))))
    refine Ga ?_
    refine G_end (X_then (G_ret ?_))
    refine G_leaveS (.nil _) (by exact (.cons (.tmp rfl) (.nil))) rfl ?_ ?_
    · exact (.refl _)
    exact ⟨_, ⟨rfl, ⟨(by assumption), rfl⟩⟩⟩
theorem ContainsFuncI_call (p : Option Addr) (n c : Nat) (l : List Int) (hx : SlE E 1 p n (i64s l)) (hn : n ≤ 1000000) (b : Nat) (g : Gr) (tp : Option Addr) (tc : Nat) (np : Option Addr) (nc : Nat) (pp : Option Addr) (pc : Nat) (hm : GB b g tp tc np nc pp pc ∈ L)
    (hg : GrE E (.agg #[.int .i64 g.k, .slice tp g.toks.length tc, .string (S g.sep), .slice np g.names.length nc, .int .i64 g.start, .slice pp g.prods.length pc]) g) (hl : Light g) :
    CallV Tryz.prog 94 #[.slice p n c, .func (.func 95) #[] #[.pointer (some ⟨b, 0, none⟩)]] E L (.bool (l.any (fun s => !termB g s && !ntB g s))) := by
  refine CallS.toV (CallS.intro (l := [_, _]) _ Tryz.func94 rfl Tryz.ntmps94 rfl ?_)
  refine G_seq (G_region ?_)
  refine Ga ?_
  refine G_end (X_then (G_seq (G_region ?_)))
  refine Gm ?_
  refine Gm ?_
  refine G_call (k := 113) (.mk rfl rfl rfl rfl) rfl rfl (.none rfl) (IndexFuncI_call _ _ _ _ _ _ (by assumption) (by assumption) _ _ _ _ _ _ _ _ (by assumption) (by assumption) (by assumption)) ?_
  rintro r1 E2 L3 hE4 ⟨z5, ⟨rfl, ⟨Z6, rfl⟩⟩⟩
  replace hx := hx.mono hE4
  replace hg := hg.mono hE4
  refine Gv (V_geq rfl rfl rfl) ?_
  refine Ga ?_
  refine G_end (X_then (G_ret ?_))
  refine G_leaveS (.nil _) (by exact (.cons (.tmp rfl) (.nil))) rfl ?_ ?_
  · exact hE4
  rw [show decide (0 ≤ z5) = _ from Bool.eq_iff_iff.2 (decide_eq_true_iff.trans Z6)]
  exact ⟨rfl, rfl⟩
end
end Go.Proofs.YtimiokmgnclggaaGreat
set_option linter.unusedSimpArgs false
set_option linter.unusedVariables false
set_option maxHeartbeats 2000000
set_option maxRecDepth 20000
namespace Go.Proofs.YtimiokmgnclggaaGreat
open Go.RowKit
def symB (g : Gr) : Bool := ntB g g.start && g.prods.all fun p => ntB g p.1 && !p.2.any (fun s => !termB g s && !ntB g s)
/-- No production's left side is less than that of the one before. -/
def ordsB (l : List Pr) : Bool := (List.range l.length).all fun i => decide (i = 0) || decide ((l.getD (i - 1) (0, [])).1 ≤ (l.getD i (0, [])).1)
def compB (g : Gr) : Bool := (List.range g.names.length).all fun i => g.prods.any fun p => decide (p.1 = 16 + (i : Int))
theorem range_all {n : Nat} {f : Nat → Bool} (h : ∀ i, i < n → f i = true) : (List.range n).all f = true := by
  rw [List.all_eq_true]; intro i hi; exact h i (List.mem_range.1 hi)
theorem range_not {n i : Nat} {f : Nat → Bool} (hi : i < n) (h : f i = false) : (List.range n).all f = false := List.all_eq_false.2 ⟨i, List.mem_range.2 hi, by simp [h]⟩
theorem getD_at {α : Type} {l : List α} {i : Nat} (d : α) (h : i < l.length) : l.getD i d = l[i] := by simp [List.getD, List.getElem?_eq_getElem h]
section
variable (E : Env) (L : List Res)
theorem symbols_call (gv : Value) (g : Gr) (hg : GrE E gv g) (hl : Light g) : CallV Tryz.prog 58 #[gv] E L (.int .i64 (if symB g = true then 0 else 14)) := by
  have hg0 := hg
  obtain ⟨tp, tc, np, nc, pp, pc, rfl, ht, hn, ⟨rows, hrows, hps, hre⟩, k1, k2, k3⟩ := hg
  have hlen : g.prods.length = rows.length := by rw [← hrows]; simp
  have q1 := hl.t; have q2 := hl.n; have q3 := hl.p
  refine CallS.toV (CallS.intro (l := [_]) _ Tryz.func58 rfl Tryz.ntmps58 rfl ?_)
  cases hs : ntB g g.start with
  | false =>
    have : symB g = false := by simp [symB, hs]
    rw [this]
    refine G_seq (G_region ?_)
    (refine G_boxA rfl rfl rfl rfl (.none rfl) ?_; intro b1)
    (refine G_alloc rfl rfl rfl (.none rfl) ?_; intro b2)
    refine G_end (X_then (G_seq (G_seq (G_region ?_))))
    refine Gv (V_loadA rfl rfl (Cells.own (.tail _ (.head _))) rfl) ?_
    refine Gv (V_fieldAddr rfl rfl (by decide)) ?_
    refine Gv (V_load rfl rfl (Cell.own (.tail _ (.head _)) rfl)) ?_
    refine G_callv (k := 93) (.mk rfl rfl rfl rfl) rfl rfl (.none rfl) (nonterminal_call _ _ _ _ (by assumption) (by assumption) _) ?_
    refine Gv (V_not rfl rfl) ?_
    refine G_end (X_then ?_)
    refine G_cond_t rfl (by simp [*]; done) ?_
    refine G_seq (G_region ?_)
    refine G_store1 rfl rfl rfl rfl rfl rfl (.none rfl) (.head _ _ _) ?_
    refine G_end (X_then (G_ret (X_then_ret ?_)))
    refine G_leaveS (.drop _ (.drop _ (.nil _))) (by exact (.cons (.cell1 rfl (Cell.own1 (.head _))) (.nil))) rfl ?_ ?_
    · exact (.refl _)
    exact ⟨(by kernel_rfl), rfl⟩
  | true =>
    have e : symB g = rows.all (fun x => ntB g x.2.2.1 && !x.2.2.2.any (fun s => !termB g s && !ntB g s)) := by rw [symB, hs, ← hrows, List.all_map]; rfl
    rw [e]
    refine G_seq (G_region ?_)
    (refine G_boxA rfl rfl rfl rfl (.none rfl) ?_; intro b1)
    (refine G_alloc rfl rfl rfl (.none rfl) ?_; intro b2)
    refine G_end (X_then (G_seq (G_seq (G_region ?_))))
    refine Gv (V_loadA rfl rfl (Cells.own (.tail _ (.head _))) rfl) ?_
    refine Gv (V_fieldAddr rfl rfl (by decide)) ?_
    refine Gv (V_load rfl rfl (Cell.own (.tail _ (.head _)) rfl)) ?_
    refine G_callv (k := 93) (.mk rfl rfl rfl rfl) rfl rfl (.none rfl) (nonterminal_call _ _ _ _ (by assumption) (by assumption) _) ?_
    refine Gv (V_not rfl rfl) ?_
    refine G_end (X_then ?_)
    refine G_cond_f rfl (by simp [*]; done) ?_
    refine G_skip (X_then (G_seq (G_seq (G_region ?_))))
    refine Gv (V_loadA rfl rfl (Cells.own (.tail _ (.head _))) rfl) ?_
    refine G_call (k := 90) (.mk rfl rfl rfl rfl) rfl rfl (.none rfl) (prods_call _ _ _ _ _ _ _ _ _ _) ?_
    rintro r1 E2 L3 hE4 ⟨z5, ⟨rfl, ⟨rfl, rfl⟩⟩⟩
    replace hg0 := hg0.mono hE4
    replace ht := ht.mono hE4
    replace hn := hn.mono hE4
    replace hps := hps.mono hE4
    replace hre := hre.mono hE4
    refine G_end (X_then (G_block ?_))
    refine G_rangeI (σ := Int) (enc := rowEnc) rfl (iter_prods E z5 pp _ pc rows hps (by omega)) (fun _ => E) (fun v => .blk b2 (.cells #[.int .i64 v] 37 (0, 0)) :: GB b1 g tp tc np nc pp pc :: L)
      (fun pre v => v = 0 ∧ ∀ i, i < pre.length → (hi : i < rows.length) → (ntB g rows[i].2.2.1 && !rows[i].2.2.2.any (fun s => !termB g s && !ntB g s)) = true) (fun q pre v => q = .ret ∧ v = 14 ∧ rows.all (fun x => ntB g x.2.2.1 && !x.2.2.2.any (fun s => !termB g s && !ntB g s)) = false) 0 ⟨rfl, fun i hi => by cases hi⟩ rfl (.refl _) rfl (fun _ => rfl) ?_ ?_ ?_
    · rintro y D tm fn M pre ⟨x, j⟩ v hpre ⟨rfl, hall⟩ hE
      obtain ⟨hx, hj, hlt⟩ := zip_pre hpre
      simp only at hx hj
      have hxr : SlE E 1 x.1 x.2.2.2.length (i64s x.2.2.2) := hre.get hx
      have hx8 : x.2.2.2.length ≤ 8 := hl.ps _ (by rw [← hrows]; exact List.mem_map.2 ⟨x, List.mem_of_getElem? hx, rfl⟩)
      have hxe : rows[pre.length] = x := by rw [List.getElem?_eq_getElem hlt] at hx; exact Option.some.inj hx
      simp only [List.cons_append]
      dsimp only [rowEnc]
      cases hb : (ntB g x.2.2.1 && !x.2.2.2.any (fun s => !termB g s && !ntB g s)) with
      | true =>
        have hb' := hb
        simp only [Bool.and_eq_true, Bool.not_eq_true'] at hb'
        obtain ⟨hb1, hb2⟩ := hb'
        refine G_region ?_
        (refine G_alloc rfl rfl rfl (.none rfl) ?_; intro b4)
        refine G_storeA rfl rfl rfl rfl (by simp [Value.oneCell']) rfl (.none rfl) (.head _ _ _) rfl ?_
        refine G_end (X_then ?_)
        refine G_begin (.tail _ (.head _ _ _)) ?_
        refine G_block (G_seq (G_region ?_))
        refine Gv (V_loadA rfl rfl (Cells.own (.tail _ (.tail _ (.tail _ (.tail _ (.head _)))))) rfl) ?_
        refine Gv (V_fieldAddr rfl rfl (by decide)) ?_
        refine Gv (V_load rfl rfl (Cell.own (.head _) rfl)) ?_
        refine G_callv (k := 93) (.mk rfl rfl rfl rfl) rfl rfl (.none rfl) (nonterminal_call _ _ _ _ (by assumption) (by assumption) _) ?_
        refine Gv (V_not rfl rfl) ?_
        refine Gm ?_
        refine G.bool_f 19 rfl (by simp [*]; done) ?_
        refine Gy (V_fieldAddr rfl rfl (by decide)) ?_
        refine Gy (V_load rfl rfl (Cell.own (.head _) rfl)) ?_
        refine Gy (V_makeFunc rfl rfl rfl) ?_
        refine G_callv (k := 94) (.mk rfl rfl rfl rfl) rfl rfl (.yes rfl rfl rfl rfl) (ContainsFuncI_call _ _ _ _ _ _ (by assumption) (by omega) _ _ _ _ _ _ _ _ (by exact .tail _ (.tail _ (.tail _ (.tail _ (.head _))))) (by assumption) (by assumption)) ?_
        refine Gv (V_pick_f rfl rfl rfl) ?_
        refine G_end (X_then ?_)
        refine G_cond_f rfl (by assumption) ?_
        refine G_skip (X_block ?_)
        refine G.drop ?_
        refine G_rEnd 0 ⟨rfl, ?_⟩ rfl (.refl _) rfl
        intro i hi hi2
        simp only [List.length_append, List.length_singleton] at hi
        by_cases he : i = pre.length
        · subst he
          rw [hxe]; exact hb
        · exact hall i (by omega) hi2
      | false =>
        have hfin := all_not (f := fun x : Row => ntB g x.2.2.1 && !x.2.2.2.any (fun s => !termB g s && !ntB g s)) hlt (by rw [hxe]; exact hb)
        have hb' : (!ntB g x.2.2.1 || x.2.2.2.any (fun s => !termB g s && !ntB g s)) = true := by
          revert hb
          cases ntB g x.2.2.1 <;> simp
        refine G_region ?_
        (refine G_alloc rfl rfl rfl (.none rfl) ?_; intro b4)
        refine G_storeA rfl rfl rfl rfl (by simp [Value.oneCell']) rfl (.none rfl) (.head _ _ _) rfl ?_
        refine G_end (X_then ?_)
        refine G_begin (.tail _ (.head _ _ _)) ?_
        refine G_block (G_seq (G_region ?_))
        refine Gv (V_loadA rfl rfl (Cells.own (.tail _ (.tail _ (.tail _ (.tail _ (.head _)))))) rfl) ?_
        refine Gv (V_fieldAddr rfl rfl (by decide)) ?_
        refine Gv (V_load rfl rfl (Cell.own (.head _) rfl)) ?_
        refine G_callv (k := 93) (.mk rfl rfl rfl rfl) rfl rfl (.none rfl) (nonterminal_call _ _ _ _ (by assumption) (by assumption) _) ?_
        refine Gv (V_not rfl rfl) ?_
        refine Gm ?_
        apply G_joinOr 5 19 24 rfl
        · intro H1
          dsimp only [List.take]
          simp only [Bool.and_eq_true, Bool.or_eq_true, Bool.not_eq_true', Bool.not_eq_false', Bool.and_eq_false_iff, Bool.or_eq_false_iff, Bool.not_not, decide_eq_true_eq, decide_eq_false_iff_not, ne_eq, Decidable.not_not, Bool.decide_eq_true] at H1
          refine Gn ?_
          refine Gn ?_
          refine Gn ?_
          refine Gn ?_
          refine Gv (V_pick_t rfl rfl rfl) ?_
          refine G_end ?_
          exact JQ_end 5 rfl rfl (by kernel_rfl)
        · intro H2
          dsimp only [List.take]
          simp only [Bool.and_eq_true, Bool.or_eq_true, Bool.not_eq_true', Bool.not_eq_false', Bool.and_eq_false_iff, Bool.or_eq_false_iff, Bool.not_not, decide_eq_true_eq, decide_eq_false_iff_not, ne_eq, Decidable.not_not, Bool.decide_eq_true] at H2
          refine Gy (V_fieldAddr rfl rfl (by decide)) ?_
          refine Gy (V_load rfl rfl (Cell.own (.head _) rfl)) ?_
          refine Gy (V_makeFunc rfl rfl rfl) ?_
          refine G_callv (k := 94) (.mk rfl rfl rfl rfl) rfl rfl (.yes rfl rfl rfl rfl) (ContainsFuncI_call _ _ _ _ _ _ (by assumption) (by omega) _ _ _ _ _ _ _ _ (by exact .tail _ (.tail _ (.tail _ (.tail _ (.head _))))) (by assumption) (by assumption)) ?_
          refine Gv (V_pick_f rfl rfl rfl) ?_
          refine G_end ?_
          exact JQ_end 5 rfl rfl (by kernel_rfl)
        dsimp only [List.drop]
        refine G_end (X_then ?_)
        refine G_cond_t rfl (by assumption) ?_
        refine G_seq (G_region ?_)
        refine G_store1 rfl rfl rfl rfl rfl rfl (.none rfl) (.tail _ (.tail _ (.tail _ (.head _ _ _)))) ?_
        refine G_end (X_then (G_ret (X_block_ret ?_)))
        refine G.drop ?_
        exact G_rRet 14 ⟨rfl, rfl, hfin⟩ rfl (.refl _) rfl
    · rintro D v ⟨rfl, hall⟩ hE
      rw [all_of fun i hi => hall i (by simpa using hi) hi]
      refine X_block (X_then (G_seq (G_region ?_)))
      refine G_store1 rfl rfl rfl rfl rfl rfl (.none rfl) (.tail _ (.head _ _ _)) ?_
      refine G_end (X_then (G_ret ?_))
      refine G_leave_ms [D] ?_
      refine G_leaveS (.drop _ (.drop _ (.nil _))) (by exact (.cons (.cell1 rfl (Cell.own1 (.head _))) (.nil))) rfl ?_ ?_
      · exact (.refl _)
      exact ⟨(by kernel_rfl), rfl⟩
    · rintro D q pre v hpre ⟨rfl, rfl, hs⟩ hE
      rw [hs]
      refine G_ret (X_block_ret (X_then_ret ?_))
      refine G_leave_ms [D] ?_
      refine G_leaveS (.drop _ (.drop _ (.nil _))) (by exact (.cons (.cell1 rfl (Cell.own1 (.head _))) (.nil))) rfl ?_ ?_
      · exact (.refl _)
      exact ⟨(by kernel_rfl), rfl⟩
theorem ordered_call (gv : Value) (g : Gr) (hg : GrE E gv g) (hl : Light g) : CallV Tryz.prog 59 #[gv] E L (.int .i64 (if ordsB g.prods = true then 0 else 9)) := by
  have hg0 := hg
  obtain ⟨tp, tc, np, nc, pp, pc, rfl, ht, hn, ⟨rows, hrows, hps, hre⟩, k1, k2, k3⟩ := hg
  have hlen : g.prods.length = rows.length := by rw [← hrows]; simp
  have q1 := hl.t; have q2 := hl.n; have q3 := hl.p
  refine CallS.toV (CallS.intro (l := [_]) _ Tryz.func59 rfl Tryz.ntmps59 rfl ?_)
  have hat : ∀ i, (hi : i < rows.length) → g.prods.getD i (0, []) = rows[i].2.2 := fun i hi => by rw [← hrows, getD_at _ (by simpa using hi)]; simp
  refine G_seq (G_region ?_)
  (refine G_boxA rfl rfl rfl rfl (.none rfl) ?_; intro b1)
  (refine G_alloc rfl rfl rfl (.none rfl) ?_; intro b2)
  refine G_end (X_then (G_seq (G_seq (G_region ?_))))
  refine Gv (V_loadA rfl rfl (Cells.own (.tail _ (.head _))) rfl) ?_
  refine G_call (k := 90) (.mk rfl rfl rfl rfl) rfl rfl (.none rfl) (prods_call _ _ _ _ _ _ _ _ _ _) ?_
  rintro r1 E2 L3 hE4 ⟨z5, ⟨rfl, ⟨rfl, rfl⟩⟩⟩
  replace hg0 := hg0.mono hE4
  replace ht := ht.mono hE4
  replace hn := hn.mono hE4
  replace hps := hps.mono hE4
  replace hre := hre.mono hE4
  refine G_end (X_then (G_block ?_))
  refine G_rangeI (σ := Int) (enc := rowEnc) rfl (iter_prods E z5 pp _ pc rows hps (by omega)) (fun _ => E) (fun v => .blk b2 (.cells #[.int .i64 v] 37 (0, 0)) :: GB b1 g tp tc np nc pp pc :: L)
    (fun pre v => v = 0 ∧ ∀ i, i < pre.length → (decide (i = 0) || decide ((g.prods.getD (i - 1) (0, [])).1 ≤ (g.prods.getD i (0, [])).1)) = true) (fun q pre v => q = .ret ∧ v = 9 ∧ ordsB g.prods = false) 0 ⟨rfl, fun i hi => by cases hi⟩ rfl (.refl _) rfl (fun _ => rfl) ?_ ?_ ?_
  · rintro y D tm fn M pre ⟨x, j⟩ v hpre ⟨rfl, hall⟩ hE
    obtain ⟨hx, hj, hlt⟩ := zip_pre hpre
    simp only at hx hj
    have hxe : rows[pre.length] = x := by rw [List.getElem?_eq_getElem hlt] at hx; exact Option.some.inj hx
    simp only [List.cons_append]
    dsimp only [rowEnc]
    subst hj
    generalize hj : pre.length = j at *
    have hstep : (decide (j = 0) || decide ((g.prods.getD (j - 1) (0, [])).1 ≤ (g.prods.getD j (0, [])).1)) = true → ∀ i, i < (pre ++ [(x, j)]).length → (decide (i = 0) || decide ((g.prods.getD (i - 1) (0, [])).1 ≤ (g.prods.getD i (0, [])).1)) = true := by
      intro h i hi
      simp only [List.length_append, List.length_singleton, hj] at hi
      by_cases he : i = j
      · subst he; exact h
      · exact hall i (by omega)
    cases j with
    | zero =>
      refine G_seq (G_region ?_)
      refine Ga ?_
      refine G_end (X_then (G_region ?_))
      (refine G_alloc rfl rfl rfl (.none rfl) ?_; intro b4)
      refine G_storeA rfl rfl rfl rfl (by simp [Value.oneCell']) rfl (.none rfl) (.head _ _ _) rfl ?_
      refine G_end (X_then ?_)
      refine G_begin (.tail _ (.head _ _ _)) ?_
      refine G_block (G_seq ?_)
      refine G_draw mixed (by kernel_rfl) ?_
      refine Q_val (V_move rfl rfl) rfl rfl (.none rfl) ?_
      refine Q_val (V_gtr rfl rfl rfl) rfl rfl (.none rfl) ?_
      refine Q_val (V_move rfl rfl) rfl rfl (.none rfl) ?_
      refine Q_bool_f 11 rfl (by kernel_rfl) ?_
      refine Q_stay (.no rfl rfl rfl rfl) rfl rfl ?_
      refine Q_stay (.no rfl rfl rfl rfl) rfl rfl ?_
      refine Q_stay (.no rfl rfl rfl rfl) rfl rfl ?_
      refine Q_stay (.no rfl rfl rfl rfl) rfl rfl ?_
      refine Q_stay (.no rfl rfl rfl rfl) rfl rfl ?_
      refine Q_stay (.no rfl rfl rfl rfl) rfl rfl ?_
      refine Q_stay (.no rfl rfl rfl rfl) rfl rfl ?_
      refine Q_stay (.no rfl rfl rfl rfl) rfl rfl ?_
      refine Q_stay (.no rfl rfl rfl rfl) rfl rfl ?_
      refine Q_stay (.no rfl rfl rfl rfl) rfl rfl ?_
      refine Q_val (V_pick_f rfl rfl rfl) rfl rfl (.none rfl) ?_
      refine Q_end ?_
      refine X_then ?_
      refine G_cond_f rfl rfl ?_
      refine G_skip (X_block ?_)
      refine G.drop ?_
      exact G_rEnd 0 ⟨rfl, hstep rfl⟩ rfl (.refl _) rfl
    | succ j =>
      have hj1 : j < rows.length := by omega
      have hx1 := prows_left (List.getElem?_eq_getElem hj1)
      rw [Nat.add_sub_cancel, hat j hj1, hat (j + 1) hlt, hxe] at hstep
      by_cases hb : rows[j].2.2.1 ≤ x.2.2.1
      · refine G_seq ?_
        refine G_region ?_
        refine Ga ?_
        refine G_end (X_then (G_region ?_))
        (refine G_alloc rfl rfl rfl (.none rfl) ?_; intro b4)
        refine G_storeA rfl rfl rfl rfl (by simp [Value.oneCell']) rfl (.none rfl) (.head _ _ _) rfl ?_
        refine G_end (X_then ?_)
        refine G_begin (.tail _ (.head _ _ _)) ?_
        refine G_block (G_seq ?_)
        refine G_draw mixed (by kernel_rfl) ?_
        refine Q_val (V_move rfl rfl) rfl rfl (.none rfl) ?_
        refine Q_val (V_gtr rfl rfl rfl) rfl rfl (.none rfl) ?_
        refine Q_val (V_move rfl rfl) rfl rfl (.none rfl) ?_
        refine Q_bool_t 11 rfl (decide_eq_true (by omega)) ?_
        refine Q_val (V_fieldAddr rfl rfl (by decide)) rfl rfl (.yes rfl rfl rfl rfl) ?_
        refine Q_val (V_load rfl rfl (Cell.own (.head _) rfl)) rfl rfl (.yes rfl rfl rfl rfl) ?_
        refine Q_val (V_fieldAddr rfl rfl (by decide)) rfl rfl (.yes rfl rfl rfl rfl) ?_
        refine Q_val (V_load rfl rfl (Cell.own (.tail _ (.tail _ (.tail _ (.tail _ (.head _))))) rfl)) rfl rfl (.yes rfl rfl rfl rfl) ?_
        refine Q_val (V_move rfl rfl) rfl rfl (.yes rfl rfl rfl rfl) ?_
        refine Q_val (V_sub_i64 rfl rfl rfl (by omega) (by omega)) rfl rfl (.yes rfl rfl rfl rfl) ?_
        refine Q_val (V_idxAddr rfl rfl rfl (SlE.rd (by assumption)) (by omega) (by omega)) rfl rfl (.yes rfl rfl rfl rfl) ?_
        refine Q_val (V_fieldAddrE rfl rfl (by assumption) (by omega) (by decide)) rfl rfl (.yes rfl rfl rfl rfl) ?_
        refine Q_val (V_loadS rfl rfl (SlE.rd (by assumption)) (by assumption) (by simp)) rfl rfl (.yes rfl rfl rfl rfl) ?_
        refine Q_val (V_lss rfl rfl rfl) rfl rfl (.yes rfl rfl rfl rfl) ?_
        refine Q_val (V_pick_t rfl rfl rfl) rfl rfl (.none rfl) ?_
        refine Q_end ?_
        refine X_then ?_
        refine G_cond_f rfl (decide_eq_false (by omega)) ?_
        refine G_skip (X_block ?_)
        refine G.drop ?_
        exact G_rEnd 0 ⟨rfl, hstep (by simp [hb])⟩ rfl (.refl _) rfl
      · refine G_seq ?_
        refine G_region ?_
        refine Ga ?_
        refine G_end (X_then (G_region ?_))
        (refine G_alloc rfl rfl rfl (.none rfl) ?_; intro b4)
        refine G_storeA rfl rfl rfl rfl (by simp [Value.oneCell']) rfl (.none rfl) (.head _ _ _) rfl ?_
        refine G_end (X_then ?_)
        refine G_begin (.tail _ (.head _ _ _)) ?_
        refine G_block (G_seq ?_)
        refine G_draw mixed (by kernel_rfl) ?_
        refine Q_val (V_move rfl rfl) rfl rfl (.none rfl) ?_
        refine Q_val (V_gtr rfl rfl rfl) rfl rfl (.none rfl) ?_
        refine Q_val (V_move rfl rfl) rfl rfl (.none rfl) ?_
        refine Q_bool_t 11 rfl (decide_eq_true (by omega)) ?_
        refine Q_val (V_fieldAddr rfl rfl (by decide)) rfl rfl (.yes rfl rfl rfl rfl) ?_
        refine Q_val (V_load rfl rfl (Cell.own (.head _) rfl)) rfl rfl (.yes rfl rfl rfl rfl) ?_
        refine Q_val (V_fieldAddr rfl rfl (by decide)) rfl rfl (.yes rfl rfl rfl rfl) ?_
        refine Q_val (V_load rfl rfl (Cell.own (.tail _ (.tail _ (.tail _ (.tail _ (.head _))))) rfl)) rfl rfl (.yes rfl rfl rfl rfl) ?_
        refine Q_val (V_move rfl rfl) rfl rfl (.yes rfl rfl rfl rfl) ?_
        refine Q_val (V_sub_i64 rfl rfl rfl (by omega) (by omega)) rfl rfl (.yes rfl rfl rfl rfl) ?_
        refine Q_val (V_idxAddr rfl rfl rfl (SlE.rd (by assumption)) (by omega) (by omega)) rfl rfl (.yes rfl rfl rfl rfl) ?_
        refine Q_val (V_fieldAddrE rfl rfl (by assumption) (by omega) (by decide)) rfl rfl (.yes rfl rfl rfl rfl) ?_
        refine Q_val (V_loadS rfl rfl (SlE.rd (by assumption)) (by assumption) (by simp)) rfl rfl (.yes rfl rfl rfl rfl) ?_
        refine Q_val (V_lss rfl rfl rfl) rfl rfl (.yes rfl rfl rfl rfl) ?_
        refine Q_val (V_pick_t rfl rfl rfl) rfl rfl (.none rfl) ?_
        refine Q_end ?_
        refine X_then ?_
        refine G_cond_t rfl (decide_eq_true (by omega)) ?_
        refine G_seq (G_region ?_)
        refine G_store1 rfl rfl rfl rfl rfl rfl (.none rfl) (.tail _ (.tail _ (.tail _ (.head _ _ _)))) ?_
        refine G_end (X_then (G_ret (X_block_ret ?_)))
        refine G.drop ?_
        refine G_rRet 9 ⟨rfl, rfl, range_not (i := j + 1) (by omega) ?_⟩ rfl (.refl _) rfl
        rw [Nat.add_sub_cancel, hat j hj1, hat (j + 1) hlt, hxe]
        simp [hb]
  · rintro D v ⟨rfl, hall⟩ hE
    have : ordsB g.prods = true := range_all fun i hi => hall i (by simpa [hlen] using hi)
    rw [this]
    refine X_block (X_then (G_seq (G_region ?_)))
    refine G_store1 rfl rfl rfl rfl rfl rfl (.none rfl) (.tail _ (.head _ _ _)) ?_
    refine G_end (X_then (G_ret ?_))
    refine G_leave_ms [D] ?_
    refine G_leaveS (.drop _ (.drop _ (.nil _))) (by exact (.cons (.cell1 rfl (Cell.own1 (.head _))) (.nil))) rfl ?_ ?_
    · exact (.refl _)
    exact ⟨(by kernel_rfl), rfl⟩
  · rintro D q pre v hpre ⟨rfl, rfl, hs⟩ hE
    rw [hs]
    refine G_ret (X_block_ret (X_then_ret ?_))
    refine G_leave_ms [D] ?_
    refine G_leaveS (.drop _ (.drop _ (.nil _))) (by exact (.cons (.cell1 rfl (Cell.own1 (.head _))) (.nil))) rfl ?_ ?_
    · exact (.refl _)
    exact ⟨(by kernel_rfl), rfl⟩
end
end Go.Proofs.YtimiokmgnclggaaGreat
set_option linter.unusedSimpArgs false
set_option linter.unusedVariables false
set_option maxHeartbeats 2000000
set_option maxRecDepth 20000
namespace Go.Proofs.YtimiokmgnclggaaGreat
open Go.RowKit
section
variable (E : Env) (L : List Res)
theorem complete1_call (b : Nat) (i : Nat) (hm : .blk b (.cells #[.int .i64 (i : Int)] 3 (0, 0)) ∈ L) (hi : i ≤ 1000) (s : Int) (v : Value) :
    CallV Tryz.prog 98 #[.agg #[.int .i64 s, v], .pointer (some ⟨b, 0, none⟩)] E L (.bool (decide (s = 16 + (i : Int)))) := by
  refine CallS.toV (CallS.intro (l := [_, _]) _ Tryz.func98 rfl Tryz.ntmps98 rfl ?_)
  refine G_seq (G_region ?_)
  (refine G_boxA rfl rfl rfl rfl (.none rfl) ?_; intro b2)
  refine Ga ?_
  refine G_end (X_then (G_seq (G_region ?_)))
  refine Gv (V_fieldAddr rfl rfl (by decide)) ?_
  refine Gv (V_load rfl rfl (Cell.own (.head _) rfl)) ?_
  refine Gv (V_load rfl rfl (Cell.own (.tail _ (by assumption)) rfl)) ?_
  refine Gv (V_add_i64 rfl rfl rfl (by omega) (by omega)) ?_
  refine Gv (V_eql rfl rfl rfl) ?_
  refine Ga ?_
  refine G_end (X_then (G_ret ?_))
  refine G_leaveS (.drop _ (.nil _)) (by exact (.cons (.tmp rfl) (.nil))) rfl ?_ ?_
  · exact (.refl _)
  exact ⟨rfl, rfl⟩
theorem IndexFuncP_call (p : Option Addr) (n c : Nat) (rows : List Row) (hx : SlE E 2 p n (prows rows)) (hn : n ≤ 1000000) (b : Nat) (j : Nat) (hm : .blk b (.cells #[.int .i64 (j : Int)] 3 (0, 0)) ∈ L) (hj : j ≤ 1000) :
    CallS Tryz.prog 114 #[.slice p n c, .func (.func 98) #[] #[.pointer (some ⟨b, 0, none⟩)]] E L (fun r E' L' => ∃ i : Int, r = .int .i64 i ∧ (0 ≤ i ↔ rows.any (fun x => decide (x.2.2.1 = 16 + (j : Int))) = true) ∧ L' = L) := by
  have e1 := hx.nR
  subst e1
  refine CallS.intro (l := [_, _]) _ Tryz.func114 rfl Tryz.ntmps114 rfl ?_
  refine G_seq (G_region ?_)
  refine Ga ?_
  refine G_end (X_then (G_seq (G_seq (G_region ?_))))
  refine Gm ?_
  refine Gv (V_lenS rfl rfl) ?_
  refine Gm ?_
  refine G_end (X_then (G_block ?_))
  refine G_loop (α := Nat) (fun i => [(0, .slice p rows.length c), (1, .func (.func 98) #[] #[.pointer (some ⟨b, 0, none⟩)]), (7, .int .i64 rows.length), (8, .int .i64 i)]) (fun _ => E) (fun i => L)
    (fun i => i ≤ rows.length ∧ ∀ k, k < i → (hk : k < rows.length) → decide (rows[k].2.2.1 = 16 + (j : Int)) = false) (fun i => rows.length - i) 0 ⟨Nat.zero_le _, fun k hk => by cases hk⟩ ⟨rfl, rfl, rfl, rfl, trivial⟩ rfl rfl ?_
  rintro i ⟨hi, hall⟩
  by_cases hlt : i < rows.length
  · have hy := prows_get (List.getElem?_eq_getElem hlt)
    by_cases hb : rows[i].2.2.1 = 16 + (j : Int)
    · have hfin : (0 : Int) ≤ (i : Int) ↔ rows.any (fun x => decide (x.2.2.1 = 16 + (j : Int))) = true := ⟨fun _ => any_of hlt (decide_eq_true hb), fun _ => by omega⟩
      refine G_seq (G_region ?_)
      refine Gv (V_lss rfl rfl rfl) ?_
      refine G_end (X_then (G_seq ?_))
      refine G_cond_t rfl (decide_eq_true (by omega)) ?_
      refine G_skip (X_then (G_seq (G_block (G_seq (G_region ?_)))))
      refine Gm ?_
      refine Ga ?_
      refine G_end (X_then (G_seq (G_region ?_)))
      refine Gm ?_
      refine Gm ?_
      refine Gm ?_
      refine Gv (V_idxAddr rfl rfl rfl (SlE.rd (by assumption)) (by omega) (by omega)) ?_
      refine Gv (V_loadAS rfl rfl (SlE.rd (by assumption)) (by assumption) (by simp) (by rfl)) ?_
      refine G_callv (k := 98) (.mk rfl rfl rfl rfl) rfl rfl (.none rfl) (complete1_call _ _ _ _ (by assumption) (by assumption) _ _) ?_
      refine G_end (X_then ?_)
      refine G_cond_t rfl (decide_eq_true (by omega)) ?_
      refine G_seq (G_region ?_)
      refine Gm ?_
      refine Ga ?_
      refine G_end (X_then (G_ret (X_block_ret (X_then_ret (X_then_ret (X_block_ret (X_then_ret ?_)))))))
      refine G_leaveS (.nil _) (by exact (.cons (.tmp rfl) (.nil))) rfl ?_ ?_
      · exact (.refl _)
      exact ⟨_, ⟨rfl, ⟨(by assumption), rfl⟩⟩⟩
    · refine G_seq ?_
      refine G_region ?_
      refine Gv (V_lss rfl rfl rfl) ?_
      refine G_end (X_then (G_seq ?_))
      refine G_cond_t rfl (decide_eq_true (by omega)) ?_
      refine G_skip (X_then (G_seq (G_block (G_seq (G_region ?_)))))
      refine Gm ?_
      refine Ga ?_
      refine G_end (X_then (G_seq (G_region ?_)))
      refine Gm ?_
      refine Gm ?_
      refine Gm ?_
      refine Gv (V_idxAddr rfl rfl rfl (SlE.rd (by assumption)) (by omega) (by omega)) ?_
      refine Gv (V_loadAS rfl rfl (SlE.rd (by assumption)) (by assumption) (by simp) (by rfl)) ?_
      refine G_callv (k := 98) (.mk rfl rfl rfl rfl) rfl rfl (.none rfl) (complete1_call _ _ _ _ (by assumption) (by assumption) _ _) ?_
      refine G_end (X_then ?_)
      refine G_cond_f rfl (decide_eq_false (by omega)) ?_
      refine G_skip (X_block (X_then (G_region ?_)))
      refine Gv (V_add_i64 rfl rfl rfl (by omega) (by omega)) ?_
      refine Gm ?_
      refine G_end (X_then ?_)
      refine G_again (i + 1) ⟨hlt, ?_⟩ (by omega) ⟨rfl, rfl, rfl, rfl, trivial⟩ rfl rfl
      intro k hk hk2
      by_cases he : k = i
      · subst he; exact decide_eq_false hb
      · exact hall k (by omega) hk2
  · have hfin : (0 : Int) ≤ -1 ↔ rows.any (fun x => decide (x.2.2.1 = 16 + (j : Int))) = true := ⟨fun h => by omega, fun h => by rw [any_none fun k hk => hall k (by omega) hk] at h; cases h⟩
    refine G_seq (G_region ?_)
    refine Gv (V_lss rfl rfl rfl) ?_
    refine G_end (X_then (G_seq ?_))
    refine G_cond_f rfl (decide_eq_false (by omega)) ?_
    refine G_exit (X_then_exit (X_then_exit (X_block_hit (X_then (G_seq (G_region ?_))))))
    refine Ga ?_
    refine G_end (X_then (G_ret ?_))
    refine G_leaveS (.nil _) (by exact (.cons (.tmp rfl) (.nil))) rfl ?_ ?_
    · exact (.refl _)
    exact ⟨_, ⟨rfl, ⟨(by assumption), rfl⟩⟩⟩
theorem ContainsFuncP_call (p : Option Addr) (n c : Nat) (rows : List Row) (hx : SlE E 2 p n (prows rows)) (hn : n ≤ 1000000) (b : Nat) (j : Nat) (hm : .blk b (.cells #[.int .i64 (j : Int)] 3 (0, 0)) ∈ L) (hj : j ≤ 1000) :
    CallV Tryz.prog 97 #[.slice p n c, .func (.func 98) #[] #[.pointer (some ⟨b, 0, none⟩)]] E L (.bool (rows.any (fun x => decide (x.2.2.1 = 16 + (j : Int))))) := by
  refine CallS.toV (CallS.intro (l := [_, _]) _ Tryz.func97 rfl Tryz.ntmps97 rfl ?_)
  refine G_seq (G_region ?_)
  refine Ga ?_
  refine G_end (X_then (G_seq (G_region ?_)))
  refine Gm ?_
  refine Gm ?_
  refine G_call (k := 114) (.mk rfl rfl rfl rfl) rfl rfl (.none rfl) (IndexFuncP_call _ _ _ _ _ _ (by assumption) (by assumption) _ _ (by assumption) (by assumption)) ?_
  rintro r1 E2 L3 hE4 ⟨z5, ⟨rfl, ⟨Z6, rfl⟩⟩⟩
  replace hx := hx.mono hE4
  refine Gv (V_geq rfl rfl rfl) ?_
  refine Ga ?_
  refine G_end (X_then (G_ret ?_))
  refine G_leaveS (.nil _) (by exact (.cons (.tmp rfl) (.nil))) rfl ?_ ?_
  · exact hE4
  rw [show decide (0 ≤ z5) = _ from Bool.eq_iff_iff.2 (decide_eq_true_iff.trans Z6)]
  exact ⟨rfl, rfl⟩
theorem complete_call (gv : Value) (g : Gr) (hg : GrE E gv g) (hl : Light g) : CallV Tryz.prog 60 #[gv] E L (.int .i64 (if compB g = true then 0 else 7)) := by
  have hg0 := hg
  obtain ⟨tp, tc, np, nc, pp, pc, rfl, ht, hn, ⟨rows, hrows, hps, hre⟩, k1, k2, k3⟩ := hg
  have hlen : g.prods.length = rows.length := by rw [← hrows]; simp
  have q1 := hl.t; have q2 := hl.n; have q3 := hl.p
  have e : compB g = (List.range g.names.length).all fun i => rows.any fun x => decide (x.2.2.1 = 16 + (i : Int)) := by
    rw [compB, ← hrows]; simp only [List.any_map]; rfl
  rw [e]
  refine CallS.toV (CallS.intro (l := [_]) _ Tryz.func60 rfl Tryz.ntmps60 rfl ?_)
  refine G_seq (G_region ?_)
  (refine G_boxA rfl rfl rfl rfl (.none rfl) ?_; intro b1)
  refine Ga ?_
  refine G_end (X_then (G_seq (G_seq (G_region ?_))))
  refine Gv (V_fieldAddr rfl rfl (by decide)) ?_
  refine Gv (V_load rfl rfl (Cell.own (.head _) rfl)) ?_
  refine Gv (V_lenS rfl rfl) ?_
  refine Gm ?_
  refine G_end (X_then (G_block ?_))
  refine G_loop (α := Nat) (fun i => [(1, .pointer (some ⟨b1, 0, none⟩)), (6, .int .i64 g.names.length), (7, .int .i64 i)]) (fun _ => E) (fun i => GB b1 g tp tc np nc pp pc :: L)
    (fun i => i ≤ g.names.length ∧ ∀ k, k < i → (rows.any fun x => decide (x.2.2.1 = 16 + (k : Int))) = true) (fun i => g.names.length - i) 0 ⟨Nat.zero_le _, fun k hk => by cases hk⟩ ⟨rfl, rfl, rfl, trivial⟩ rfl rfl ?_
  rintro i ⟨hi, hall⟩
  by_cases hlt : i < g.names.length
  · cases hb : (rows.any fun x => decide (x.2.2.1 = 16 + (i : Int))) with
    | true =>
      refine G_seq (G_region ?_)
      refine Gv (V_lss rfl rfl rfl) ?_
      refine G_end (X_then (G_seq ?_))
      refine G_cond_t rfl (decide_eq_true (by omega)) ?_
      refine G_skip (X_then (G_seq (G_block (G_seq (G_region ?_)))))
      refine Gm ?_
      (refine G_alloc rfl rfl rfl (.none rfl) ?_; intro b3)
      refine G_store1 rfl rfl rfl rfl rfl rfl (.none rfl) (.head _ _ _) ?_
      refine G_end (X_then (G_seq (G_region ?_)))
      refine Gv (V_fieldAddr rfl rfl (by decide)) ?_
      refine Gv (V_load rfl rfl (Cell.own (.tail _ (.head _)) rfl)) ?_
      refine Gv (V_makeFunc rfl rfl rfl) ?_
      refine G_callv (k := 97) (.mk rfl rfl rfl rfl) rfl rfl (.none rfl) (ContainsFuncP_call _ _ _ _ _ _ (by assumption) (by omega) _ _ (by exact .head _) (by omega)) ?_
      refine Gv (V_not rfl rfl) ?_
      refine G_end (X_then ?_)
      refine G_cond_f rfl (by simp [*]; done) ?_
      refine G_skip (X_block (X_then (G_region ?_)))
      refine Gv (V_add_i64 rfl rfl rfl (by omega) (by omega)) ?_
      refine Gm ?_
      refine G_end (X_then ?_)
      refine G.drop ?_
      refine G_again (i + 1) ⟨hlt, ?_⟩ (by omega) ⟨rfl, rfl, rfl, trivial⟩ rfl rfl
      intro k hk
      by_cases he : k = i
      · subst he; exact hb
      · exact hall k (by omega)
    | false =>
      rw [range_not hlt hb]
      refine G_seq (G_region ?_)
      refine Gv (V_lss rfl rfl rfl) ?_
      refine G_end (X_then (G_seq ?_))
      refine G_cond_t rfl (decide_eq_true (by omega)) ?_
      refine G_skip (X_then (G_seq (G_block (G_seq (G_region ?_)))))
      refine Gm ?_
      (refine G_alloc rfl rfl rfl (.none rfl) ?_; intro b3)
      refine G_store1 rfl rfl rfl rfl rfl rfl (.none rfl) (.head _ _ _) ?_
      refine G_end (X_then (G_seq (G_region ?_)))
      refine Gv (V_fieldAddr rfl rfl (by decide)) ?_
      refine Gv (V_load rfl rfl (Cell.own (.tail _ (.head _)) rfl)) ?_
      refine Gv (V_makeFunc rfl rfl rfl) ?_
      refine G_callv (k := 97) (.mk rfl rfl rfl rfl) rfl rfl (.none rfl) (ContainsFuncP_call _ _ _ _ _ _ (by assumption) (by omega) _ _ (by exact .head _) (by omega)) ?_
      refine Gv (V_not rfl rfl) ?_
      refine G_end (X_then ?_)
      refine G_cond_t rfl (by simp [*]; done) ?_
      refine G_seq (G_region ?_)
      refine Ga ?_
      refine G_end (X_then (G_ret (X_block_ret (X_then_ret (X_then_ret (X_block_ret (X_then_ret ?_)))))))
      refine G_leaveS (.drop _ (.drop _ (.nil _))) (by exact (.cons (.tmp rfl) (.nil))) rfl ?_ ?_
      · exact (.refl _)
      exact ⟨(by kernel_rfl), rfl⟩
  · rw [range_all fun k hk => hall k (by omega)]
    refine G_seq (G_region ?_)
    refine Gv (V_lss rfl rfl rfl) ?_
    refine G_end (X_then (G_seq ?_))
    refine G_cond_f rfl (decide_eq_false (by omega)) ?_
    refine G_exit (X_then_exit (X_then_exit (X_block_hit (X_then (G_seq (G_region ?_))))))
    refine Ga ?_
    refine G_end (X_then (G_ret ?_))
    refine G_leaveS (.drop _ (.nil _)) (by exact (.cons (.tmp rfl) (.nil))) rfl ?_ ?_
    · exact (.refl _)
    exact ⟨(by kernel_rfl), rfl⟩
/-! The whole check. -/
def gc5 (g : Gr) : Int := if compB g = true then 0 else 7
def gc4 (g : Gr) : Int := if ordsB g.prods = true then gc5 g else 9
def gc3 (g : Gr) : Int := if symB g = true then gc4 g else 14
def gc2 (g : Gr) : Int := if dupB (g.toks ++ [g.sep] ++ g.names) = true then 8 else gc3 g
def gc1 (g : Gr) : Int := if shortB g = true then 5 else if smallsB g = true then gc2 g else 12
def gc0 (g : Gr) : Int := if fullB g = true then 6 else gc1 g
def gcheck (g : Gr) : Int := if g.k < 1 ∨ 4 < g.k then 2 else gc0 g
def gcr (g : Gr) : Nat → Int
  | 0 => gc0 g
  | 1 => gc1 g
  | 2 => gc2 g
  | 3 => gc3 g
  | 4 => gc4 g
  | 5 => gc5 g
  | _ => 0
theorem GCheck_call (gv : Value) (g : Gr) (hg : GrE E gv g) (hl : Light g) : CallV Tryz.prog 28 #[gv] E L (.int .i64 (gcheck g)) := by
  have hg0 := hg
  obtain ⟨tp, tc, np, nc, pp, pc, rfl, ht, hn, ⟨rows, hrows, hps, hre⟩, k1, k2, k3⟩ := hg
  refine CallS.toV (CallS.intro (l := [_]) _ Tryz.func28 rfl Tryz.ntmps28 rfl ?_)
  by_cases hk : g.k < 1 ∨ 4 < g.k
  · rw [gcheck, if_pos hk]
    refine G_seq (G_region ?_)
    (refine G_boxA rfl rfl rfl rfl (.none rfl) ?_; intro b1)
    refine Ga ?_
    refine G_end (X_then (G_scope (G_seq (G_seq (G_region ?_)))))
    refine Gv (V_fieldAddr rfl rfl (by decide)) ?_
    refine Gv (V_load rfl rfl (Cell.own (.head _) rfl)) ?_
    refine Gv (V_lss rfl rfl rfl) ?_
    refine Gm ?_
    apply G_joinOr 4 8 12 rfl
    · intro H1
      dsimp only [List.take]
      simp only [Bool.and_eq_true, Bool.or_eq_true, Bool.not_eq_true', Bool.not_eq_false', Bool.and_eq_false_iff, Bool.or_eq_false_iff, Bool.not_not, decide_eq_true_eq, decide_eq_false_iff_not, ne_eq, Decidable.not_not, Bool.decide_eq_true] at H1
      refine Gn ?_
      refine Gn ?_
      refine Gn ?_
      refine Gv (V_pick_t rfl rfl rfl) ?_
      refine G_end ?_
      exact JQ_end 4 rfl rfl (by kernel_rfl)
    · intro H2
      dsimp only [List.take]
      simp only [Bool.and_eq_true, Bool.or_eq_true, Bool.not_eq_true', Bool.not_eq_false', Bool.and_eq_false_iff, Bool.or_eq_false_iff, Bool.not_not, decide_eq_true_eq, decide_eq_false_iff_not, ne_eq, Decidable.not_not, Bool.decide_eq_true] at H2
      refine Gy (V_fieldAddr rfl rfl (by decide)) ?_
      refine Gy (V_load rfl rfl (Cell.own (.head _) rfl)) ?_
      refine Gy (V_gtr rfl rfl rfl) ?_
      refine Gv (V_pick_f rfl rfl rfl) ?_
      refine G_end ?_
      exact JQ_end 4 rfl rfl (by kernel_rfl)
    dsimp only [List.drop]
    refine G_end (X_then ?_)
    refine G_cond_t rfl (by simp [*]; done) ?_
    refine G_seq (G_region ?_)
    refine Ga ?_
    refine G_end (X_then (G_ret (X_then_ret ?_)))
    refine X_ng_ret ?_
    refine G_leaveS (.drop _ (.nil _)) (by exact (.cons (.tmp rfl) (.nil))) rfl ?_ ?_
    · exact (.refl _)
    exact ⟨(by kernel_rfl), rfl⟩
  rw [gcheck, if_neg hk]
  refine G_seq (G_region ?_)
  (refine G_boxA rfl rfl rfl rfl (.none rfl) ?_; intro b1)
  refine Ga ?_
  refine G_end (X_then (G_scope (G_seq (G_seq (G_region ?_)))))
  refine Gv (V_fieldAddr rfl rfl (by decide)) ?_
  refine Gv (V_load rfl rfl (Cell.own (.head _) rfl)) ?_
  refine Gv (V_lss rfl rfl rfl) ?_
  refine Gm ?_
  refine G.bool_f 8 rfl (decide_eq_false (by omega)) ?_
  refine Gy (V_fieldAddr rfl rfl (by decide)) ?_
  refine Gy (V_load rfl rfl (Cell.own (.head _) rfl)) ?_
  refine Gy (V_gtr rfl rfl rfl) ?_
  refine Gv (V_pick_f rfl rfl rfl) ?_
  refine G_end (X_then ?_)
  refine G_cond_f rfl (decide_eq_false (by omega)) ?_
  refine G_skip (X_then (G_seq (G_label (X_then (G_seq (G_seq (G_region ?_)))))))
  (refine G_lit rfl rfl (by decide) (by simp [fillS, zeros, setLs, setL, Value.cells, List.range, List.range.loop]; rfl) rfl rfl (.none rfl) ?_; intro b13)
  refine Gv (V_lenS rfl rfl) ?_
  refine Gm ?_
  refine G_end (X_then (G_block ?_))
  refine G_loop (α := Nat) (fun i => [(1, .pointer (some ⟨b1, 0, none⟩)), (2, .int .i64 0), (13, .slice (some ⟨b13, 0, none⟩) 6 6), (14, .int .i64 ((6 : Nat) : Int)), (15, .int .i64 i)]) (fun _ => E)
    (fun i => .blk b13 (.cells #[.func (.func 55) #[] #[], .func (.func 56) #[] #[], .func (.func 57) #[] #[], .func (.func 58) #[] #[], .func (.func 59) #[] #[], .func (.func 60) #[] #[]] 77 (0, 0)) :: GB b1 g tp tc np nc pp pc :: L)
    (fun i => i ≤ 6 ∧ gcr g i = gc0 g) (fun i => 6 - i) 0 ⟨Nat.zero_le _, rfl⟩ ⟨rfl, rfl, rfl, rfl, rfl, trivial⟩ rfl rfl ?_
  rintro i ⟨hi, hall⟩
  rw [← hall]
  have hcase : i = 0 ∨ i = 1 ∨ i = 2 ∨ i = 3 ∨ i = 4 ∨ i = 5 ∨ i = 6 := by omega
  rcases hcase with rfl | rfl | rfl | rfl | rfl | rfl | rfl
  · have e : gcr g 0 = if fullB g = true then 6 else gcr g 1 := rfl
    rw [e] at hall ⊢
    by_cases hb : fullB g = true
    · rw [if_pos hb] at hall ⊢
      have v : (if fullB g = true then (6 : Int) else 0) = 6 := if_pos hb
      refine G_seq (G_region ?_)
      refine Gv (V_lss rfl rfl rfl) ?_
      refine G_end (X_then (G_seq ?_))
      refine G_cond_t rfl (by kernel_rfl) ?_
      refine G_skip (X_then (G_seq (G_block (G_seq (G_region ?_)))))
      refine Gv (V_idxB1n rfl rfl rfl (by omega)) ?_
      refine Gv (V_load rfl rfl (Cell.own (.head _) rfl)) ?_
      refine Ga ?_
      refine G_end (X_then (G_seq (G_region ?_)))
      refine Gm ?_
      refine Gv (V_loadA rfl rfl (Cells.own (.tail _ (.head _))) rfl) ?_
      refine G_callv (k := 55) (.mk rfl rfl rfl rfl) rfl rfl (.none rfl) (many_call _ _ _ _ (by assumption) (by assumption)) ?_
      refine Ga ?_
      refine G_end (X_then (G_seq (G_region ?_)))
      refine Gm ?_
      refine Gv (V_neq rfl rfl rfl) ?_
      refine G_end (X_then ?_)
      refine G_cond_t rfl (decide_eq_true (by omega)) ?_
      refine G_exit ?_
      refine X_block_miss rfl ?_
      refine X_then_exit (X_then_exit (X_block_hit (X_then (G_seq (G_region ?_)))))
      refine Gm ?_
      refine Ga ?_
      refine G_end (X_then (G_ret ?_))
      refine X_ng_ret ?_
      refine G_leaveS (.drop _ (.drop _ (.nil _))) (by exact (.cons (.tmp rfl) (.nil))) rfl ?_ ?_
      · exact (.refl _)
      exact ⟨(by (simp (discharger := omega) only [resVal, if_pos, if_neg]; first | done | rfl)), (by rfl)⟩
    · rw [if_neg hb] at hall ⊢
      have v : (if fullB g = true then (6 : Int) else 0) = 0 := if_neg hb
      refine G_seq (G_region ?_)
      refine Gv (V_lss rfl rfl rfl) ?_
      refine G_end (X_then (G_seq ?_))
      refine G_cond_t rfl (by kernel_rfl) ?_
      refine G_skip (X_then (G_seq (G_block (G_seq (G_region ?_)))))
      refine Gv (V_idxB1n rfl rfl rfl (by omega)) ?_
      refine Gv (V_load rfl rfl (Cell.own (.head _) rfl)) ?_
      refine Ga ?_
      refine G_end (X_then (G_seq (G_region ?_)))
      refine Gm ?_
      refine Gv (V_loadA rfl rfl (Cells.own (.tail _ (.head _))) rfl) ?_
      refine G_callv (k := 55) (.mk rfl rfl rfl rfl) rfl rfl (.none rfl) (many_call _ _ _ _ (by assumption) (by assumption)) ?_
      refine Ga ?_
      refine G_end (X_then (G_seq (G_region ?_)))
      refine Gm ?_
      refine Gv (V_neq rfl rfl rfl) ?_
      refine G_end (X_then ?_)
      refine G_cond_f rfl (decide_eq_false (by omega)) ?_
      refine G_skip (X_block (X_then (G_region ?_)))
      refine Gv (V_add_i64 rfl rfl rfl (by omega) (by omega)) ?_
      refine Gm ?_
      refine G_end (X_then ?_)
      rw [v]
      exact G_again 1 ⟨by omega, rfl⟩ (by omega) ⟨rfl, rfl, rfl, rfl, rfl, trivial⟩ rfl rfl
  · have e : gcr g 1 = if shortB g = true then 5 else if smallsB g = true then gcr g 2 else 12 := rfl
    rw [e] at hall ⊢
    by_cases hb : shortB g = true
    · rw [if_pos hb] at hall ⊢
      have v : (if shortB g = true then (5 : Int) else if smallsB g = true then 0 else 12) = 5 := if_pos hb
      refine G_seq (G_region ?_)
      refine Gv (V_lss rfl rfl rfl) ?_
      refine G_end (X_then (G_seq ?_))
      refine G_cond_t rfl (by kernel_rfl) ?_
      refine G_skip (X_then (G_seq (G_block (G_seq (G_region ?_)))))
      refine Gv (V_idxB1n rfl rfl rfl (by omega)) ?_
      refine Gv (V_load rfl rfl (Cell.own (.head _) rfl)) ?_
      refine Ga ?_
      refine G_end (X_then (G_seq (G_region ?_)))
      refine Gm ?_
      refine Gv (V_loadA rfl rfl (Cells.own (.tail _ (.head _))) rfl) ?_
      refine G_callv (k := 56) (.mk rfl rfl rfl rfl) rfl rfl (.none rfl) (named_call _ _ _ _ (by assumption) (by assumption)) ?_
      refine Ga ?_
      refine G_end (X_then (G_seq (G_region ?_)))
      refine Gm ?_
      refine Gv (V_neq rfl rfl rfl) ?_
      refine G_end (X_then ?_)
      refine G_cond_t rfl (decide_eq_true (by omega)) ?_
      refine G_exit ?_
      refine X_block_miss rfl ?_
      refine X_then_exit (X_then_exit (X_block_hit (X_then (G_seq (G_region ?_)))))
      refine Gm ?_
      refine Ga ?_
      refine G_end (X_then (G_ret ?_))
      refine X_ng_ret ?_
      refine G_leaveS (.drop _ (.drop _ (.nil _))) (by exact (.cons (.tmp rfl) (.nil))) rfl ?_ ?_
      · exact (.refl _)
      exact ⟨(by (simp (discharger := omega) only [resVal, if_pos, if_neg]; first | done | rfl)), (by rfl)⟩
    · rw [if_neg hb] at hall ⊢
      by_cases hc : smallsB g = true
      · rw [if_pos hc] at hall ⊢
        have v : (if shortB g = true then (5 : Int) else if smallsB g = true then 0 else 12) = 0 := by rw [if_neg hb, if_pos hc]
        refine G_seq (G_region ?_)
        refine Gv (V_lss rfl rfl rfl) ?_
        refine G_end (X_then (G_seq ?_))
        refine G_cond_t rfl (by kernel_rfl) ?_
        refine G_skip (X_then (G_seq (G_block (G_seq (G_region ?_)))))
        refine Gv (V_idxB1n rfl rfl rfl (by omega)) ?_
        refine Gv (V_load rfl rfl (Cell.own (.head _) rfl)) ?_
        refine Ga ?_
        refine G_end (X_then (G_seq (G_region ?_)))
        refine Gm ?_
        refine Gv (V_loadA rfl rfl (Cells.own (.tail _ (.head _))) rfl) ?_
        refine G_callv (k := 56) (.mk rfl rfl rfl rfl) rfl rfl (.none rfl) (named_call _ _ _ _ (by assumption) (by assumption)) ?_
        refine Ga ?_
        refine G_end (X_then (G_seq (G_region ?_)))
        refine Gm ?_
        refine Gv (V_neq rfl rfl rfl) ?_
        refine G_end (X_then ?_)
        refine G_cond_f rfl (decide_eq_false (by omega)) ?_
        refine G_skip (X_block (X_then (G_region ?_)))
        refine Gv (V_add_i64 rfl rfl rfl (by omega) (by omega)) ?_
        refine Gm ?_
        refine G_end (X_then ?_)
        rw [v]
        exact G_again 2 ⟨by omega, rfl⟩ (by omega) ⟨rfl, rfl, rfl, rfl, rfl, trivial⟩ rfl rfl
      · rw [if_neg hc] at hall ⊢
        have v : (if shortB g = true then (5 : Int) else if smallsB g = true then 0 else 12) = 12 := by rw [if_neg hb, if_neg hc]
        refine G_seq (G_region ?_)
        refine Gv (V_lss rfl rfl rfl) ?_
        refine G_end (X_then (G_seq ?_))
        refine G_cond_t rfl (by kernel_rfl) ?_
        refine G_skip (X_then (G_seq (G_block (G_seq (G_region ?_)))))
        refine Gv (V_idxB1n rfl rfl rfl (by omega)) ?_
        refine Gv (V_load rfl rfl (Cell.own (.head _) rfl)) ?_
        refine Ga ?_
        refine G_end (X_then (G_seq (G_region ?_)))
        refine Gm ?_
        refine Gv (V_loadA rfl rfl (Cells.own (.tail _ (.head _))) rfl) ?_
        refine G_callv (k := 56) (.mk rfl rfl rfl rfl) rfl rfl (.none rfl) (named_call _ _ _ _ (by assumption) (by assumption)) ?_
        refine Ga ?_
        refine G_end (X_then (G_seq (G_region ?_)))
        refine Gm ?_
        refine Gv (V_neq rfl rfl rfl) ?_
        refine G_end (X_then ?_)
        refine G_cond_t rfl (decide_eq_true (by omega)) ?_
        refine G_exit ?_
        refine X_block_miss rfl ?_
        refine X_then_exit (X_then_exit (X_block_hit (X_then (G_seq (G_region ?_)))))
        refine Gm ?_
        refine Ga ?_
        refine G_end (X_then (G_ret ?_))
        refine X_ng_ret ?_
        refine G_leaveS (.drop _ (.drop _ (.nil _))) (by exact (.cons (.tmp rfl) (.nil))) rfl ?_ ?_
        · exact (.refl _)
        exact ⟨(by (simp (discharger := omega) only [resVal, if_pos, if_neg]; first | done | rfl)), (by rfl)⟩
  · have e : gcr g 2 = if dupB (g.toks ++ [g.sep] ++ g.names) = true then 8 else gcr g 3 := rfl
    rw [e] at hall ⊢
    by_cases hb : dupB (g.toks ++ [g.sep] ++ g.names) = true
    · rw [if_pos hb] at hall ⊢
      have v : (if dupB (g.toks ++ [g.sep] ++ g.names) = true then (8 : Int) else 0) = 8 := if_pos hb
      refine G_seq (G_region ?_)
      refine Gv (V_lss rfl rfl rfl) ?_
      refine G_end (X_then (G_seq ?_))
      refine G_cond_t rfl (by kernel_rfl) ?_
      refine G_skip (X_then (G_seq (G_block (G_seq (G_region ?_)))))
      refine Gv (V_idxB1n rfl rfl rfl (by omega)) ?_
      refine Gv (V_load rfl rfl (Cell.own (.head _) rfl)) ?_
      refine Ga ?_
      refine G_end (X_then (G_seq (G_region ?_)))
      refine Gm ?_
      refine Gv (V_loadA rfl rfl (Cells.own (.tail _ (.head _))) rfl) ?_
      refine G_callv (k := 57) (.mk rfl rfl rfl rfl) rfl rfl (.none rfl) (different_call _ _ _ _ (by assumption) (by assumption)) ?_
      refine Ga ?_
      refine G_end (X_then (G_seq (G_region ?_)))
      refine Gm ?_
      refine Gv (V_neq rfl rfl rfl) ?_
      refine G_end (X_then ?_)
      refine G_cond_t rfl (decide_eq_true (by omega)) ?_
      refine G_exit ?_
      refine X_block_miss rfl ?_
      refine X_then_exit (X_then_exit (X_block_hit (X_then (G_seq (G_region ?_)))))
      refine Gm ?_
      refine Ga ?_
      refine G_end (X_then (G_ret ?_))
      refine X_ng_ret ?_
      refine G_leaveS (.drop _ (.drop _ (.nil _))) (by exact (.cons (.tmp rfl) (.nil))) rfl ?_ ?_
      · exact (.refl _)
      exact ⟨(by (simp (discharger := omega) only [resVal, if_pos, if_neg]; first | done | rfl)), (by rfl)⟩
    · rw [if_neg hb] at hall ⊢
      have v : (if dupB (g.toks ++ [g.sep] ++ g.names) = true then (8 : Int) else 0) = 0 := if_neg hb
      refine G_seq (G_region ?_)
      refine Gv (V_lss rfl rfl rfl) ?_
      refine G_end (X_then (G_seq ?_))
      refine G_cond_t rfl (by kernel_rfl) ?_
      refine G_skip (X_then (G_seq (G_block (G_seq (G_region ?_)))))
      refine Gv (V_idxB1n rfl rfl rfl (by omega)) ?_
      refine Gv (V_load rfl rfl (Cell.own (.head _) rfl)) ?_
      refine Ga ?_
      refine G_end (X_then (G_seq (G_region ?_)))
      refine Gm ?_
      refine Gv (V_loadA rfl rfl (Cells.own (.tail _ (.head _))) rfl) ?_
      refine G_callv (k := 57) (.mk rfl rfl rfl rfl) rfl rfl (.none rfl) (different_call _ _ _ _ (by assumption) (by assumption)) ?_
      refine Ga ?_
      refine G_end (X_then (G_seq (G_region ?_)))
      refine Gm ?_
      refine Gv (V_neq rfl rfl rfl) ?_
      refine G_end (X_then ?_)
      refine G_cond_f rfl (decide_eq_false (by omega)) ?_
      refine G_skip (X_block (X_then (G_region ?_)))
      refine Gv (V_add_i64 rfl rfl rfl (by omega) (by omega)) ?_
      refine Gm ?_
      refine G_end (X_then ?_)
      rw [v]
      exact G_again 3 ⟨by omega, rfl⟩ (by omega) ⟨rfl, rfl, rfl, rfl, rfl, trivial⟩ rfl rfl
  · have e : gcr g 3 = if symB g = true then gcr g 4 else 14 := rfl
    rw [e] at hall ⊢
    by_cases hb : symB g = true
    · rw [if_pos hb] at hall ⊢
      have v : (if symB g = true then (0 : Int) else 14) = 0 := if_pos hb
      refine G_seq (G_region ?_)
      refine Gv (V_lss rfl rfl rfl) ?_
      refine G_end (X_then (G_seq ?_))
      refine G_cond_t rfl (by kernel_rfl) ?_
      refine G_skip (X_then (G_seq (G_block (G_seq (G_region ?_)))))
      refine Gv (V_idxB1n rfl rfl rfl (by omega)) ?_
      refine Gv (V_load rfl rfl (Cell.own (.head _) rfl)) ?_
      refine Ga ?_
      refine G_end (X_then (G_seq (G_region ?_)))
      refine Gm ?_
      refine Gv (V_loadA rfl rfl (Cells.own (.tail _ (.head _))) rfl) ?_
      refine G_callv (k := 58) (.mk rfl rfl rfl rfl) rfl rfl (.none rfl) (symbols_call _ _ _ _ (by assumption) (by assumption)) ?_
      refine Ga ?_
      refine G_end (X_then (G_seq (G_region ?_)))
      refine Gm ?_
      refine Gv (V_neq rfl rfl rfl) ?_
      refine G_end (X_then ?_)
      refine G_cond_f rfl (decide_eq_false (by omega)) ?_
      refine G_skip (X_block (X_then (G_region ?_)))
      refine Gv (V_add_i64 rfl rfl rfl (by omega) (by omega)) ?_
      refine Gm ?_
      refine G_end (X_then ?_)
      rw [v]
      exact G_again 4 ⟨by omega, rfl⟩ (by omega) ⟨rfl, rfl, rfl, rfl, rfl, trivial⟩ rfl rfl
    · rw [if_neg hb] at hall ⊢
      have v : (if symB g = true then (0 : Int) else 14) = 14 := if_neg hb
      refine G_seq (G_region ?_)
      refine Gv (V_lss rfl rfl rfl) ?_
      refine G_end (X_then (G_seq ?_))
      refine G_cond_t rfl (by kernel_rfl) ?_
      refine G_skip (X_then (G_seq (G_block (G_seq (G_region ?_)))))
      refine Gv (V_idxB1n rfl rfl rfl (by omega)) ?_
      refine Gv (V_load rfl rfl (Cell.own (.head _) rfl)) ?_
      refine Ga ?_
      refine G_end (X_then (G_seq (G_region ?_)))
      refine Gm ?_
      refine Gv (V_loadA rfl rfl (Cells.own (.tail _ (.head _))) rfl) ?_
      refine G_callv (k := 58) (.mk rfl rfl rfl rfl) rfl rfl (.none rfl) (symbols_call _ _ _ _ (by assumption) (by assumption)) ?_
      refine Ga ?_
      refine G_end (X_then (G_seq (G_region ?_)))
      refine Gm ?_
      refine Gv (V_neq rfl rfl rfl) ?_
      refine G_end (X_then ?_)
      refine G_cond_t rfl (decide_eq_true (by omega)) ?_
      refine G_exit ?_
      refine X_block_miss rfl ?_
      refine X_then_exit (X_then_exit (X_block_hit (X_then (G_seq (G_region ?_)))))
      refine Gm ?_
      refine Ga ?_
      refine G_end (X_then (G_ret ?_))
      refine X_ng_ret ?_
      refine G_leaveS (.drop _ (.drop _ (.nil _))) (by exact (.cons (.tmp rfl) (.nil))) rfl ?_ ?_
      · exact (.refl _)
      exact ⟨(by (simp (discharger := omega) only [resVal, if_pos, if_neg]; first | done | rfl)), (by rfl)⟩
  · have e : gcr g 4 = if ordsB g.prods = true then gcr g 5 else 9 := rfl
    rw [e] at hall ⊢
    by_cases hb : ordsB g.prods = true
    · rw [if_pos hb] at hall ⊢
      have v : (if ordsB g.prods = true then (0 : Int) else 9) = 0 := if_pos hb
      refine G_seq (G_region ?_)
      refine Gv (V_lss rfl rfl rfl) ?_
      refine G_end (X_then (G_seq ?_))
      refine G_cond_t rfl (by kernel_rfl) ?_
      refine G_skip (X_then (G_seq (G_block (G_seq (G_region ?_)))))
      refine Gv (V_idxB1n rfl rfl rfl (by omega)) ?_
      refine Gv (V_load rfl rfl (Cell.own (.head _) rfl)) ?_
      refine Ga ?_
      refine G_end (X_then (G_seq (G_region ?_)))
      refine Gm ?_
      refine Gv (V_loadA rfl rfl (Cells.own (.tail _ (.head _))) rfl) ?_
      refine G_callv (k := 59) (.mk rfl rfl rfl rfl) rfl rfl (.none rfl) (ordered_call _ _ _ _ (by assumption) (by assumption)) ?_
      refine Ga ?_
      refine G_end (X_then (G_seq (G_region ?_)))
      refine Gm ?_
      refine Gv (V_neq rfl rfl rfl) ?_
      refine G_end (X_then ?_)
      refine G_cond_f rfl (decide_eq_false (by omega)) ?_
      refine G_skip (X_block (X_then (G_region ?_)))
      refine Gv (V_add_i64 rfl rfl rfl (by omega) (by omega)) ?_
      refine Gm ?_
      refine G_end (X_then ?_)
      rw [v]
      exact G_again 5 ⟨by omega, rfl⟩ (by omega) ⟨rfl, rfl, rfl, rfl, rfl, trivial⟩ rfl rfl
    · rw [if_neg hb] at hall ⊢
      have v : (if ordsB g.prods = true then (0 : Int) else 9) = 9 := if_neg hb
      refine G_seq (G_region ?_)
      refine Gv (V_lss rfl rfl rfl) ?_
      refine G_end (X_then (G_seq ?_))
      refine G_cond_t rfl (by kernel_rfl) ?_
      refine G_skip (X_then (G_seq (G_block (G_seq (G_region ?_)))))
      refine Gv (V_idxB1n rfl rfl rfl (by omega)) ?_
      refine Gv (V_load rfl rfl (Cell.own (.head _) rfl)) ?_
      refine Ga ?_
      refine G_end (X_then (G_seq (G_region ?_)))
      refine Gm ?_
      refine Gv (V_loadA rfl rfl (Cells.own (.tail _ (.head _))) rfl) ?_
      refine G_callv (k := 59) (.mk rfl rfl rfl rfl) rfl rfl (.none rfl) (ordered_call _ _ _ _ (by assumption) (by assumption)) ?_
      refine Ga ?_
      refine G_end (X_then (G_seq (G_region ?_)))
      refine Gm ?_
      refine Gv (V_neq rfl rfl rfl) ?_
      refine G_end (X_then ?_)
      refine G_cond_t rfl (decide_eq_true (by omega)) ?_
      refine G_exit ?_
      refine X_block_miss rfl ?_
      refine X_then_exit (X_then_exit (X_block_hit (X_then (G_seq (G_region ?_)))))
      refine Gm ?_
      refine Ga ?_
      refine G_end (X_then (G_ret ?_))
      refine X_ng_ret ?_
      refine G_leaveS (.drop _ (.drop _ (.nil _))) (by exact (.cons (.tmp rfl) (.nil))) rfl ?_ ?_
      · exact (.refl _)
      exact ⟨(by (simp (discharger := omega) only [resVal, if_pos, if_neg]; first | done | rfl)), (by rfl)⟩
  · have e : gcr g 5 = if compB g = true then (0 : Int) else 7 := rfl
    rw [e] at hall ⊢
    by_cases hb : compB g = true
    · rw [if_pos hb] at hall ⊢
      have v : (if compB g = true then (0 : Int) else 7) = 0 := if_pos hb
      refine G_seq (G_region ?_)
      refine Gv (V_lss rfl rfl rfl) ?_
      refine G_end (X_then (G_seq ?_))
      refine G_cond_t rfl (by kernel_rfl) ?_
      refine G_skip (X_then (G_seq (G_block (G_seq (G_region ?_)))))
      refine Gv (V_idxB1n rfl rfl rfl (by omega)) ?_
      refine Gv (V_load rfl rfl (Cell.own (.head _) rfl)) ?_
      refine Ga ?_
      refine G_end (X_then (G_seq (G_region ?_)))
      refine Gm ?_
      refine Gv (V_loadA rfl rfl (Cells.own (.tail _ (.head _))) rfl) ?_
      refine G_callv (k := 60) (.mk rfl rfl rfl rfl) rfl rfl (.none rfl) (complete_call _ _ _ _ (by assumption) (by assumption)) ?_
      refine Ga ?_
      refine G_end (X_then (G_seq (G_region ?_)))
      refine Gm ?_
      refine Gv (V_neq rfl rfl rfl) ?_
      refine G_end (X_then ?_)
      refine G_cond_f rfl (decide_eq_false (by omega)) ?_
      refine G_skip (X_block (X_then (G_region ?_)))
      refine Gv (V_add_i64 rfl rfl rfl (by omega) (by omega)) ?_
      refine Gm ?_
      refine G_end (X_then ?_)
      rw [v]
      exact G_again 6 ⟨by omega, rfl⟩ (by omega) ⟨rfl, rfl, rfl, rfl, rfl, trivial⟩ rfl rfl
    · rw [if_neg hb] at hall ⊢
      have v : (if compB g = true then (0 : Int) else 7) = 7 := if_neg hb
      refine G_seq (G_region ?_)
      refine Gv (V_lss rfl rfl rfl) ?_
      refine G_end (X_then (G_seq ?_))
      refine G_cond_t rfl (by kernel_rfl) ?_
      refine G_skip (X_then (G_seq (G_block (G_seq (G_region ?_)))))
      refine Gv (V_idxB1n rfl rfl rfl (by omega)) ?_
      refine Gv (V_load rfl rfl (Cell.own (.head _) rfl)) ?_
      refine Ga ?_
      refine G_end (X_then (G_seq (G_region ?_)))
      refine Gm ?_
      refine Gv (V_loadA rfl rfl (Cells.own (.tail _ (.head _))) rfl) ?_
      refine G_callv (k := 60) (.mk rfl rfl rfl rfl) rfl rfl (.none rfl) (complete_call _ _ _ _ (by assumption) (by assumption)) ?_
      refine Ga ?_
      refine G_end (X_then (G_seq (G_region ?_)))
      refine Gm ?_
      refine Gv (V_neq rfl rfl rfl) ?_
      refine G_end (X_then ?_)
      refine G_cond_t rfl (decide_eq_true (by omega)) ?_
      refine G_exit ?_
      refine X_block_miss rfl ?_
      refine X_then_exit (X_then_exit (X_block_hit (X_then (G_seq (G_region ?_)))))
      refine Gm ?_
      refine Ga ?_
      refine G_end (X_then (G_ret ?_))
      refine X_ng_ret ?_
      refine G_leaveS (.drop _ (.drop _ (.nil _))) (by exact (.cons (.tmp rfl) (.nil))) rfl ?_ ?_
      · exact (.refl _)
      exact ⟨(by (simp (discharger := omega) only [resVal, if_pos, if_neg]; first | done | rfl)), (by rfl)⟩
  · refine G_seq ?_
    refine G_region ?_
    refine Gv (V_lss rfl rfl rfl) ?_
    refine G_end (X_then (G_seq ?_))
    refine G_cond_f rfl (by kernel_rfl) ?_
    refine G_exit (X_then_exit (X_then_exit (X_block_hit (X_then (G_seq (G_region ?_))))))
    refine Gm ?_
    refine Ga ?_
    refine G_end (X_then (G_ret ?_))
    refine X_ng_ret ?_
    refine G_leaveS (.drop _ (.drop _ (.nil _))) (by exact (.cons (.tmp rfl) (.nil))) rfl ?_ ?_
    · exact (.refl _)
    exact ⟨rfl, rfl⟩
end
end Go.Proofs.YtimiokmgnclggaaGreat
set_option linter.unusedSimpArgs false
set_option linter.unusedVariables false
set_option maxHeartbeats 2000000
set_option maxRecDepth 20000
namespace Go.Proofs.YtimiokmgnclggaaGreat
open Go.RowKit
/-! Stacks as plain data: what they are right for, what they await, the steps. -/
abbrev Spt := Int × Int
def spC (l : List Spt) : List Value := l.flatMap fun s => [.int .i64 s.1, .int .i64 s.2]
theorem spC_len (l : List Spt) : (spC l).length = l.length * 2 := by
  induction l with
  | nil => rfl
  | cons s l ih => simp only [spC, List.flatMap_cons, List.length_append, List.length_cons, List.length_nil] at *; omega
theorem spC_append (a b : List Spt) : spC (a ++ b) = spC a ++ spC b := List.flatMap_append
theorem spC_one (l : List Spt) : ∀ v, v ∈ spC l → v.oneCell' = true := by
  intro v hv
  simp only [spC, List.mem_flatMap, List.mem_cons, List.not_mem_nil, or_false] at hv
  obtain ⟨s, _, h⟩ := hv
  rcases h with rfl | rfl <;> rfl
theorem spC_drop : ∀ (l : List Spt) (k : Nat), (spC l).drop (k * 2) = spC (l.drop k) := by
  intro l
  induction l with
  | nil => intro k; simp [spC]
  | cons t l ih =>
    intro k
    cases k with
    | zero => simp
    | succ k =>
      have e : (k + 1) * 2 = k * 2 + 1 + 1 := by omega
      rw [e]
      show (Value.int .i64 t.1 :: .int .i64 t.2 :: spC l : List Value).drop (k * 2 + 1 + 1) = _
      simp only [List.drop_succ_cons, ih k]
theorem spC_get {l : List Spt} {k : Nat} {s : Spt} (h : l[k]? = some s) : ((spC l).drop (k * 2)).take 2 = [.int .i64 s.1, .int .i64 s.2] := by
  rw [spC_drop, List.drop_eq_getElem_cons (List.getElem?_eq_some_iff.1 h).1]
  have := (List.getElem?_eq_some_iff.1 h).2
  rw [this]
  simp [spC]
def leftP (ps : List Pr) (p : Int) : Int := ((ps[p.toNat]?).map (·.1)).getD 0
def rightP (ps : List Pr) (p : Int) : List Int := ((ps[p.toNat]?).map (·.2)).getD []
/-- what must begin the Spot above -/
def nextS (ps : List Pr) (s : Spt) : Int := if 0 < s.2 then ((rightP ps s.1)[(s.2 - 1).toNat]?).getD 0 else -1
abbrev outS (ps : List Pr) (s : Spt) : Prop := s.1 < 0 ∨ (ps.length : Int) ≤ s.1 ∨ s.2 < 0 ∨ ((rightP ps s.1).length : Int) < s.2
def stk (ps : List Pr) : Int → List Spt → Int
  | _, [] => 0
  | want, s :: l => if outS ps s then 2 else if leftP ps s.1 ≠ want then 9 else stk ps (nextS ps s) l
def chkS (g : Gr) (l : List Spt) : Int := if gcheck g ≠ 0 then gcheck g else if 64 < l.length then 21 else stk g.prods g.start l
/-- what is awaited: the kind and the symbol -/
def awS (ps : List Pr) (l : List Spt) : Int × Int := match l.getLast? with
  | none => (0, 0)
  | some s => match (rightP ps s.1)[s.2.toNat]? with
    | none => (3, leftP ps s.1)
    | some x => if 16 ≤ x then (2, x) else (1, x)
def awaitM (g : Gr) (l : List Spt) : Int × Int × Int := if chkS g l ≠ 0 then (0, 0, chkS g l) else ((awS g.prods l).1, (awS g.prods l).2, 0)
/-- the top dot one place further -/
def bump (l : List Spt) : List Spt := match l.getLast? with
  | none => []
  | some s => l.dropLast ++ [(s.1, s.2 + 1)]
theorem stk_in {ps : List Pr} : ∀ (l : List Spt) (w : Int), stk ps w l = 0 → ∀ s, s ∈ l → ¬ outS ps s := by
  intro l
  induction l with
  | nil => intro w _ s h; cases h
  | cons t l ih =>
    intro w h s hs
    simp only [stk] at h
    split at h
    · omega
    · rename_i h1
      split at h
      · omega
      · rcases List.mem_cons.1 hs with rfl | hs
        · exact h1
        · exact ih _ h s hs
theorem chkS_ok {g : Gr} {l : List Spt} (h : chkS g l = 0) : gcheck g = 0 ∧ l.length ≤ 64 ∧ stk g.prods g.start l = 0 := by
  unfold chkS at h
  split at h
  · rename_i h1; exact absurd h h1
  · rename_i h1
    split at h
    · omega
    · exact ⟨by omega, by omega, h⟩
theorem chkS_in {g : Gr} {l : List Spt} (h : chkS g l = 0) : ∀ s, s ∈ l → ¬ outS g.prods s := stk_in l _ (chkS_ok h).2.2
theorem leftP_eq {ps : List Pr} {k : Nat} {p : Pr} (h : ps[k]? = some p) : leftP ps (k : Int) = p.1 := by
  unfold leftP
  rw [Int.toNat_natCast, h]
  rfl
theorem rightP_eq {ps : List Pr} {k : Nat} {p : Pr} (h : ps[k]? = some p) : rightP ps (k : Int) = p.2 := by
  unfold rightP
  rw [Int.toNat_natCast, h]
  rfl
end Go.Proofs.YtimiokmgnclggaaGreat
set_option linter.unusedSimpArgs false
set_option linter.unusedVariables false
set_option maxHeartbeats 2000000
set_option maxRecDepth 20000
namespace Go.Proofs.YtimiokmgnclggaaGreat
open Go.RowKit

/-- A token. -/
structure Tok where
  sym : Int
  text : List UInt8
  at' : Int
@[reducible] def Tok.cells (t : Tok) : List Value := [.int .i64 t.sym, .string (S t.text), .int .i64 t.at']
@[reducible] def Tok.v (t : Tok) : Value := .agg #[.int .i64 t.sym, .string (S t.text), .int .i64 t.at']
def toks (l : List Tok) : List Value := l.flatMap Tok.cells
theorem toks_append (a b : List Tok) : toks (a ++ b) = toks a ++ toks b := List.flatMap_append
theorem toks_len (l : List Tok) : (toks l).length = l.length * 3 := by
  induction l with
  | nil => rfl
  | cons t l ih => simp only [toks, List.flatMap_cons, List.length_append, List.length_cons, List.length_nil] at *; omega
theorem toks_drop (l : List Tok) (k : Nat) : (toks l).drop (k * 3) = toks (l.drop k) := by
  induction l generalizing k with
  | nil => simp [toks]
  | cons t l ih =>
    cases k with
    | zero => simp
    | succ k =>
      have e : (k + 1) * 3 = k * 3 + 3 := by omega
      rw [e]
      show (Tok.cells t ++ toks l).drop (k * 3 + 3) = _
      rw [Nat.add_comm, ← List.drop_drop]
      simpa [Tok.cells] using ih k
theorem toks_get {l : List Tok} {k : Nat} {t : Tok} (h : l[k]? = some t) : ((toks l).drop (k * 3)).take 3 = t.cells := by
  rw [toks_drop, List.drop_eq_getElem_cons (List.getElem?_eq_some_iff.1 h).1]
  have := (List.getElem?_eq_some_iff.1 h).2
  rw [this]
  simp [toks, Tok.cells]
theorem toks_one (l : List Tok) : ∀ v, v ∈ toks l → v.oneCell' = true := by
  intro v hv
  simp only [toks, Tok.cells, List.mem_flatMap, List.mem_cons, List.not_mem_nil, or_false] at hv
  obtain ⟨_, _, rfl | rfl | rfl⟩ := hv <;> rfl
theorem SlE.nilT {E : Env} : SlE E 3 none 0 (toks []) := SlE.nil
theorem SlE.nT {E : Env} {p : Option Addr} {n : Nat} {xs : List Tok} (h : SlE E 3 p n (toks xs)) : n = xs.length := by have := h.1; rw [toks_len] at this; omega

/-- A token that is right, and no separator. -/
def tokB (terms : Int) (t : Tok) : Bool := decide (0 ≤ t.sym) && decide (t.sym < terms) && decide (t.text.length ≤ 24) && decide (0 ≤ t.at') && decide (t.at' ≤ 1099511627776)
theorem tokB_iff {terms : Int} {t : Tok} : tokB terms t = true ↔ 0 ≤ t.sym ∧ t.sym < terms ∧ t.text.length ≤ 24 ∧ 0 ≤ t.at' ∧ t.at' ≤ 1099511627776 := by simp [tokB, and_assoc]
def tbeh (t : Tok) : Int := t.at' + (2 + t.text.length)

section
variable (E : Env) (L : List Res)
theorem ranged_call (n : Int) : CallV Tryz.prog 100 #[.int .i64 n] E L (.bool (decide (1 ≤ n) && decide (n ≤ 8))) := by
  refine CallS.toV (CallS.intro (l := [.int .i64 n]) _ Tryz.func100 rfl Tryz.ntmps100 rfl ?_)
  refine G_seq (G_region ?_)
  refine Ga ?_
  refine G_end (X_then (G_seq (G_region ?_)))
  refine Gm ?_
  refine Gv (V_geq rfl rfl rfl) ?_
  refine Gm ?_
  apply G_joinAnd 3 5 8 rfl
  · intro H1
    dsimp only [List.take]
    simp only [Bool.and_eq_true, Bool.or_eq_true, Bool.not_eq_true', Bool.not_eq_false', Bool.and_eq_false_iff, Bool.or_eq_false_iff, Bool.not_not, decide_eq_true_eq, decide_eq_false_iff_not, ne_eq, Decidable.not_not, Bool.decide_eq_true] at H1
    refine Gy (V_move rfl rfl) ?_
    refine Gy (V_leq rfl rfl rfl) ?_
    refine Gv (V_pick_t rfl rfl rfl) ?_
    refine G_end ?_
    exact JQ_end 3 rfl rfl (by kernel_rfl)
  · intro H2
    dsimp only [List.take]
    simp only [Bool.and_eq_true, Bool.or_eq_true, Bool.not_eq_true', Bool.not_eq_false', Bool.and_eq_false_iff, Bool.or_eq_false_iff, Bool.not_not, decide_eq_true_eq, decide_eq_false_iff_not, ne_eq, Decidable.not_not, Bool.decide_eq_true] at H2
    refine Gn ?_
    refine Gn ?_
    refine Gv (V_pick_f rfl rfl rfl) ?_
    refine G_end ?_
    exact JQ_end 3 rfl rfl (by kernel_rfl)
  dsimp only [List.drop]
  refine Ga ?_
  refine G_end (X_then (G_ret ?_))
  refine G_leaveS (.nil _) (by exact (.cons (.tmp rfl) (.nil))) rfl ?_ ?_
  · exact (.refl _)
  exact ⟨rfl, rfl⟩
theorem counts_call (n : Int) : CallV Tryz.prog 121 #[.int .i64 n] E L (.bool (decide (0 ≤ n) && decide (n ≤ 1099511627776))) := by
  refine CallS.toV (CallS.intro (l := [.int .i64 n]) _ Tryz.func121 rfl Tryz.ntmps121 rfl ?_)
  refine G_seq (G_region ?_)
  refine Ga ?_
  refine G_end (X_then (G_seq (G_region ?_)))
  refine Gm ?_
  refine Gv (V_geq rfl rfl rfl) ?_
  refine Gm ?_
  apply G_joinAnd 3 5 8 rfl
  · intro H1
    dsimp only [List.take]
    simp only [Bool.and_eq_true, Bool.or_eq_true, Bool.not_eq_true', Bool.not_eq_false', Bool.and_eq_false_iff, Bool.or_eq_false_iff, Bool.not_not, decide_eq_true_eq, decide_eq_false_iff_not, ne_eq, Decidable.not_not, Bool.decide_eq_true] at H1
    refine Gy (V_move rfl rfl) ?_
    refine Gy (V_leq rfl rfl rfl) ?_
    refine Gv (V_pick_t rfl rfl rfl) ?_
    refine G_end ?_
    exact JQ_end 3 rfl rfl (by kernel_rfl)
  · intro H2
    dsimp only [List.take]
    simp only [Bool.and_eq_true, Bool.or_eq_true, Bool.not_eq_true', Bool.not_eq_false', Bool.and_eq_false_iff, Bool.or_eq_false_iff, Bool.not_not, decide_eq_true_eq, decide_eq_false_iff_not, ne_eq, Decidable.not_not, Bool.decide_eq_true] at H2
    refine Gn ?_
    refine Gn ?_
    refine Gv (V_pick_f rfl rfl rfl) ?_
    refine G_end ?_
    exact JQ_end 3 rfl rfl (by kernel_rfl)
  dsimp only [List.drop]
  refine Ga ?_
  refine G_end (X_then (G_ret ?_))
  refine G_leaveS (.nil _) (by exact (.cons (.tmp rfl) (.nil))) rfl ?_ ?_
  · exact (.refl _)
  exact ⟨rfl, rfl⟩
theorem TokCheck_call (a : Int) (s : List UInt8) (b terms : Int) (h0 : 1 ≤ terms) (h1 : terms ≤ 8) (ht : tokB terms ⟨a, s, b⟩ = true) : CallV Tryz.prog 109 #[.agg #[.int .i64 a, .string (S s), .int .i64 b], .int .i64 terms] E L (.int .i64 0) := by
  refine CallS.toV (CallS.intro (l := [.agg #[.int .i64 a, .string (S s), .int .i64 b], .int .i64 terms]) _ Tryz.func109 rfl Tryz.ntmps109 rfl ?_)
  obtain ⟨h2, h3, h4, h5, h6⟩ := tokB_iff.1 ht
  simp only at h2 h3 h4 h5 h6
  have e1 : (decide (1 ≤ terms) && decide (terms ≤ 8)) = true := by simp [h0, h1]
  have e2 : (decide (0 ≤ b) && decide (b ≤ 1099511627776)) = true := by simp [h5, h6]
  refine G_seq (G_region ?_)
  (refine G_boxA rfl rfl rfl rfl (.none rfl) ?_; intro b2)
  refine Ga ?_
  refine G_end (X_then (G_seq (G_block (G_seq (G_region ?_)))))
  refine Gm ?_
  refine G_callv (k := 100) (.mk rfl rfl rfl rfl) rfl rfl (.none rfl) (ranged_call _ _ _) ?_
  refine Gv (V_not rfl rfl) ?_
  refine Ga ?_
  refine G_end (X_then ?_)
  refine G_cond_f rfl (by simp [*]; done) ?_
  refine G_seq (G_region ?_)
  refine Gv (V_fieldAddr rfl rfl (by decide)) ?_
  refine Gv (V_load rfl rfl (Cell.own (.head _) rfl)) ?_
  refine Gv (V_lss rfl rfl rfl) ?_
  refine Gm ?_
  refine G.bool_f 13 rfl (decide_eq_false (by omega)) ?_
  refine Gy (V_fieldAddr rfl rfl (by decide)) ?_
  refine Gy (V_load rfl rfl (Cell.own (.head _) rfl)) ?_
  refine Gy (V_move rfl rfl) ?_
  refine Gy (V_gtr rfl rfl rfl) ?_
  refine Gv (V_pick_f rfl rfl rfl) ?_
  refine Ga ?_
  refine G_end (X_then ?_)
  refine G_cond_f rfl (decide_eq_false (by omega)) ?_
  refine G_seq (G_region ?_)
  refine Gv (V_fieldAddr rfl rfl (by decide)) ?_
  refine Gv (V_load rfl rfl (Cell.own (.head _) rfl)) ?_
  refine Gv (V_len rfl rfl) ?_
  refine Gv (V_gtr rfl rfl rfl) ?_
  refine Ga ?_
  refine G_end (X_then ?_)
  refine G_cond_f rfl (decide_eq_false (by omega)) ?_
  refine G_seq (G_region ?_)
  refine Gv (V_fieldAddr rfl rfl (by decide)) ?_
  refine Gv (V_load rfl rfl (Cell.own (.head _) rfl)) ?_
  refine G_callv (k := 121) (.mk rfl rfl rfl rfl) rfl rfl (.none rfl) (counts_call _ _ _) ?_
  refine Gv (V_not rfl rfl) ?_
  refine Ga ?_
  refine G_end (X_then ?_)
  refine G_cond_f rfl (by simp [*]; done) ?_
  refine G_skip (X_block (X_then (G_seq (G_region ?_))))
  refine Ga ?_
  refine G_end (X_then (G_ret ?_))
  refine G_leaveS (.drop _ (.nil _)) (by exact (.cons (.tmp rfl) (.nil))) rfl ?_ ?_
  · exact (.refl _)
  exact ⟨(by kernel_rfl), rfl⟩
theorem Separates_call (a : Int) (s : List UInt8) (b terms : Int) (h0 : 1 ≤ terms) (h1 : terms ≤ 8) (ht : tokB terms ⟨a, s, b⟩ = true) : CallV Tryz.prog 110 #[.agg #[.int .i64 a, .string (S s), .int .i64 b], .int .i64 terms] E L (.bool false) := by
  refine CallS.toV (CallS.intro (l := [.agg #[.int .i64 a, .string (S s), .int .i64 b], .int .i64 terms]) _ Tryz.func110 rfl Tryz.ntmps110 rfl ?_)
  obtain ⟨h2, h3, h4, h5, h6⟩ := tokB_iff.1 ht
  simp only at h2 h3 h4 h5 h6
  have h7 : ¬ a = terms := by omega
  refine G_seq (G_region ?_)
  (refine G_boxA rfl rfl rfl rfl (.none rfl) ?_; intro b2)
  refine Ga ?_
  refine G_end (X_then (G_seq (G_region ?_)))
  refine Gv (V_loadA rfl rfl (Cells.own (.head _)) rfl) ?_
  refine Gm ?_
  refine G_callv (k := 109) (.mk rfl rfl rfl rfl) rfl rfl (.none rfl) (TokCheck_call _ _ _ _ _ _ (by assumption) (by assumption) (by assumption)) ?_
  refine Gv (V_eql rfl rfl rfl) ?_
  refine Gm ?_
  refine G.bool_t 9 rfl (by kernel_rfl) ?_
  refine Gy (V_fieldAddr rfl rfl (by decide)) ?_
  refine Gy (V_load rfl rfl (Cell.own (.head _) rfl)) ?_
  refine Gy (V_move rfl rfl) ?_
  refine Gy (V_eql rfl rfl rfl) ?_
  refine Gv (V_pick_t rfl rfl rfl) ?_
  refine Ga ?_
  refine G_end (X_then (G_ret ?_))
  refine G_leaveS (.drop _ (.nil _)) (by exact (.cons (.tmp rfl) (.nil))) rfl ?_ ?_
  · exact (.refl _)
  exact ⟨(by (simp [resVal, *]; done)), (by rfl)⟩
theorem right_call (a : Int) (s : List UInt8) (b terms : Int) (h0 : 1 ≤ terms) (h1 : terms ≤ 8) (ht : tokB terms ⟨a, s, b⟩ = true) : CallV Tryz.prog 88 #[.agg #[.int .i64 a, .string (S s), .int .i64 b], .int .i64 terms] E L (.int .i64 0) := by
  refine CallS.toV (CallS.intro (l := [.agg #[.int .i64 a, .string (S s), .int .i64 b], .int .i64 terms]) _ Tryz.func88 rfl Tryz.ntmps88 rfl ?_)
  refine G_seq (G_region ?_)
  (refine G_boxA rfl rfl rfl rfl (.none rfl) ?_; intro b2)
  refine Ga ?_
  refine G_end (X_then (G_seq (G_region ?_)))
  refine Gv (V_loadA rfl rfl (Cells.own (.head _)) rfl) ?_
  refine Gm ?_
  refine G_callv (k := 109) (.mk rfl rfl rfl rfl) rfl rfl (.none rfl) (TokCheck_call _ _ _ _ _ _ (by assumption) (by assumption) (by assumption)) ?_
  refine Ga ?_
  refine G_end (X_then (G_seq (G_seq (G_region ?_))))
  refine Gm ?_
  refine Gv (V_eql rfl rfl rfl) ?_
  refine Gm ?_
  refine G.bool_t 11 rfl (by kernel_rfl) ?_
  refine Gy (V_loadA rfl rfl (Cells.own (.head _)) rfl) ?_
  refine Gy (V_move rfl rfl) ?_
  refine G_callv (k := 110) (.mk rfl rfl rfl rfl) rfl rfl (.yes rfl rfl rfl rfl) (Separates_call _ _ _ _ _ _ (by assumption) (by assumption) (by assumption)) ?_
  refine Gv (V_pick_t rfl rfl rfl) ?_
  refine G_end (X_then ?_)
  refine G_cond_f rfl rfl ?_
  refine G_skip (X_then (G_seq (G_region ?_)))
  refine Gm ?_
  refine Ga ?_
  refine G_end (X_then (G_ret ?_))
  refine G_leaveS (.drop _ (.nil _)) (by exact (.cons (.tmp rfl) (.nil))) rfl ?_ ?_
  · exact (.refl _)
  exact ⟨(by kernel_rfl), rfl⟩
theorem TokSize_call (a : Int) (s : List UInt8) (b : Int) (hs : s.length ≤ 1000000) : CallV Tryz.prog 65 #[.agg #[.int .i64 a, .string (S s), .int .i64 b]] E L (.int .i64 (2 + s.length)) := by
  refine CallS.toV (CallS.intro (l := [.agg #[.int .i64 a, .string (S s), .int .i64 b]]) _ Tryz.func65 rfl Tryz.ntmps65 rfl ?_)
  refine G_seq (G_region ?_)
  (refine G_boxA rfl rfl rfl rfl (.none rfl) ?_; intro b1)
  refine Ga ?_
  refine G_end (X_then (G_seq (G_region ?_)))
  refine Gv (V_fieldAddr rfl rfl (by decide)) ?_
  refine Gv (V_load rfl rfl (Cell.own (.head _) rfl)) ?_
  refine Gv (V_len rfl rfl) ?_
  refine Gv (V_add_i64 rfl rfl rfl (by omega) (by omega)) ?_
  refine Ga ?_
  refine G_end (X_then (G_ret ?_))
  refine G_leaveS (.drop _ (.nil _)) (by exact (.cons (.tmp rfl) (.nil))) rfl ?_ ?_
  · exact (.refl _)
  exact ⟨rfl, rfl⟩
theorem behind_call (a : Int) (s : List UInt8) (b : Int) (hs : s.length ≤ 1000000) (hb : 0 ≤ b) (hb2 : b ≤ 1099511627776) : CallV Tryz.prog 89 #[.agg #[.int .i64 a, .string (S s), .int .i64 b]] E L (.int .i64 (b + (2 + s.length))) := by
  refine CallS.toV (CallS.intro (l := [.agg #[.int .i64 a, .string (S s), .int .i64 b]]) _ Tryz.func89 rfl Tryz.ntmps89 rfl ?_)
  refine G_seq (G_region ?_)
  (refine G_boxA rfl rfl rfl rfl (.none rfl) ?_; intro b1)
  refine Ga ?_
  refine G_end (X_then (G_seq ?_))
  refine G_draw mixed (by kernel_rfl) ?_
  refine Q_val (V_fieldAddr rfl rfl (by decide)) rfl rfl (.none rfl) ?_
  refine Q_val (V_load rfl rfl (Cell.own (.head _) rfl)) rfl rfl (.none rfl) ?_
  refine Q_val (V_loadA rfl rfl (Cells.own (.head _)) rfl) rfl rfl (.none rfl) ?_
  refine Q_callv (k := 65) (.mk rfl rfl rfl rfl) rfl rfl (.none rfl) (TokSize_call _ _ _ _ _ (by assumption)) ?_
  refine Q_val (V_add_i64 rfl rfl rfl (by omega) (by omega)) rfl rfl (.none rfl) ?_
  refine Q_val (V_assign rfl rfl) rfl rfl (.none rfl) ?_
  refine Q_end ?_
  refine X_then (G_ret ?_)
  refine G_leaveS (.drop _ (.nil _)) (by exact (.cons (.tmp rfl) (.nil))) rfl ?_ ?_
  · exact (.refl _)
  exact ⟨rfl, rfl⟩
end
end Go.Proofs.YtimiokmgnclggaaGreat
set_option linter.unusedSimpArgs false
set_option linter.unusedVariables false
set_option maxHeartbeats 2000000
set_option maxRecDepth 20000
namespace Go.Proofs.YtimiokmgnclggaaGreat
open Go.RowKit

def tendF (b : Int) (l : List Tok) : Int := l.foldl (fun _ t => tbeh t) b
/-- Where the last token ends. -/
def tend (l : List Tok) : Int := tendF 0 l
theorem tendF_snoc (b : Int) (l : List Tok) (t : Tok) : tendF b (l ++ [t]) = tbeh t := by simp [tendF]
theorem tend_snoc (l : List Tok) (t : Tok) : tend (l ++ [t]) = tbeh t := tendF_snoc 0 l t
theorem tend_take (l : List Tok) (k : Nat) (h : k < l.length) : tend (l.take (k + 1)) = tbeh l[k] := by
  rw [List.take_succ_eq_append_getElem h, tend_snoc]
def ordB : Int → List Tok → Bool
  | _, [] => true
  | b, t :: l => decide (b ≤ t.at') && ordB (tbeh t) l
theorem ordB_spec : ∀ (l : List Tok) (b : Int), ordB b l = true → ∀ k, (h : k < l.length) → tendF b (l.take k) ≤ l[k].at' := by
  intro l
  induction l with
  | nil => intro b _ k h; cases h
  | cons t l ih =>
    intro b h k hk
    simp only [ordB, Bool.and_eq_true, decide_eq_true_eq] at h
    cases k with
    | zero => simpa [tendF] using h.1
    | succ k => exact ih (tbeh t) h.2 k (by simpa using hk)
theorem ordB_mono : ∀ (l : List Tok) (b c : Int), c ≤ b → ordB b l = true → ordB c l = true := by
  intro l
  cases l with
  | nil => intros; rfl
  | cons t l =>
    intro b c hc h
    simp only [ordB, Bool.and_eq_true, decide_eq_true_eq] at h ⊢
    exact ⟨by omega, h.2⟩
/-- A ring that is right. -/
def gringB (k terms : Int) (l : List Tok) (e ea : Int) : Bool :=
  decide (1 ≤ k) && decide (k ≤ 4) && decide (1 ≤ terms) && decide (terms ≤ 8) && decide ((l.length : Int) ≤ k) && l.all (tokB terms) && ordB 0 l &&
  decide (0 ≤ e) && decide (e ≤ 2) && decide (0 ≤ ea) && decide (ea ≤ 1099511627776) && (decide (e ≠ 0) || decide (ea = 0)) && (decide (e = 0) || decide (l.length = 0) || decide (tend l ≤ ea))
structure Gring (k terms : Int) (l : List Tok) (e ea : Int) : Prop where
  k1 : 1 ≤ k
  k4 : k ≤ 4
  t1 : 1 ≤ terms
  t8 : terms ≤ 8
  len : (l.length : Int) ≤ k
  tok : ∀ t, t ∈ l → tokB terms t = true
  ord : ordB 0 l = true
  e0 : 0 ≤ e
  e2 : e ≤ 2
  a0 : 0 ≤ ea
  a1 : ea ≤ 1099511627776
  no : e ≠ 0 ∨ ea = 0
  fin : e = 0 ∨ l.length = 0 ∨ tend l ≤ ea
theorem gring_iff {k terms : Int} {l : List Tok} {e ea : Int} : gringB k terms l e ea = true ↔ Gring k terms l e ea := by
  simp only [gringB, Bool.and_eq_true, Bool.or_eq_true, decide_eq_true_eq, List.all_eq_true]
  constructor
  · rintro ⟨⟨⟨⟨⟨⟨⟨⟨⟨⟨⟨⟨h1, h2⟩, h3⟩, h4⟩, h5⟩, h6⟩, h7⟩, h8⟩, h9⟩, h10⟩, h11⟩, h12⟩, h13⟩
    exact ⟨h1, h2, h3, h4, h5, h6, h7, h8, h9, h10, h11, h12, by rcases h13 with (h | h) | h; exact .inl h; exact .inr (.inl h); exact .inr (.inr h)⟩
  · rintro ⟨h1, h2, h3, h4, h5, h6, h7, h8, h9, h10, h11, h12, h13⟩
    exact ⟨⟨⟨⟨⟨⟨⟨⟨⟨⟨⟨⟨h1, h2⟩, h3⟩, h4⟩, h5⟩, h6⟩, h7⟩, h8⟩, h9⟩, h10⟩, h11⟩, h12⟩, by rcases h13 with h | h | h; exact .inl (.inl h); exact .inl (.inr h); exact .inr h⟩
theorem tend_bound {terms : Int} {l : List Tok} (h : ∀ t, t ∈ l → tokB terms t = true) : 0 ≤ tend l ∧ tend l ≤ 1099511627802 := by
  rcases List.eq_nil_or_concat l with rfl | ⟨r, t, rfl⟩
  · simp [tend, tendF]
  · have h1 := tokB_iff.1 (h t (by simp))
    rw [List.concat_eq_append, tend_snoc, tbeh]
    omega

theorem Check_call (E : Env) (L : List Res) (k terms : Int) (p : Option Addr) (n c : Nat) (l : List Tok) (hl : SlE E 3 p n (toks l)) (e ea : Int) (hg : gringB k terms l e ea = true) :
    CallV Tryz.prog 54 #[.int .i64 k, .int .i64 terms, .agg #[.slice p n c, .int .i64 e, .int .i64 ea]] E L (.int .i64 0) := by
  have e1 := hl.nT
  subst e1
  refine CallS.toV (CallS.intro (l := [.int .i64 k, .int .i64 terms, .agg #[.slice p l.length c, .int .i64 e, .int .i64 ea]]) _ Tryz.func54 rfl Tryz.ntmps54 rfl ?_)
  obtain ⟨h1, h2, h3, h4, h5, h6, h7, h8, h9, h10, h11, h12, h13⟩ := gring_iff.1 hg
  refine G_seq (G_region ?_)
  (refine G_boxA rfl rfl rfl rfl (.none rfl) ?_; intro b5)
  refine Ga ?_
  refine G_end (X_then (G_seq (G_block (G_seq (G_region ?_)))))
  refine Gm ?_
  refine Gv (V_lss rfl rfl rfl) ?_
  refine Gm ?_
  refine G.bool_f 14 rfl (decide_eq_false (by omega)) ?_
  refine Gy (V_move rfl rfl) ?_
  refine Gy (V_gtr rfl rfl rfl) ?_
  refine Gv (V_pick_f rfl rfl rfl) ?_
  refine Gm ?_
  refine G.bool_f 18 rfl (decide_eq_false (by omega)) ?_
  refine Gy (V_move rfl rfl) ?_
  refine Gy (V_lss rfl rfl rfl) ?_
  refine Gv (V_pick_f rfl rfl rfl) ?_
  refine Gm ?_
  refine G.bool_f 22 rfl (decide_eq_false (by omega)) ?_
  refine Gy (V_move rfl rfl) ?_
  refine Gy (V_gtr rfl rfl rfl) ?_
  refine Gv (V_pick_f rfl rfl rfl) ?_
  refine Ga ?_
  refine G_end (X_then ?_)
  refine G_cond_f rfl (decide_eq_false (by omega)) ?_
  refine G_seq (G_region ?_)
  refine Gv (V_fieldAddr rfl rfl (by decide)) ?_
  refine Gv (V_load rfl rfl (Cell.own (.head _) rfl)) ?_
  refine Gv (V_lenS rfl rfl) ?_
  refine Gm ?_
  refine Gv (V_gtr rfl rfl rfl) ?_
  refine Ga ?_
  refine G_end (X_then ?_)
  refine G_cond_f rfl (decide_eq_false (by omega)) ?_
  refine G_skip (X_block (X_then (G_seq (G_region ?_))))
  refine Ga ?_
  refine G_end (X_then (G_seq (G_seq (G_region ?_))))
  refine Gv (V_fieldAddr rfl rfl (by decide)) ?_
  refine Gv (V_load rfl rfl (Cell.own (.head _) rfl)) ?_
  refine Gv (V_lenS rfl rfl) ?_
  refine Gm ?_
  refine G_end (X_then (G_block ?_))
  refine G_loop (α := Nat) (fun i => [(0, .int .i64 k), (1, .int .i64 terms), (5, .pointer (some ⟨b5, 0, none⟩)), (7, .int .i64 (tend (l.take i))), (33, .slice p l.length c), (34, .int .i64 l.length), (35, .int .i64 i)]) (fun _ => E)
    (fun _ => .blk b5 (.cells #[.slice p l.length c, .int .i64 e, .int .i64 ea] 30 (0, 0)) :: L) (fun i => i ≤ l.length) (fun i => l.length - i) 0 (Nat.zero_le _) ⟨rfl, rfl, rfl, rfl, rfl, rfl, rfl, trivial⟩ rfl rfl ?_
  intro i hi
  by_cases hlt : i < l.length
  · have hx := toks_get (List.getElem?_eq_getElem hlt)
    have ht := h6 _ (List.getElem_mem hlt)
    obtain ⟨q1, q2, q3, q4, q5⟩ := tokB_iff.1 ht
    have ho : tend (l.take i) ≤ l[i].at' := ordB_spec l 0 h7 i hlt
    refine G_seq (G_region ?_)
    refine Gv (V_lss rfl rfl rfl) ?_
    refine G_end (X_then (G_seq ?_))
    refine G_cond_t rfl (decide_eq_true (by omega)) ?_
    refine G_skip (X_then (G_seq (G_block (G_seq (G_region ?_)))))
    refine Gm ?_
    refine Gv (V_idxAddr rfl rfl rfl (SlE.rd (by assumption)) (by omega) (by omega)) ?_
    refine Gv (V_loadAS rfl rfl (SlE.rd (by assumption)) (by assumption) (by simp) (by rfl)) ?_
    (refine G_alloc rfl rfl rfl (.none rfl) ?_; intro b9)
    refine Ga ?_
    refine G_storeA rfl rfl rfl rfl (by simp [Value.oneCell']) rfl (.none rfl) (.head _ _ _) rfl ?_
    refine G_end (X_then (G_seq (G_seq (G_region ?_))))
    refine Gv (V_loadA rfl rfl (Cells.own (.head _)) rfl) ?_
    refine Gm ?_
    refine G_callv (k := 88) (.mk rfl rfl rfl rfl) rfl rfl (.none rfl) (right_call _ _ _ _ _ _ (by assumption) (by assumption) (by assumption)) ?_
    refine Ga ?_
    refine G_end (X_then (G_seq (G_region ?_)))
    refine Gm ?_
    refine Gv (V_neq rfl rfl rfl) ?_
    refine G_end (X_then ?_)
    refine G_cond_f rfl (by kernel_rfl) ?_
    refine G_skip (X_then (G_seq (G_seq (G_region ?_))))
    refine Gm ?_
    refine Gv (V_gtr rfl rfl rfl) ?_
    refine Gm ?_
    apply G_joinAnd 5 48 53 rfl
    · intro H1
      dsimp only [List.take]
      simp only [Bool.and_eq_true, Bool.or_eq_true, Bool.not_eq_true', Bool.not_eq_false', Bool.and_eq_false_iff, Bool.or_eq_false_iff, Bool.not_not, decide_eq_true_eq, decide_eq_false_iff_not, ne_eq, Decidable.not_not, Bool.decide_eq_true] at H1
      refine Gy (V_fieldAddr rfl rfl (by decide)) ?_
      refine Gy (V_load rfl rfl (Cell.own (.head _) rfl)) ?_
      refine Gy (V_move rfl rfl) ?_
      refine Gy (V_lss rfl rfl rfl) ?_
      refine Gv (V_pick_t rfl rfl rfl) ?_
      refine G_end ?_
      exact JQ_end 5 rfl rfl (by kernel_rfl)
    · intro H2
      dsimp only [List.take]
      simp only [Bool.and_eq_true, Bool.or_eq_true, Bool.not_eq_true', Bool.not_eq_false', Bool.and_eq_false_iff, Bool.or_eq_false_iff, Bool.not_not, decide_eq_true_eq, decide_eq_false_iff_not, ne_eq, Decidable.not_not, Bool.decide_eq_true] at H2
      refine Gn ?_
      refine Gn ?_
      refine Gn ?_
      refine Gn ?_
      refine Gv (V_pick_f rfl rfl rfl) ?_
      refine G_end ?_
      exact JQ_end 5 rfl rfl (by kernel_rfl)
    dsimp only [List.drop]
    refine G_end (X_then ?_)
    refine G_cond_f rfl (by simp [*]; done) ?_
    refine G_skip (X_then (G_region ?_))
    refine Gv (V_loadA rfl rfl (Cells.own (.head _)) rfl) ?_
    refine G_callv (k := 89) (.mk rfl rfl rfl rfl) rfl rfl (.none rfl) (behind_call _ _ _ _ _ (by omega) (by assumption) (by assumption)) ?_
    refine Ga ?_
    refine G_end (X_block (X_then (G_region ?_)))
    refine Gv (V_add_i64 rfl rfl rfl (by omega) (by omega)) ?_
    refine Gm ?_
    refine G_end (X_then ?_)
    refine G.drop ?_
    exact G_again (i + 1) (by omega) (by omega) ⟨rfl, rfl, rfl, by rw [tend_take l i hlt]; rfl, rfl, rfl, rfl, trivial⟩ rfl rfl
  have hie : i = l.length := by omega
  subst hie
  rw [List.take_length]
  have htb := tend_bound h6
  refine G_seq (G_region ?_)
  refine Gv (V_lss rfl rfl rfl) ?_
  refine G_end (X_then (G_seq ?_))
  refine G_cond_f rfl (decide_eq_false (by omega)) ?_
  refine G_exit (X_then_exit (X_then_exit (X_block_hit (X_then (G_seq (G_block (G_seq (G_region ?_))))))))
  refine Gv (V_fieldAddr rfl rfl (by decide)) ?_
  refine Gv (V_load rfl rfl (Cell.own (.head _) rfl)) ?_
  refine Gv (V_lss rfl rfl rfl) ?_
  refine Gm ?_
  refine G.bool_f 61 rfl (decide_eq_false (by omega)) ?_
  refine Gy (V_fieldAddr rfl rfl (by decide)) ?_
  refine Gy (V_load rfl rfl (Cell.own (.head _) rfl)) ?_
  refine Gy (V_gtr rfl rfl rfl) ?_
  refine Gv (V_pick_f rfl rfl rfl) ?_
  refine Gm ?_
  refine G.bool_f 66 rfl (decide_eq_false (by omega)) ?_
  refine Gy (V_fieldAddr rfl rfl (by decide)) ?_
  refine Gy (V_load rfl rfl (Cell.own (.head _) rfl)) ?_
  refine Gy (V_lss rfl rfl rfl) ?_
  refine Gv (V_pick_f rfl rfl rfl) ?_
  refine Gm ?_
  refine G.bool_f 71 rfl (decide_eq_false (by omega)) ?_
  refine Gy (V_fieldAddr rfl rfl (by decide)) ?_
  refine Gy (V_load rfl rfl (Cell.own (.head _) rfl)) ?_
  refine Gy (V_gtr rfl rfl rfl) ?_
  refine Gv (V_pick_f rfl rfl rfl) ?_
  refine Gm ?_
  refine G.bool_f 76 rfl (decide_eq_false (by omega)) ?_
  refine Gy (V_fieldAddr rfl rfl (by decide)) ?_
  refine Gy (V_load rfl rfl (Cell.own (.head _) rfl)) ?_
  refine Gy (V_eql rfl rfl rfl) ?_
  refine Gy (V_move rfl rfl) ?_
  apply G_joinAnd 4 80 84 rfl
  · intro H1
    dsimp only [List.take]
    simp only [Bool.and_eq_true, Bool.or_eq_true, Bool.not_eq_true', Bool.not_eq_false', Bool.and_eq_false_iff, Bool.or_eq_false_iff, Bool.not_not, decide_eq_true_eq, decide_eq_false_iff_not, ne_eq, Decidable.not_not, Bool.decide_eq_true] at H1
    refine Gy (V_fieldAddr rfl rfl (by decide)) ?_
    refine Gy (V_load rfl rfl (Cell.own (.head _) rfl)) ?_
    refine Gy (V_neq rfl rfl rfl) ?_
    refine Gy (V_pick_t rfl rfl rfl) ?_
    refine G_end ?_
    exact JQ_end 4 rfl rfl (by kernel_rfl)
  · intro H2
    dsimp only [List.take]
    simp only [Bool.and_eq_true, Bool.or_eq_true, Bool.not_eq_true', Bool.not_eq_false', Bool.and_eq_false_iff, Bool.or_eq_false_iff, Bool.not_not, decide_eq_true_eq, decide_eq_false_iff_not, ne_eq, Decidable.not_not, Bool.decide_eq_true] at H2
    refine Gn ?_
    refine Gn ?_
    refine Gn ?_
    refine Gy (V_pick_f rfl rfl rfl) ?_
    refine G_end ?_
    exact JQ_end 4 rfl rfl (by kernel_rfl)
  dsimp only [List.drop]
  refine Gv (V_pick_f rfl rfl rfl) ?_
  refine Ga ?_
  refine G_end (X_then ?_)
  refine G_cond rfl (fun H3 => ?_) (fun H3 => ?_)
  · simp only [Bool.and_eq_true, Bool.or_eq_true, Bool.not_eq_true', Bool.not_eq_false', Bool.and_eq_false_iff, Bool.or_eq_false_iff, Bool.not_not, decide_eq_true_eq, decide_eq_false_iff_not, ne_eq, Decidable.not_not, Bool.decide_eq_true] at H3
    (exfalso; omega)
  simp only [Bool.and_eq_true, Bool.or_eq_true, Bool.not_eq_true', Bool.not_eq_false', Bool.and_eq_false_iff, Bool.or_eq_false_iff, Bool.not_not, decide_eq_true_eq, decide_eq_false_iff_not, ne_eq, Decidable.not_not, Bool.decide_eq_true] at H3
  refine G_seq (G_region ?_)
  refine Gv (V_fieldAddr rfl rfl (by decide)) ?_
  refine Gv (V_load rfl rfl (Cell.own (.head _) rfl)) ?_
  refine Gv (V_neq rfl rfl rfl) ?_
  refine Gm ?_
  apply G_joinAnd 5 90 95 rfl
  · intro H4
    dsimp only [List.take]
    simp only [Bool.and_eq_true, Bool.or_eq_true, Bool.not_eq_true', Bool.not_eq_false', Bool.and_eq_false_iff, Bool.or_eq_false_iff, Bool.not_not, decide_eq_true_eq, decide_eq_false_iff_not, ne_eq, Decidable.not_not, Bool.decide_eq_true] at H4
    refine Gy (V_fieldAddr rfl rfl (by decide)) ?_
    refine Gy (V_load rfl rfl (Cell.own (.head _) rfl)) ?_
    refine Gy (V_lenS rfl rfl) ?_
    refine Gy (V_gtr rfl rfl rfl) ?_
    refine Gv (V_pick_t rfl rfl rfl) ?_
    refine G_end ?_
    exact JQ_end 5 rfl rfl (by kernel_rfl)
  · intro H5
    dsimp only [List.take]
    simp only [Bool.and_eq_true, Bool.or_eq_true, Bool.not_eq_true', Bool.not_eq_false', Bool.and_eq_false_iff, Bool.or_eq_false_iff, Bool.not_not, decide_eq_true_eq, decide_eq_false_iff_not, ne_eq, Decidable.not_not, Bool.decide_eq_true] at H5
    refine Gn ?_
    refine Gn ?_
    refine Gn ?_
    refine Gn ?_
    refine Gv (V_pick_f rfl rfl rfl) ?_
    refine G_end ?_
    exact JQ_end 5 rfl rfl (by kernel_rfl)
  dsimp only [List.drop]
  refine Gm ?_
  apply G_joinAnd 5 96 101 rfl
  · intro H6
    dsimp only [List.take]
    simp only [Bool.and_eq_true, Bool.or_eq_true, Bool.not_eq_true', Bool.not_eq_false', Bool.and_eq_false_iff, Bool.or_eq_false_iff, Bool.not_not, decide_eq_true_eq, decide_eq_false_iff_not, ne_eq, Decidable.not_not, Bool.decide_eq_true] at H6
    refine Gy (V_fieldAddr rfl rfl (by decide)) ?_
    refine Gy (V_load rfl rfl (Cell.own (.head _) rfl)) ?_
    refine Gy (V_move rfl rfl) ?_
    refine Gy (V_lss rfl rfl rfl) ?_
    refine Gv (V_pick_t rfl rfl rfl) ?_
    refine G_end ?_
    exact JQ_end 5 rfl rfl (by kernel_rfl)
  · intro H7
    dsimp only [List.take]
    simp only [Bool.and_eq_true, Bool.or_eq_true, Bool.not_eq_true', Bool.not_eq_false', Bool.and_eq_false_iff, Bool.or_eq_false_iff, Bool.not_not, decide_eq_true_eq, decide_eq_false_iff_not, ne_eq, Decidable.not_not, Bool.decide_eq_true] at H7
    refine Gn ?_
    refine Gn ?_
    refine Gn ?_
    refine Gn ?_
    refine Gv (V_pick_f rfl rfl rfl) ?_
    refine G_end ?_
    exact JQ_end 5 rfl rfl (by kernel_rfl)
  dsimp only [List.drop]
  refine Ga ?_
  refine G_end (X_then ?_)
  refine G_cond rfl (fun H8 => ?_) (fun H8 => ?_)
  · simp only [Bool.and_eq_true, Bool.or_eq_true, Bool.not_eq_true', Bool.not_eq_false', Bool.and_eq_false_iff, Bool.or_eq_false_iff, Bool.not_not, decide_eq_true_eq, decide_eq_false_iff_not, ne_eq, Decidable.not_not, Bool.decide_eq_true] at H8
    (exfalso; omega)
  simp only [Bool.and_eq_true, Bool.or_eq_true, Bool.not_eq_true', Bool.not_eq_false', Bool.and_eq_false_iff, Bool.or_eq_false_iff, Bool.not_not, decide_eq_true_eq, decide_eq_false_iff_not, ne_eq, Decidable.not_not, Bool.decide_eq_true] at H8
  refine G_skip (X_block (X_then (G_seq (G_region ?_))))
  refine Ga ?_
  refine G_end (X_then (G_ret ?_))
  refine G_leaveS (.drop _ (.nil _)) (by exact (.cons (.tmp rfl) (.nil))) rfl ?_ ?_
  · exact (.refl _)
  exact ⟨(by kernel_rfl), rfl⟩
end Go.Proofs.YtimiokmgnclggaaGreat
set_option linter.unusedSimpArgs false
set_option linter.unusedVariables false
set_option maxHeartbeats 2000000
set_option maxRecDepth 20000
namespace Go.Proofs.YtimiokmgnclggaaGreat
open Go.RowKit

section
variable (E : Env) (L : List Res) (k terms : Int) (p : Option Addr) (n c : Nat) (e ea : Int)
end
end Go.Proofs.YtimiokmgnclggaaGreat
set_option linter.unusedSimpArgs false
set_option linter.unusedVariables false
set_option maxHeartbeats 2000000
set_option maxRecDepth 20000
namespace Go.Proofs.YtimiokmgnclggaaGreat
open Go.RowKit

section
variable (E : Env) (L : List Res) (k terms : Int) (p : Option Addr) (n c : Nat) (e ea : Int)
theorem Place_call (l : List Tok) (hl : SlE E 3 p n (toks l)) (hg : gringB k terms l e ea = true) (hn : 0 < n) (a : Int) (s : List UInt8) (b : Int) (ht : l[0]? = some ⟨a, s, b⟩) :
    CallV Tryz.prog 27 #[.int .i64 k, .int .i64 terms, .agg #[.slice p n c, .int .i64 e, .int .i64 ea]] E L (.tuple #[.int .i64 b, .int .i64 0]) := by
  have e1 := hl.nT
  subst e1
  have hx := toks_get ht
  have hx2 : (toks l)[2]? = some (.int .i64 b) := by
    have := congrArg (fun z => z[2]?) hx
    simpa [Tok.cells, List.getElem?_take] using this
  refine CallS.toV (CallS.intro (l := [.int .i64 k, .int .i64 terms, .agg #[.slice p l.length c, .int .i64 e, .int .i64 ea]]) _ Tryz.func27 rfl Tryz.ntmps27 rfl ?_)
  refine G_seq (G_region ?_)
  (refine G_boxA rfl rfl rfl rfl (.none rfl) ?_; intro b5)
  refine Ga ?_
  refine Ga ?_
  refine G_end (X_then (G_seq (G_region ?_)))
  refine Gm ?_
  refine Gm ?_
  refine Gv (V_loadA rfl rfl (Cells.own (.head _)) rfl) ?_
  refine G_callv (k := 54) (.mk rfl rfl rfl rfl) rfl rfl (.none rfl) (Check_call _ _ _ _ _ _ _ _ (by assumption) _ _ (by assumption)) ?_
  refine Ga ?_
  refine G_end (X_then (G_seq (G_block (G_seq (G_region ?_)))))
  refine Gm ?_
  refine Gv (V_neq rfl rfl rfl) ?_
  refine Ga ?_
  refine G_end (X_then ?_)
  refine G_cond_f rfl (by kernel_rfl) ?_
  refine G_seq (G_region ?_)
  refine Gv (V_fieldAddr rfl rfl (by decide)) ?_
  refine Gv (V_load rfl rfl (Cell.own (.head _) rfl)) ?_
  refine Gv (V_lenS rfl rfl) ?_
  refine Gv (V_gtr rfl rfl rfl) ?_
  refine Ga ?_
  refine G_end (X_then ?_)
  refine G_cond_t rfl (decide_eq_true (by omega)) ?_
  refine G_seq (G_region ?_)
  refine Gv (V_fieldAddr rfl rfl (by decide)) ?_
  refine Gv (V_load rfl rfl (Cell.own (.head _) rfl)) ?_
  refine Gv (V_idxAddr rfl rfl rfl (SlE.rd (by assumption)) (by omega) (by omega)) ?_
  refine Gv (V_fieldAddrE rfl rfl (by assumption) (by omega) (by decide)) ?_
  refine Gv (V_loadS rfl rfl (SlE.rd (by assumption)) (by assumption) (by simp)) ?_
  refine Ga ?_
  refine Ga ?_
  refine G_end (X_then (G_ret (X_block_ret (X_then_ret ?_))))
  refine G_leaveS (.drop _ (.nil _)) (by exact (.cons (.tmp rfl) (.cons (.tmp rfl) (.nil)))) rfl ?_ ?_
  · exact (.refl _)
  exact ⟨rfl, rfl⟩
theorem PlaceEmpty_call (l : List Tok) (hl : SlE E 3 p n (toks l)) (hg : gringB k terms l e ea = true) (hn : n = 0) (he : e = 0) :
    CallV Tryz.prog 27 #[.int .i64 k, .int .i64 terms, .agg #[.slice p n c, .int .i64 e, .int .i64 ea]] E L (.tuple #[.int .i64 0, .int .i64 20]) := by
  have e1 := hl.nT
  subst e1
  refine CallS.toV (CallS.intro (l := [.int .i64 k, .int .i64 terms, .agg #[.slice p l.length c, .int .i64 e, .int .i64 ea]]) _ Tryz.func27 rfl Tryz.ntmps27 rfl ?_)
  refine G_seq (G_region ?_)
  (refine G_boxA rfl rfl rfl rfl (.none rfl) ?_; intro b5)
  refine Ga ?_
  refine Ga ?_
  refine G_end (X_then (G_seq (G_region ?_)))
  refine Gm ?_
  refine Gm ?_
  refine Gv (V_loadA rfl rfl (Cells.own (.head _)) rfl) ?_
  refine G_callv (k := 54) (.mk rfl rfl rfl rfl) rfl rfl (.none rfl) (Check_call _ _ _ _ _ _ _ _ (by assumption) _ _ (by assumption)) ?_
  refine Ga ?_
  refine G_end (X_then (G_seq (G_block (G_seq (G_region ?_)))))
  refine Gm ?_
  refine Gv (V_neq rfl rfl rfl) ?_
  refine Ga ?_
  refine G_end (X_then ?_)
  refine G_cond_f rfl (by kernel_rfl) ?_
  refine G_seq (G_region ?_)
  refine Gv (V_fieldAddr rfl rfl (by decide)) ?_
  refine Gv (V_load rfl rfl (Cell.own (.head _) rfl)) ?_
  refine Gv (V_lenS rfl rfl) ?_
  refine Gv (V_gtr rfl rfl rfl) ?_
  refine Ga ?_
  refine G_end (X_then ?_)
  refine G_cond_f rfl (decide_eq_false (by omega)) ?_
  refine G_seq (G_region ?_)
  refine Gv (V_fieldAddr rfl rfl (by decide)) ?_
  refine Gv (V_load rfl rfl (Cell.own (.head _) rfl)) ?_
  refine Gv (V_neq rfl rfl rfl) ?_
  refine Ga ?_
  refine G_end (X_then ?_)
  refine G_cond_f rfl (decide_eq_false (by omega)) ?_
  refine G_skip (X_block (X_then (G_seq (G_region ?_))))
  refine Ga ?_
  refine Ga ?_
  refine G_end (X_then (G_ret ?_))
  refine G_leaveS (.drop _ (.nil _)) (by exact (.cons (.tmp rfl) (.cons (.tmp rfl) (.nil)))) rfl ?_ ?_
  · exact (.refl _)
  exact ⟨(by kernel_rfl), rfl⟩
end
end Go.Proofs.YtimiokmgnclggaaGreat
set_option linter.unusedSimpArgs false
set_option linter.unusedVariables false
set_option maxHeartbeats 2000000
set_option maxRecDepth 20000
namespace Go.Proofs.YtimiokmgnclggaaGreat
open Go.RowKit

end Go.Proofs.YtimiokmgnclggaaGreat
set_option linter.unusedSimpArgs false
set_option linter.unusedVariables false
set_option maxHeartbeats 2000000
set_option maxRecDepth 20000
namespace Go.Proofs.YtimiokmgnclggaaGreat
open Go.RowKit

instance : DecidableEq Tok := fun a b =>
  if h : a.sym = b.sym ∧ a.text = b.text ∧ a.at' = b.at' then .isTrue (by obtain ⟨h1, h2, h3⟩ := h; cases a; cases b; simp only at h1 h2 h3; subst h1 h2 h3; rfl)
  else .isFalse (fun e => h (by subst e; exact ⟨rfl, rfl, rfl⟩))
theorem tok_ne {a b : Tok} (h : a ≠ b) : ¬ (a.sym = b.sym ∧ a.text = b.text ∧ a.at' = b.at') := fun ⟨h1, h2, h3⟩ => h (by cases a; cases b; simp only at h1 h2 h3; subst h1 h2 h3; rfl)

theorem SameTokens_call (E : Env) (L : List Res) (p q : Option Addr) (n m c d : Nat) (xs ys : List Tok) (hx : SlE E 3 p n (toks xs)) (hy : SlE E 3 q m (toks ys)) (hn : n ≤ 1000000) (hm : m ≤ 1000000) :
    CallV Tryz.prog 86 #[.slice p n c, .slice q m d] E L (.bool (decide (xs = ys))) := by
  have e1 := hx.nT; have e2 := hy.nT; subst e1 e2
  refine CallS.toV (CallS.intro (l := [.slice p xs.length c, .slice q ys.length d]) _ Tryz.func86 rfl Tryz.ntmps86 rfl ?_)
  by_cases hlen : xs.length ≠ ys.length
  · have hne : xs ≠ ys := fun h => hlen (congrArg List.length h)
    refine G_seq (G_region ?_)
    refine Ga ?_
    refine G_end (X_then (G_seq (G_seq (G_region ?_))))
    refine Gm ?_
    refine Gv (V_lenS rfl rfl) ?_
    refine Gm ?_
    refine Gv (V_lenS rfl rfl) ?_
    refine Gv (V_neq rfl rfl rfl) ?_
    refine G_end (X_then ?_)
    refine G_cond_t rfl (decide_eq_true (by omega)) ?_
    refine G_seq (G_region ?_)
    refine Ga ?_
    refine G_end (X_then (G_ret (X_then_ret ?_)))
    refine G_leaveS (.nil _) (by exact (.cons (.tmp rfl) (.nil))) rfl ?_ ?_
    · exact (.refl _)
    exact ⟨(by (simp [resVal, *]; done)), (by rfl)⟩
  refine G_seq (G_region ?_)
  refine Ga ?_
  refine G_end (X_then (G_seq (G_seq (G_region ?_))))
  refine Gm ?_
  refine Gv (V_lenS rfl rfl) ?_
  refine Gm ?_
  refine Gv (V_lenS rfl rfl) ?_
  refine Gv (V_neq rfl rfl rfl) ?_
  refine G_end (X_then ?_)
  refine G_cond_f rfl (decide_eq_false (by omega)) ?_
  refine G_skip (X_then (G_seq (G_seq (G_region ?_))))
  refine Ga ?_
  refine G_end (X_then (G_block ?_))
  refine G_loop (α := Nat) (fun k => [(0, .slice p xs.length c), (1, .slice q ys.length d), (5, .int .i64 k)]) (fun _ => E) (fun _ => L)
    (fun k => k ≤ xs.length ∧ xs.take k = ys.take k) (fun k => xs.length - k) 0 ⟨Nat.zero_le _, by simp⟩ ⟨rfl, rfl, rfl, trivial⟩ rfl rfl ?_
  rintro k ⟨hk, hall⟩
  by_cases hlt : k < xs.length
  · have hlt' : k < ys.length := by omega
    have h1 := toks_get (List.getElem?_eq_getElem hlt)
    have h2 := toks_get (List.getElem?_eq_getElem hlt')
    by_cases he : xs[k] = ys[k]
    · rw [← he] at h2
      refine G_seq (G_seq (G_region ?_))
      refine Gm ?_
      refine Gm ?_
      refine Gv (V_lenS rfl rfl) ?_
      refine Gv (V_lss rfl rfl rfl) ?_
      refine G_end (X_then ?_)
      refine G_cond_t rfl (decide_eq_true (by omega)) ?_
      refine G_skip (X_then (G_seq (G_block (G_seq ?_))))
      refine G_draw mixed (by kernel_rfl) ?_
      refine Q_val (V_move rfl rfl) rfl rfl (.none rfl) ?_
      refine Q_val (V_move rfl rfl) rfl rfl (.none rfl) ?_
      refine Q_val (V_idxAddr rfl rfl rfl (SlE.rd (by assumption)) (by omega) (by omega)) rfl rfl (.none rfl) ?_
      refine Q_val (V_loadAS rfl rfl (SlE.rd (by assumption)) (by assumption) (by simp) (by rfl)) rfl rfl (.none rfl) ?_
      refine Q_val (V_move rfl rfl) rfl rfl (.none rfl) ?_
      refine Q_val (V_move rfl rfl) rfl rfl (.none rfl) ?_
      refine Q_val (V_idxAddr rfl rfl rfl (SlE.rd (by assumption)) (by omega) (by omega)) rfl rfl (.none rfl) ?_
      refine Q_val (V_loadAS rfl rfl (SlE.rd (by assumption)) (by assumption) (by simp) (by rfl)) rfl rfl (.none rfl) ?_
      refine Q_val (V_aneq_46 rfl rfl rfl) rfl rfl (.none rfl) ?_
      refine Q_end ?_
      refine X_then ?_
      refine G_cond_f rfl (by simp [*]; done) ?_
      refine G_skip (X_block (X_then (G_region ?_)))
      refine Gm ?_
      refine Gv (V_add_i64 rfl rfl rfl (by omega) (by omega)) ?_
      refine Ga ?_
      refine G_end (X_then ?_)
      exact G_again (k + 1) ⟨hlt, take_next hall hlt hlt' he⟩ (by omega) ⟨rfl, rfl, rfl, trivial⟩ rfl rfl
    · have hne : xs ≠ ys := fun h => he (by subst h; rfl)
      have hne2 := tok_ne he
      refine G_seq (G_seq (G_region ?_))
      refine Gm ?_
      refine Gm ?_
      refine Gv (V_lenS rfl rfl) ?_
      refine Gv (V_lss rfl rfl rfl) ?_
      refine G_end (X_then ?_)
      refine G_cond_t rfl (decide_eq_true (by omega)) ?_
      refine G_skip (X_then (G_seq (G_block (G_seq ?_))))
      refine G_draw mixed (by kernel_rfl) ?_
      refine Q_val (V_move rfl rfl) rfl rfl (.none rfl) ?_
      refine Q_val (V_move rfl rfl) rfl rfl (.none rfl) ?_
      refine Q_val (V_idxAddr rfl rfl rfl (SlE.rd (by assumption)) (by omega) (by omega)) rfl rfl (.none rfl) ?_
      refine Q_val (V_loadAS rfl rfl (SlE.rd (by assumption)) (by assumption) (by simp) (by rfl)) rfl rfl (.none rfl) ?_
      refine Q_val (V_move rfl rfl) rfl rfl (.none rfl) ?_
      refine Q_val (V_move rfl rfl) rfl rfl (.none rfl) ?_
      refine Q_val (V_idxAddr rfl rfl rfl (SlE.rd (by assumption)) (by omega) (by omega)) rfl rfl (.none rfl) ?_
      refine Q_val (V_loadAS rfl rfl (SlE.rd (by assumption)) (by assumption) (by simp) (by rfl)) rfl rfl (.none rfl) ?_
      refine Q_val (V_aneq_46 rfl rfl rfl) rfl rfl (.none rfl) ?_
      refine Q_end ?_
      refine X_then ?_
      refine G_cond_t rfl (decide_eq_true (by omega)) ?_
      refine G_seq (G_region ?_)
      refine Ga ?_
      refine G_end (X_then (G_ret (X_block_ret (X_then_ret (X_then_ret (X_block_ret (X_then_ret ?_)))))))
      refine G_leaveS (.nil _) (by exact (.cons (.tmp rfl) (.nil))) rfl ?_ ?_
      · exact (.refl _)
      exact ⟨(by (simp [resVal, *]; done)), (by rfl)⟩
  · have heq : xs = ys := by rw [List.take_of_length_le (by omega), List.take_of_length_le (by omega)] at hall; exact hall
    refine G_seq (G_seq (G_region ?_))
    refine Gm ?_
    refine Gm ?_
    refine Gv (V_lenS rfl rfl) ?_
    refine Gv (V_lss rfl rfl rfl) ?_
    refine G_end (X_then ?_)
    refine G_cond_f rfl (decide_eq_false (by omega)) ?_
    refine G_exit (X_then_exit (X_then_exit (X_block_hit (X_then (G_seq (G_region ?_))))))
    refine Ga ?_
    refine G_end (X_then (G_ret ?_))
    refine G_leaveS (.nil _) (by exact (.cons (.tmp rfl) (.nil))) rfl ?_ ?_
    · exact (.refl _)
    exact ⟨(by (simp [resVal, *]; done)), (by rfl)⟩
theorem SameRing_call (E : Env) (L : List Res) (p q : Option Addr) (n m c d : Nat) (e ea e' ea' : Int) (xs ys : List Tok) (hx : SlE E 3 p n (toks xs)) (hy : SlE E 3 q m (toks ys)) (hn : n ≤ 1000000) (hm : m ≤ 1000000) :
    CallV Tryz.prog 49 #[.agg #[.slice p n c, .int .i64 e, .int .i64 ea], .agg #[.slice q m d, .int .i64 e', .int .i64 ea']] E L (.bool (decide (e = e') && decide (ea = ea') && decide (xs = ys))) := by
  refine CallS.toV (CallS.intro (l := [.agg #[.slice p n c, .int .i64 e, .int .i64 ea], .agg #[.slice q m d, .int .i64 e', .int .i64 ea']]) _ Tryz.func49 rfl Tryz.ntmps49 rfl ?_)
  refine G_seq (G_region ?_)
  (refine G_boxA rfl rfl rfl rfl (.none rfl) ?_; intro b2)
  (refine G_boxA rfl rfl rfl rfl (.none rfl) ?_; intro b3)
  refine Ga ?_
  refine G_end (X_then (G_seq (G_region ?_)))
  refine Gv (V_fieldAddr rfl rfl (by decide)) ?_
  refine Gv (V_load rfl rfl (Cell.own (.tail _ (.head _)) rfl)) ?_
  refine Gv (V_fieldAddr rfl rfl (by decide)) ?_
  refine Gv (V_load rfl rfl (Cell.own (.head _) rfl)) ?_
  refine Gv (V_eql rfl rfl rfl) ?_
  refine Gm ?_
  apply G_joinAnd 6 10 16 rfl
  · intro H1
    dsimp only [List.take]
    simp only [Bool.and_eq_true, Bool.or_eq_true, Bool.not_eq_true', Bool.not_eq_false', Bool.and_eq_false_iff, Bool.or_eq_false_iff, Bool.not_not, decide_eq_true_eq, decide_eq_false_iff_not, ne_eq, Decidable.not_not, Bool.decide_eq_true] at H1
    refine Gy (V_fieldAddr rfl rfl (by decide)) ?_
    refine Gy (V_load rfl rfl (Cell.own (.tail _ (.head _)) rfl)) ?_
    refine Gy (V_fieldAddr rfl rfl (by decide)) ?_
    refine Gy (V_load rfl rfl (Cell.own (.head _) rfl)) ?_
    refine Gy (V_eql rfl rfl rfl) ?_
    refine Gv (V_pick_t rfl rfl rfl) ?_
    refine G_end ?_
    exact JQ_end 6 rfl rfl (by kernel_rfl)
  · intro H2
    dsimp only [List.take]
    simp only [Bool.and_eq_true, Bool.or_eq_true, Bool.not_eq_true', Bool.not_eq_false', Bool.and_eq_false_iff, Bool.or_eq_false_iff, Bool.not_not, decide_eq_true_eq, decide_eq_false_iff_not, ne_eq, Decidable.not_not, Bool.decide_eq_true] at H2
    refine Gn ?_
    refine Gn ?_
    refine Gn ?_
    refine Gn ?_
    refine Gn ?_
    refine Gv (V_pick_f rfl rfl rfl) ?_
    refine G_end ?_
    exact JQ_end 6 rfl rfl (by kernel_rfl)
  dsimp only [List.drop]
  refine Gm ?_
  apply G_joinAnd 6 17 23 rfl
  · intro H3
    dsimp only [List.take]
    simp only [Bool.and_eq_true, Bool.or_eq_true, Bool.not_eq_true', Bool.not_eq_false', Bool.and_eq_false_iff, Bool.or_eq_false_iff, Bool.not_not, decide_eq_true_eq, decide_eq_false_iff_not, ne_eq, Decidable.not_not, Bool.decide_eq_true] at H3
    refine Gy (V_fieldAddr rfl rfl (by decide)) ?_
    refine Gy (V_load rfl rfl (Cell.own (.tail _ (.head _)) rfl)) ?_
    refine Gy (V_fieldAddr rfl rfl (by decide)) ?_
    refine Gy (V_load rfl rfl (Cell.own (.head _) rfl)) ?_
    refine G_callv (k := 86) (.mk rfl rfl rfl rfl) rfl rfl (.yes rfl rfl rfl rfl) (SameTokens_call _ _ _ _ _ _ _ _ _ _ (by assumption) (by assumption) (by assumption) (by assumption)) ?_
    refine Gv (V_pick_t rfl rfl rfl) ?_
    refine G_end ?_
    exact JQ_end 6 rfl rfl (by kernel_rfl)
  · intro H4
    dsimp only [List.take]
    simp only [Bool.and_eq_true, Bool.or_eq_true, Bool.not_eq_true', Bool.not_eq_false', Bool.and_eq_false_iff, Bool.or_eq_false_iff, Bool.not_not, decide_eq_true_eq, decide_eq_false_iff_not, ne_eq, Decidable.not_not, Bool.decide_eq_true] at H4
    refine Gn ?_
    refine Gn ?_
    refine Gn ?_
    refine Gn ?_
    refine Gn ?_
    refine Gv (V_pick_f rfl rfl rfl) ?_
    refine G_end ?_
    exact JQ_end 6 rfl rfl (by kernel_rfl)
  dsimp only [List.drop]
  refine Ga ?_
  refine G_end (X_then (G_ret ?_))
  refine G_leaveS (.drop _ (.drop _ (.nil _))) (by exact (.cons (.tmp rfl) (.nil))) rfl ?_ ?_
  · exact (.refl _)
  exact ⟨rfl, rfl⟩
section
variable (E : Env) (L : List Res)
end
end Go.Proofs.YtimiokmgnclggaaGreat
set_option linter.unusedSimpArgs false
set_option linter.unusedVariables false
set_option maxHeartbeats 2000000
set_option maxRecDepth 20000
namespace Go.Proofs.YtimiokmgnclggaaGreat
open Go.RowKit

def kbyte (k : Int) : UInt8 := UInt8.ofNat (k % 256).toNat
theorem kbyte_wrap (k : Int) : IntKind.u8.wrap k = ((kbyte k).toNat : Int) := by
  have h1 : 0 ≤ k % 256 := by omega
  have h2 : k % 256 < 256 := by omega
  have e : (kbyte k).toNat = (k % 256).toNat := by
    simp only [kbyte, UInt8.toNat_ofNat']
    omega
  rw [e]
  simp [IntKind.wrap, IntKind.bits, IntKind.signed]
  omega
/-- n bytes made of a number. -/
def fillB : Nat → Int → List UInt8
  | 0, _ => []
  | n + 1, k => kbyte ((k * 75 + 74) % 65537) :: fillB n ((k * 75 + 74) % 65537)
theorem fillB_len (n : Nat) : ∀ k, (fillB n k).length = n := by
  induction n with
  | zero => intro k; rfl
  | succ n ih => intro k; simp [fillB, ih]
section
variable (E : Env) (L : List Res)
theorem Fill_call (k : Int) (hk0 : 0 ≤ k) (hk1 : k ≤ 100000000000000000) (n : Nat) (hn : n ≤ 1000) : CallV Tryz.prog 48 #[.int .i64 k, .int .i64 n] E L (.string (S (fillB n k))) := by
  refine CallS.toV (CallS.intro (l := [.int .i64 k, .int .i64 n]) _ Tryz.func48 rfl Tryz.ntmps48 rfl ?_)
  refine G_seq (G_region ?_)
  refine Ga ?_
  refine G_end (X_then (G_seq (G_region ?_)))
  refine Ga ?_
  refine G_end (X_then (G_seq (G_seq (G_region ?_))))
  refine Ga ?_
  refine G_end (X_then (G_block ?_))
  refine G_loop (α := Nat × Int × List UInt8) (fun x => [(0, .int .i64 x.2.1), (1, .int .i64 n), (5, .string (S x.2.2)), (6, .int .i64 x.1)]) (fun _ => E) (fun _ => L)
    (fun x => x.1 ≤ n ∧ x.2.2 ++ fillB (n - x.1) x.2.1 = fillB n k ∧ x.2.2.length = x.1 ∧ 0 ≤ x.2.1 ∧ x.2.1 ≤ 100000000000000000) (fun x => n - x.1) (0, k, []) ⟨Nat.zero_le _, rfl, rfl, hk0, hk1⟩ ⟨rfl, rfl, rfl, rfl, trivial⟩ rfl rfl ?_
  rintro ⟨i, j, o⟩ ⟨hi, ho, hl, hj0, hj1⟩
  simp only at hi ho hl hj0 hj1 ⊢
  by_cases hlt : i < n
  · have e := kbyte_wrap ((j * 75 + 74) % 65537)
    have h1 : 0 ≤ (j * 75 + 74) % 65537 := by omega
    have h2 : (j * 75 + 74) % 65537 < 65537 := by omega
    refine G_seq (G_seq (G_region ?_))
    refine Gm ?_
    refine Gm ?_
    refine Gv (V_lss rfl rfl rfl) ?_
    refine G_end (X_then ?_)
    refine G_cond_t rfl (decide_eq_true (by omega)) ?_
    refine G_skip (X_then (G_seq (G_block (G_seq (G_region ?_)))))
    refine Gm ?_
    refine Gv (V_mul_i64 rfl rfl rfl (by omega) (by omega)) ?_
    refine Gv (V_add_i64 rfl rfl rfl (by omega) (by omega)) ?_
    refine G_callv (k := 14) (.mk rfl rfl rfl rfl) rfl rfl (.none rfl) (Mod_call' _ _ _ _ (by omega) (by omega)) ?_
    refine Ga ?_
    refine G_end (X_then (G_region ?_))
    refine Gm ?_
    refine Gm ?_
    refine Gv (V_conv rfl rfl) ?_
    (refine G_lit1 rfl rfl rfl rfl rfl (.none rfl) ?_; intro b19)
    rw [e]
    refine Gv (V_b2s (l := [_]) rfl rfl (Rd.lit (.head _) rfl)) ?_
    refine Gv (V_cat rfl rfl rfl (by simp; omega)) ?_
    refine Ga ?_
    refine G_end (X_block (X_then (G_region ?_)))
    refine Gm ?_
    refine Gv (V_add_i64 rfl rfl rfl (by omega) (by omega)) ?_
    refine Ga ?_
    refine G_end (X_then ?_)
    refine G.drop ?_
    generalize hj' : (j * 75 + 74) % 65537 = j' at *
    refine G_again (i + 1, j', o ++ [kbyte j']) ⟨hlt, ?_, by simp [hl], h1, by simp only; omega⟩ (by simp only; omega) ⟨rfl, rfl, rfl, rfl, trivial⟩ rfl rfl
    simp only
    rw [← ho, show n - i = (n - (i + 1)) + 1 by omega, fillB, List.append_assoc, hj']
    rfl
  · have hin : i = n := by omega
    subst hin
    rw [Nat.sub_self, fillB, List.append_nil] at ho
    rw [← ho]
    refine G_seq (G_seq (G_region ?_))
    refine Gm ?_
    refine Gm ?_
    refine Gv (V_lss rfl rfl rfl) ?_
    refine G_end (X_then ?_)
    refine G_cond_f rfl (decide_eq_false (by omega)) ?_
    refine G_exit (X_then_exit (X_then_exit (X_block_hit (X_then (G_seq (G_region ?_))))))
    refine Gm ?_
    refine Ga ?_
    refine G_end (X_then (G_ret ?_))
    refine G_leaveS (.nil _) (by exact (.cons (.tmp rfl) (.nil))) rfl ?_ ?_
    · exact (.refl _)
    exact ⟨rfl, rfl⟩
end
end Go.Proofs.YtimiokmgnclggaaGreat
set_option linter.unusedSimpArgs false
set_option linter.unusedVariables false
set_option maxHeartbeats 2000000
set_option maxRecDepth 20000
namespace Go.Proofs.YtimiokmgnclggaaGreat
open Go.RowKit

section
variable (E : Env) (L : List Res)
/-- A token made of a number. -/
def mkTokQ (q terms at1 : Int) : Tok := ⟨q % terms, fillB ((q / 8) % 4).toNat q, at1⟩
def mkTok (n terms at1 : Int) : Tok := mkTokQ (n % 1073741824) terms at1
theorem Token_call (n terms at1 : Int) (hn : -9223372036854775808 ≤ n ∧ n ≤ 9223372036854775807) (ht : 1 ≤ terms) (ht8 : terms ≤ 8) :
    CallV Tryz.prog 22 #[.int .i64 n, .int .i64 terms, .int .i64 at1] E L (mkTok n terms at1).v := by
  obtain ⟨q, hq⟩ : ∃ q, n % 1073741824 = q := ⟨_, rfl⟩
  have h1 : 0 ≤ q := by omega
  have h2 : q < 1073741824 := by omega
  obtain ⟨m, hm⟩ : ∃ m : Nat, (q / 8) % 4 = (m : Int) := ⟨((q / 8) % 4).toNat, by omega⟩
  have h4 : m ≤ 3 := by omega
  have h7 : max terms 1 = terms := by omega
  have h8 : mkTok n terms at1 = ⟨q % terms, fillB m q, at1⟩ := by rw [mkTok, hq, mkTokQ, hm]; rfl
  rw [h8]
  refine CallS.toV (CallS.intro (l := [.int .i64 n, .int .i64 terms, .int .i64 at1]) _ Tryz.func22 rfl Tryz.ntmps22 rfl ?_)
  refine G_seq (G_region ?_)
  (refine G_alloc rfl rfl rfl (.none rfl) ?_; intro b6)
  refine G_end (X_then (G_seq (G_region ?_)))
  refine Gm ?_
  refine G_callv (.mk rfl rfl rfl rfl) rfl rfl (.none rfl) (Mod_call' E _ n 1073741824 hn (by omega)) ?_
  rw [hq]
  refine Ga ?_
  refine G_end (X_then (G_seq (G_region ?_)))
  refine Gm ?_
  refine Gm ?_
  refine Gv (V_max rfl rfl rfl) ?_
  rw [h7]
  refine G_callv (.mk rfl rfl rfl rfl) rfl rfl (.none rfl) (Mod_call' E _ q terms (by omega) (by omega)) ?_
  refine Gm ?_
  refine Gm ?_
  refine Gv (V_quo_n rfl rfl rfl (by omega) (by omega) (by simp [IntKind.max, IntKind.signed, IntKind.bits]; omega)) ?_
  refine Gv (V_rem_n rfl rfl rfl (by omega) (by omega)) ?_
  rw [hm]
  refine G_callv (k := 48) (.mk rfl rfl rfl rfl) rfl rfl (.none rfl) (Fill_call _ _ _ (by assumption) (by omega) _ (by omega)) ?_
  refine Gm ?_
  refine Gv (V_build rfl rfl (by simp [fillV, setLs, setL, Value.cells]; rfl)) ?_
  refine G_storeA rfl rfl rfl rfl (by simp [Value.oneCell']) rfl (.none rfl) (.head _ _ _) rfl ?_
  refine G_end (X_then (G_ret ?_))
  refine G_leaveS (.drop _ (.nil _)) (by exact (.cons (.cellA rfl (Cells.own (.head _)) rfl) (.nil))) rfl ?_ ?_
  · exact (.refl _)
  exact ⟨rfl, rfl⟩
theorem mkTok_ok (n terms at1 : Int) (ht : 1 ≤ terms) (ha0 : 0 ≤ at1) (ha1 : at1 ≤ 1099511627776) : tokB terms (mkTok n terms at1) = true ∧ (mkTok n terms at1).text.length ≤ 3 := by
  obtain ⟨q, hq⟩ : ∃ q, n % 1073741824 = q := ⟨_, rfl⟩
  have h1 : 0 ≤ q := by omega
  obtain ⟨m, hm⟩ : ∃ m : Nat, (q / 8) % 4 = (m : Int) := ⟨((q / 8) % 4).toNat, by omega⟩
  have h8 : mkTok n terms at1 = ⟨q % terms, fillB m q, at1⟩ := by rw [mkTok, hq, mkTokQ, hm]; rfl
  have h2 := Int.emod_nonneg q (b := terms) (by omega)
  have h3 := Int.emod_lt_of_pos q (b := terms) (by omega)
  rw [h8, tokB_iff]
  simp only [fillB_len]
  omega
theorem mkTok_at (n terms at1 : Int) : (mkTok n terms at1).at' = at1 := rfl
/-- What tokens in order look like. -/
inductive Chain (terms : Int) : Int → List Tok → Prop
  | nil (at1 : Int) : Chain terms at1 []
  | cons (t : Tok) (l : List Tok) (h : tokB terms t = true) (ht : t.text.length ≤ 3) (hl : Chain terms (tbeh t) l) : Chain terms t.at' (t :: l)
end
end Go.Proofs.YtimiokmgnclggaaGreat
namespace Go.Proofs.YtimiokmgnclggaaGreat
open Go.RowKit
section
variable {n : Nat} {ds : List Deferred} {fs : List (Nat × Value)} {E : Env} {L : List Res} {X : Act → World → Prop}
theorem G.slOpen {e : TypeId} {sz k c : Nat} {a : Option Addr} {xs : List Value} (hk : 0 < k) (h : ∀ b tl, a = some ⟨b, 0, none⟩ → k ≤ c → c ≤ maxLen → xs.length = k * sz → (xs ++ tl).length = c * sz → G n ds fs E (.blk b (.cells (xs ++ tl).toArray e (0, 0)) :: L) X) : G n ds fs E (.sl e sz a k c xs :: L) X := by
  intro act w ha hw
  have h0 := hw.own _ (.head _)
  obtain ⟨h1, h2⟩ := h0
  rcases h2 with ⟨_, _, h3⟩ | ⟨g, cur, rfl, e2, e3, e4, e5, e6⟩
  · omega
  · have ec0 : xs ++ cur.toList.drop (k * sz) = cur.toList := by rw [← e6, List.take_append_drop]
    refine h g (cur.toList.drop (k * sz)) rfl e3 e4 h1 (by rw [ec0]; simpa using e5) act w ha ?_
    have ec : (xs ++ cur.toList.drop (k * sz)).toArray = cur := by rw [ec0]
    rw [ec]
    refine ⟨hw.env, fun r hr => ?_, ?_, fun b hb => ?_, hw.os, hw.out, hw.tape⟩
    · rcases List.mem_cons.1 hr with rfl | hr
      · exact e2
      · exact hw.own r (.tail _ hr)
    · have := hw.nodup; simpa [Res.sl, Res.blk] using this
    · refine hw.apart b ?_; simpa [Res.sl, Res.blk] using hb
theorem G.slClose {b k c sz : Nat} {e : TypeId} {ys tl : List Value} (hl : ys.length = k * sz) (ht : (ys ++ tl).length = c * sz) (hk : k ≤ c) (hc : c ≤ maxLen) (h : G n ds fs E (.sl e sz (some ⟨b, 0, none⟩) k c ys :: L) X) : G n ds fs E (.blk b (.cells (ys ++ tl).toArray e (0, 0)) :: L) X := fun a w ha hw => by
  refine h a w ha ⟨hw.env, fun r hr => ?_, hw.nodup, hw.apart, hw.os, hw.out, hw.tape⟩
  rcases List.mem_cons.1 hr with rfl | hr
  · have := hw.own _ (.head _)
    exact ⟨hl, .inr ⟨b, (ys ++ tl).toArray, rfl, this, hk, hc, by simpa using ht, by rw [← hl]; simp⟩⟩
  · exact hw.own r (.tail _ hr)
theorem G_ways {β : Type} {J : β → Prop} {fs' : β → List (Nat × Value)} {E' : β → Env} {L' : β → List Res} {Y : Act → World → Prop} (h1 : (∀ x, J x → G n ds (fs' x) (E' x) (L' x) Y) → G n ds fs E L X) (h2 : ∀ x, J x → G n ds (fs' x) (E' x) (L' x) Y) : G n ds fs E L X := h1 h2
end
end Go.Proofs.YtimiokmgnclggaaGreat
