import Derived.Test.YtaoinojdijbhaaaSep19
import Derived.Test.YtaoinojdijbhaaaSep20
import Derived.Test.YtaoinojdijbhaaaSep21
import Derived.Test.YtaoinojdijbhaaaSep22
import Derived.Test.YtaoinojdijbhaaaSep23
import Derived.Test.YtaoinojdijbhaaaSep24
import Derived.Test.YtaoinojdijbhaaaInst
import Derived.Test.YtaoinojdijbhaaaH5
set_option linter.unusedSimpArgs false
set_option linter.unusedVariables false
set_option maxHeartbeats 2000000
set_option maxRecDepth 20000
namespace Go.Proofs.Ytaoinojdijbhaaa
open Go.RowKit
def yes (l : List (List UInt8)) : List (List UInt8 × Value) := l.map fun s => (s, .bool true)
theorem yes_get (l : List (List UInt8)) (s : List UInt8) : mget (yes l) s = if s ∈ l then some (.bool true) else none := by
  induction l with
  | nil => rfl
  | cons a l ih =>
    simp only [yes, List.map_cons, mget, List.mem_cons] at ih ⊢
    by_cases h : s = a
    · simp [h]
    · rw [if_neg h, ih]; simp [h]
theorem yes_put (l : List (List UInt8)) (s : List UInt8) (h : s ∉ l) : mput (yes l) s (.bool true) = yes (l ++ [s]) := by
  induction l with
  | nil => rfl
  | cons a l ih =>
    simp only [List.mem_cons, not_or] at h
    have := ih h.2
    simp only [yes, List.map_cons, List.cons_append, mput, if_neg h.1] at this ⊢
    rw [this]
def dupB (l : List (List UInt8)) : Bool := !decide l.Nodup
theorem nodup_take {α : Type} {l : List α} {i : Nat} (hi : i < l.length) (h : (l.take i).Nodup) (hn : l[i] ∉ l.take i) : (l.take (i + 1)).Nodup := by
  rw [List.take_succ_eq_append_getElem hi, List.nodup_append]
  refine ⟨h, by simp, fun a ha b hb => ?_⟩
  rw [List.mem_singleton.1 hb]
  exact fun e => hn (e ▸ ha)
theorem dup_at {α : Type} {l : List α} {i : Nat} (hi : i < l.length) (hn : l[i] ∈ l.take i) : ¬ l.Nodup := by
  intro h
  have h2 : (l.take (i + 1)).Nodup := (List.take_sublist _ _).nodup h
  rw [List.take_succ_eq_append_getElem hi, List.nodup_append] at h2
  exact h2.2.2 _ hn _ (List.mem_singleton.2 rfl) rfl
section
variable (E : Env) (L : List Res)
theorem different_call (gv : Value) (g : Gr) (hg : GrE E gv g) (hl : Light g) : CallV Try.prog 100 #[gv] E L (.int .i64 (if dupB (g.toks ++ [g.sep] ++ g.names) = true then 8 else 0)) := by
  obtain ⟨tp, tc, np, nc, pp, pc, rfl, ht, hn, ⟨rows, hrows, hps, hre⟩, k1, k2, k3⟩ := hg
  have hlen : g.prods.length = rows.length := by rw [← hrows]; simp
  have q1 := hl.t; have q2 := hl.n; have q3 := hl.p
  refine CallS.toV (CallS.intro (l := [_]) _ Try.func100 rfl Try.ntmps100 rfl ?_)
  refine G_seq (G_region ?_)
  (refine G_boxA rfl rfl rfl rfl (.none rfl) ?_; intro b1)
  refine G_val (V_assign rfl rfl) rfl rfl (.none rfl) ?_
  refine G_end (X_then (G_seq (G_region ?_)))
  (refine G_makeMap kS rfl rfl rfl (.none rfl) ?_; intro b6)
  refine G_val (V_assign rfl rfl) rfl rfl (.none rfl) ?_
  refine G_end (X_then (G_seq (G_seq ?_)))
  refine G_drawX 18 [(0, 0), (1, 1), (2, 0), (3, 1), (4, 0), (5, 0), (6, 1), (7, 0), (8, 0), (9, 0), (10, 1), (13, 0), (14, 1), (11, 2), (12, 3), (15, 3), (16, 0), (17, 0)] mixed (by kernel_rfl) ?_
  refine F_pure rfl (fun _ _ => V_fieldAddr rfl rfl (by decide)) rfl rfl (.none rfl) ?_
  refine F_load rfl (.tail _ (.head _)) (V_load rfl rfl (Cell.own (.head _) rfl)) rfl rfl (.none rfl) ?_
  refine F_pure rfl (fun _ _ => V_fieldAddr rfl rfl (by decide)) rfl rfl (.none rfl) ?_
  refine F_load rfl (.tail _ (.head _)) (V_load rfl rfl (Cell.own (.head _) rfl)) rfl rfl (.none rfl) ?_
  refine F_pure rfl (fun _ _ => V_lenS rfl rfl) rfl rfl (.none rfl) ?_
  refine F_pure rfl (fun _ _ => V_fieldAddr rfl rfl (by decide)) rfl rfl (.none rfl) ?_
  refine F_load rfl (.tail _ (.head _)) (V_load rfl rfl (Cell.own (.head _) rfl)) rfl rfl (.none rfl) ?_
  refine F_pure rfl (fun _ _ => V_lenS rfl rfl) rfl rfl (.none rfl) ?_
  refine F_pure rfl (fun _ _ => V_sl3n rfl rfl rfl rfl (by omega) (by omega)) rfl rfl (.none rfl) ?_
  refine F_pure rfl (fun _ _ => V_fieldAddr rfl rfl (by decide)) rfl rfl (.none rfl) ?_
  refine F_load rfl (.tail _ (.head _)) (V_load rfl rfl (Cell.own (.head _) rfl)) rfl rfl (.none rfl) ?_
  refine F_pure rfl (fun _ _ => V_fieldAddr rfl rfl (by decide)) rfl rfl (.none rfl) ?_
  refine F_load rfl (.tail _ (.head _)) (V_load rfl rfl (Cell.own (.head _) rfl)) rfl rfl (.none rfl) ?_
  (refine F_litZ rfl rfl rfl (by decide) (by simp [fillS, zeros, setLs, setL, Value.cells, List.range, List.range.loop]; rfl) (by rfl) rfl rfl (.none rfl) ?_; intro b18 E18 hE18 hs18)
  replace ht := ht.mono hE18
  replace hn := hn.mono hE18
  replace hps := hps.mono hE18
  (refine F_appendO rfl rfl rfl rfl (by assumption) (by assumption) (by omega) (by omega) (by omega) rfl rfl (.none rfl) ?_; intro b19 c19)
  (refine F_append2 rfl rfl rfl rfl (by assumption) (by simp [Value.oneCell', strs, i64s]) (by omega) (by omega) rfl rfl (.none rfl) (fun _ _ => (.head _ _ _)) ?_; intro b22 c22 N22; dsimp only [List.cons_append])
  refine F_pure rfl (fun _ _ => V_lenS rfl rfl) rfl rfl (.none rfl) ?_
  refine F_pure rfl (fun _ _ => V_move rfl rfl) rfl rfl (.none rfl) ?_
  (refine F_end (.keep _ (.keep _ (.keep _ (.suf _ (.nil _))))) ?_; dsimp only [List.drop])
  refine G_end (X_then (G_block ?_))
  obtain ⟨l, hll⟩ : ∃ l, g.toks ++ [g.sep] ++ g.names = l := ⟨_, rfl⟩
  have hlen2 : l.length = g.toks.length + 1 + g.names.length := by rw [← hll]; simp; omega
  refine G.freezeSl (.head _ _) ?_
  intro E1 hE1 hs hc
  replace hs : SlE E1 1 (some ⟨b22, 0, none⟩) (g.toks.length + 1 + g.names.length) (strs l) := by rw [← hll]; simpa [strs] using hs
  rw [← hlen2] at hs ⊢
  rw [hll]
  refine G_loop (α := Nat) (fun i => [(3, .map (some b6)), (22, .slice (some ⟨b22, 0, none⟩) l.length c22), (23, .int .i64 l.length), (24, .int .i64 i)]) (fun _ => E1) (fun i => .blk b6 (mobj kS (yes (l.take i))) :: GB b1 g tp tc np nc pp pc :: L)
    (fun i => i ≤ l.length ∧ (l.take i).Nodup) (fun i => l.length - i) 0 ⟨Nat.zero_le _, by simp⟩ ⟨rfl, rfl, rfl, rfl, trivial⟩ rfl rfl ?_
  rintro i ⟨hi, hall⟩
  by_cases hlt : i < l.length
  · have hx := strs_get (List.getElem?_eq_getElem hlt)
    refine G_seq (G_region ?_)
    refine G_val (V_lss rfl rfl rfl) rfl rfl (.none rfl) ?_
    refine G_end (X_then (G_seq ?_))
    refine G_cond_t rfl (decide_eq_true (by omega)) ?_
    refine G_skip (X_then (G_seq (G_block (G_seq (G_region ?_)))))
    refine G_val (V_idxAddr rfl rfl rfl (SlE.rd (by assumption)) (by omega) (by omega)) rfl rfl (.none rfl) ?_
    refine G_val (V_loadS rfl rfl (SlE.rd (by assumption)) (by assumption) (by simp)) rfl rfl (.none rfl) ?_
    refine G_val (V_assign rfl rfl) rfl rfl (.none rfl) ?_
    refine G_end (X_then (G_seq (G_seq (G_region ?_))))
    refine G_val (V_move rfl rfl) rfl rfl (.none rfl) ?_
    refine G_val (V_move rfl rfl) rfl rfl (.none rfl) ?_
    refine G_val (V_lookup kS _ rfl rfl rfl (.head _)) rfl rfl (.none rfl) ?_
    refine G_end (X_then ?_)
    rw [yes_get]
    by_cases hb : l[i] ∈ l.take i
    · have hd : dupB l = true := by simp [dupB, dup_at hlt hb]
      rw [if_pos hb, Option.getD_some, hd]
      refine G_cond_t rfl rfl ?_
      refine G_seq (G_region ?_)
      refine G_val (V_assign rfl rfl) rfl rfl (.none rfl) ?_
      refine G_end (X_then (G_ret (X_then_ret (X_block_ret (X_then_ret (X_then_ret (X_block_ret (X_then_ret ?_))))))))
      refine G_leaveS (.drop _ (.drop _ (.nil _))) (by exact (.cons (.tmp rfl) (.nil))) rfl ?_ ?_
      · exact (hE18.trans hE1)
      exact ⟨(by kernel_rfl), rfl⟩
    · rw [if_neg hb, Option.getD_none]
      refine G_cond_f rfl rfl ?_
      refine G_skip (X_then (G_region ?_))
      refine G_val (V_move rfl rfl) rfl rfl (.none rfl) ?_
      refine G_val (V_move rfl rfl) rfl rfl (.none rfl) ?_
      refine G_mapUpdate kS _ (.inl rfl) rfl rfl rfl rfl (.none rfl) (.head _ _ _) ?_
      refine G_end (X_block (X_then (G_region ?_)))
      refine G_val (V_add_i64 rfl rfl rfl (by omega) (by omega)) rfl rfl (.none rfl) ?_
      refine G_val (V_move rfl rfl) rfl rfl (.none rfl) ?_
      refine G_end (X_then ?_)
      rw [yes_put _ _ hb, ← List.take_succ_eq_append_getElem hlt]
      exact G_again (i + 1) ⟨hlt, nodup_take hlt hall hb⟩ (by omega) ⟨rfl, rfl, rfl, rfl, trivial⟩ rfl rfl
  · rw [List.take_of_length_le (by omega)] at hall
    have hd : dupB l = false := by simp [dupB, hall]
    rw [hd]
    refine G_seq (G_region ?_)
    refine G_val (V_lss rfl rfl rfl) rfl rfl (.none rfl) ?_
    refine G_end (X_then (G_seq ?_))
    refine G_cond_f rfl (decide_eq_false (by omega)) ?_
    refine G_exit (X_then_exit (X_then_exit (X_block_hit (X_then (G_seq (G_region ?_))))))
    refine G_val (V_assign rfl rfl) rfl rfl (.none rfl) ?_
    refine G_end (X_then (G_ret ?_))
    refine G_leaveS (.drop _ (.drop _ (.nil _))) (by exact (.cons (.tmp rfl) (.nil))) rfl ?_ ?_
    · exact (hE18.trans hE1)
    exact ⟨(by kernel_rfl), rfl⟩
def termB (g : Gr) (s : Int) : Bool := decide (0 ≤ s) && decide (s < g.toks.length)
def ntB (g : Gr) (s : Int) : Bool := decide (16 ≤ s) && decide (s < 16 + g.names.length)
theorem terminal_call (gv : Value) (g : Gr) (hg : GrE E gv g) (hl : Light g) (s : Int) : CallV Try.prog 122 #[gv, .int .i64 s] E L (.bool (termB g s)) := by
  obtain ⟨tp, tc, np, nc, pp, pc, rfl, ht, hn, ⟨rows, hrows, hps, hre⟩, k1, k2, k3⟩ := hg
  have q1 := hl.t; have q2 := hl.n; have q3 := hl.p
  refine CallS.toV (CallS.intro (l := [_, _]) _ Try.func122 rfl Try.ntmps122 rfl ?_)
  refine G_seq (G_region ?_)
  (refine G_boxA rfl rfl rfl rfl (.none rfl) ?_; intro b2)
  refine G_val (V_assign rfl rfl) rfl rfl (.none rfl) ?_
  refine G_end (X_then (G_seq (G_region ?_)))
  refine G_val (V_move rfl rfl) rfl rfl (.none rfl) ?_
  refine G_val (V_geq rfl rfl rfl) rfl rfl (.none rfl) ?_
  refine G_val (V_move rfl rfl) rfl rfl (.none rfl) ?_
  apply G_joinAnd 6 7 13 rfl
  · intro H1
    dsimp only [List.take]
    simp only [Bool.and_eq_true, Bool.or_eq_true, Bool.not_eq_true', Bool.not_eq_false', Bool.and_eq_false_iff, Bool.or_eq_false_iff, Bool.not_not, decide_eq_true_eq, decide_eq_false_iff_not, ne_eq, Decidable.not_not, Bool.decide_eq_true] at H1
    refine G_val (V_move rfl rfl) rfl rfl (.yes rfl rfl rfl rfl) ?_
    refine G_val (V_fieldAddr rfl rfl (by decide)) rfl rfl (.yes rfl rfl rfl rfl) ?_
    refine G_val (V_load rfl rfl (Cell.own (.head _) rfl)) rfl rfl (.yes rfl rfl rfl rfl) ?_
    refine G_val (V_lenS rfl rfl) rfl rfl (.yes rfl rfl rfl rfl) ?_
    refine G_val (V_lss rfl rfl rfl) rfl rfl (.yes rfl rfl rfl rfl) ?_
    refine G_val (V_pick_t rfl rfl rfl) rfl rfl (.none rfl) ?_
    refine G_end ?_
    exact JQ_end 6 rfl rfl (by kernel_rfl)
  · intro H2
    dsimp only [List.take]
    simp only [Bool.and_eq_true, Bool.or_eq_true, Bool.not_eq_true', Bool.not_eq_false', Bool.and_eq_false_iff, Bool.or_eq_false_iff, Bool.not_not, decide_eq_true_eq, decide_eq_false_iff_not, ne_eq, Decidable.not_not, Bool.decide_eq_true] at H2
    refine G_stay (.no rfl rfl rfl rfl) rfl rfl ?_
    refine G_stay (.no rfl rfl rfl rfl) rfl rfl ?_
    refine G_stay (.no rfl rfl rfl rfl) rfl rfl ?_
    refine G_stay (.no rfl rfl rfl rfl) rfl rfl ?_
    refine G_stay (.no rfl rfl rfl rfl) rfl rfl ?_
    refine G_val (V_pick_f rfl rfl rfl) rfl rfl (.none rfl) ?_
    refine G_end ?_
    exact JQ_end 6 rfl rfl (by kernel_rfl)
  dsimp only [List.drop]
  refine G_val (V_assign rfl rfl) rfl rfl (.none rfl) ?_
  refine G_end (X_then (G_ret ?_))
  refine G_leaveS (.drop _ (.nil _)) (by exact (.cons (.tmp rfl) (.nil))) rfl ?_ ?_
  · exact (.refl _)
  exact ⟨rfl, rfl⟩
theorem nonterminal_call (gv : Value) (g : Gr) (hg : GrE E gv g) (hl : Light g) (s : Int) : CallV Try.prog 119 #[gv, .int .i64 s] E L (.bool (ntB g s)) := by
  obtain ⟨tp, tc, np, nc, pp, pc, rfl, ht, hn, ⟨rows, hrows, hps, hre⟩, k1, k2, k3⟩ := hg
  have q1 := hl.t; have q2 := hl.n; have q3 := hl.p
  refine CallS.toV (CallS.intro (l := [_, _]) _ Try.func119 rfl Try.ntmps119 rfl ?_)
  refine G_seq (G_region ?_)
  (refine G_boxA rfl rfl rfl rfl (.none rfl) ?_; intro b2)
  refine G_val (V_assign rfl rfl) rfl rfl (.none rfl) ?_
  refine G_end (X_then (G_seq (G_region ?_)))
  refine G_val (V_move rfl rfl) rfl rfl (.none rfl) ?_
  refine G_val (V_geq rfl rfl rfl) rfl rfl (.none rfl) ?_
  refine G_val (V_move rfl rfl) rfl rfl (.none rfl) ?_
  apply G_joinAnd 7 7 14 rfl
  · intro H1
    dsimp only [List.take]
    simp only [Bool.and_eq_true, Bool.or_eq_true, Bool.not_eq_true', Bool.not_eq_false', Bool.and_eq_false_iff, Bool.or_eq_false_iff, Bool.not_not, decide_eq_true_eq, decide_eq_false_iff_not, ne_eq, Decidable.not_not, Bool.decide_eq_true] at H1
    refine G_val (V_move rfl rfl) rfl rfl (.yes rfl rfl rfl rfl) ?_
    refine G_val (V_fieldAddr rfl rfl (by decide)) rfl rfl (.yes rfl rfl rfl rfl) ?_
    refine G_val (V_load rfl rfl (Cell.own (.head _) rfl)) rfl rfl (.yes rfl rfl rfl rfl) ?_
    refine G_val (V_lenS rfl rfl) rfl rfl (.yes rfl rfl rfl rfl) ?_
    refine G_val (V_add_i64 rfl rfl rfl (by omega) (by omega)) rfl rfl (.yes rfl rfl rfl rfl) ?_
    refine G_val (V_lss rfl rfl rfl) rfl rfl (.yes rfl rfl rfl rfl) ?_
    refine G_val (V_pick_t rfl rfl rfl) rfl rfl (.none rfl) ?_
    refine G_end ?_
    exact JQ_end 7 rfl rfl (by kernel_rfl)
  · intro H2
    dsimp only [List.take]
    simp only [Bool.and_eq_true, Bool.or_eq_true, Bool.not_eq_true', Bool.not_eq_false', Bool.and_eq_false_iff, Bool.or_eq_false_iff, Bool.not_not, decide_eq_true_eq, decide_eq_false_iff_not, ne_eq, Decidable.not_not, Bool.decide_eq_true] at H2
    refine G_stay (.no rfl rfl rfl rfl) rfl rfl ?_
    refine G_stay (.no rfl rfl rfl rfl) rfl rfl ?_
    refine G_stay (.no rfl rfl rfl rfl) rfl rfl ?_
    refine G_stay (.no rfl rfl rfl rfl) rfl rfl ?_
    refine G_stay (.no rfl rfl rfl rfl) rfl rfl ?_
    refine G_stay (.no rfl rfl rfl rfl) rfl rfl ?_
    refine G_val (V_pick_f rfl rfl rfl) rfl rfl (.none rfl) ?_
    refine G_end ?_
    exact JQ_end 7 rfl rfl (by kernel_rfl)
  dsimp only [List.drop]
  refine G_val (V_assign rfl rfl) rfl rfl (.none rfl) ?_
  refine G_end (X_then (G_ret ?_))
  refine G_leaveS (.drop _ (.nil _)) (by exact (.cons (.tmp rfl) (.nil))) rfl ?_ ?_
  · exact (.refl _)
  exact ⟨rfl, rfl⟩
theorem symbols1_call (b : Nat) (g : Gr) (tp : Option Addr) (tc : Nat) (np : Option Addr) (nc : Nat) (pp : Option Addr) (pc : Nat) (hm : GB b g tp tc np nc pp pc ∈ L)
    (hg : GrE E (.agg #[.int .i64 g.k, .slice tp g.toks.length tc, .string (S g.sep), .slice np g.names.length nc, .int .i64 g.start, .slice pp g.prods.length pc]) g) (hl : Light g) (s : Int) :
    CallV Try.prog 121 #[.int .i64 s, .pointer (some ⟨b, 0, none⟩)] E L (.bool (!termB g s && !ntB g s)) := by
  refine CallS.toV (CallS.intro (l := [_, _]) _ Try.func121 rfl Try.ntmps121 rfl ?_)
  refine G_seq (G_region ?_)
  refine G_val (V_assign rfl rfl) rfl rfl (.none rfl) ?_
  refine G_end (X_then (G_seq (G_region ?_)))
  refine G_val (V_loadF rfl rfl (by assumption) (by simp only [Nat.zero_add, List.drop_succ_cons, List.drop_zero, List.take_succ_cons, List.take_zero]; rfl) (by rfl)) rfl rfl (.none rfl) ?_
  refine G_val (V_move rfl rfl) rfl rfl (.none rfl) ?_
  refine G_callv (k := 122) (.mk rfl rfl rfl rfl) rfl rfl (.none rfl) (terminal_call _ _ _ _ (by assumption) (by assumption) _) ?_
  refine G_val (V_not rfl rfl) rfl rfl (.none rfl) ?_
  refine G_val (V_move rfl rfl) rfl rfl (.none rfl) ?_
  apply G_joinAnd 5 8 13 rfl
  · intro H1
    dsimp only [List.take]
    simp only [Bool.and_eq_true, Bool.or_eq_true, Bool.not_eq_true', Bool.not_eq_false', Bool.and_eq_false_iff, Bool.or_eq_false_iff, Bool.not_not, decide_eq_true_eq, decide_eq_false_iff_not, ne_eq, Decidable.not_not, Bool.decide_eq_true] at H1
    refine G_val (V_loadF rfl rfl (by assumption) (by simp only [Nat.zero_add, List.drop_succ_cons, List.drop_zero, List.take_succ_cons, List.take_zero]; rfl) (by rfl)) rfl rfl (.yes rfl rfl rfl rfl) ?_
    refine G_val (V_move rfl rfl) rfl rfl (.yes rfl rfl rfl rfl) ?_
    refine G_callv (k := 119) (.mk rfl rfl rfl rfl) rfl rfl (.yes rfl rfl rfl rfl) (nonterminal_call _ _ _ _ (by assumption) (by assumption) _) ?_
    refine G_val (V_not rfl rfl) rfl rfl (.yes rfl rfl rfl rfl) ?_
    refine G_val (V_pick_t rfl rfl rfl) rfl rfl (.none rfl) ?_
    refine G_end ?_
    exact JQ_end 5 rfl rfl (by kernel_rfl)
  · intro H2
    dsimp only [List.take]
    simp only [Bool.and_eq_true, Bool.or_eq_true, Bool.not_eq_true', Bool.not_eq_false', Bool.and_eq_false_iff, Bool.or_eq_false_iff, Bool.not_not, decide_eq_true_eq, decide_eq_false_iff_not, ne_eq, Decidable.not_not, Bool.decide_eq_true] at H2
    refine G_stay (.no rfl rfl rfl rfl) rfl rfl ?_
    refine G_stay (.no rfl rfl rfl rfl) rfl rfl ?_
    refine G_stay (.no rfl rfl rfl rfl) rfl rfl ?_
    refine G_stay (.no rfl rfl rfl rfl) rfl rfl ?_
    refine G_val (V_pick_f rfl rfl rfl) rfl rfl (.none rfl) ?_
    refine G_end ?_
    exact JQ_end 5 rfl rfl (by kernel_rfl)
  dsimp only [List.drop]
  refine G_val (V_assign rfl rfl) rfl rfl (.none rfl) ?_
  refine G_end (X_then (G_ret ?_))
  refine G_leaveS (.nil _) (by exact (.cons (.tmp rfl) (.nil))) rfl ?_ ?_
  · exact (.refl _)
  exact ⟨rfl, rfl⟩
theorem IndexFuncI_call (p : Option Addr) (n c : Nat) (l : List Int) (hx : SlE E 1 p n (i64s l)) (hn : n ≤ 1000000) (b : Nat) (g : Gr) (tp : Option Addr) (tc : Nat) (np : Option Addr) (nc : Nat) (pp : Option Addr) (pc : Nat) (hm : GB b g tp tc np nc pp pc ∈ L)
    (hg : GrE E (.agg #[.int .i64 g.k, .slice tp g.toks.length tc, .string (S g.sep), .slice np g.names.length nc, .int .i64 g.start, .slice pp g.prods.length pc]) g) (hl : Light g) :
    CallS Try.prog 133 #[.slice p n c, .func (.func 121) #[] #[.pointer (some ⟨b, 0, none⟩)]] E L (fun r E' L' => ∃ i : Int, r = .int .i64 i ∧ (0 ≤ i ↔ l.any (fun s => !termB g s && !ntB g s) = true) ∧ L' = L) := by
  have e1 := hx.nI
  subst e1
  refine CallS.intro (l := [_, _]) _ Try.func133 rfl Try.ntmps133 rfl ?_
  refine G_seq (G_region ?_)
  refine G_val (V_assign rfl rfl) rfl rfl (.none rfl) ?_
  refine G_end (X_then (G_seq (G_seq (G_region ?_))))
  refine G_val (V_move rfl rfl) rfl rfl (.none rfl) ?_
  refine G_val (V_lenS rfl rfl) rfl rfl (.none rfl) ?_
  refine G_val (V_move rfl rfl) rfl rfl (.none rfl) ?_
  refine G_end (X_then (G_block ?_))
  refine G_loop (α := Nat) (fun i => [(0, .slice p l.length c), (1, .func (.func 121) #[] #[.pointer (some ⟨b, 0, none⟩)]), (7, .int .i64 l.length), (8, .int .i64 i)]) (fun _ => E) (fun i => L)
    (fun i => i ≤ l.length ∧ ∀ k, k < i → (hk : k < l.length) → (!termB g l[k] && !ntB g l[k]) = false) (fun i => l.length - i) 0 ⟨Nat.zero_le _, fun k hk => by cases hk⟩ ⟨rfl, rfl, rfl, rfl, trivial⟩ rfl rfl ?_
  rintro i ⟨hi, hall⟩
  by_cases hlt : i < l.length
  · have hy := i64s_get (List.getElem?_eq_getElem hlt)
    cases hb : (!termB g l[i] && !ntB g l[i]) with
    | true =>
      have hfin : (0 : Int) ≤ (i : Int) ↔ l.any (fun s => !termB g s && !ntB g s) = true := ⟨fun _ => any_of hlt hb, fun _ => by omega⟩
      refine G_seq (G_region ?_)
      refine G_val (V_lss rfl rfl rfl) rfl rfl (.none rfl) ?_
      refine G_end (X_then (G_seq ?_))
      refine G_cond_t rfl (decide_eq_true (by omega)) ?_
      refine G_skip (X_then (G_seq (G_block (G_seq (G_region ?_)))))
      refine G_val (V_move rfl rfl) rfl rfl (.none rfl) ?_
      refine G_val (V_assign rfl rfl) rfl rfl (.none rfl) ?_
      refine G_end (X_then (G_seq (G_region ?_)))
      refine G_val (V_move rfl rfl) rfl rfl (.none rfl) ?_
      refine G_val (V_move rfl rfl) rfl rfl (.none rfl) ?_
      refine G_val (V_move rfl rfl) rfl rfl (.none rfl) ?_
      refine G_val (V_idxAddr rfl rfl rfl (SlE.rd (by assumption)) (by omega) (by omega)) rfl rfl (.none rfl) ?_
      refine G_val (V_loadS rfl rfl (SlE.rd (by assumption)) (by assumption) (by simp)) rfl rfl (.none rfl) ?_
      refine G_callv (k := 121) (.mk rfl rfl rfl rfl) rfl rfl (.none rfl) (symbols1_call _ _ _ _ _ _ _ _ _ _ (by assumption) (by assumption) (by assumption) _) ?_
      refine G_end (X_then ?_)
      refine G_cond_t rfl (by assumption) ?_
      refine G_seq (G_region ?_)
      refine G_val (V_move rfl rfl) rfl rfl (.none rfl) ?_
      refine G_val (V_assign rfl rfl) rfl rfl (.none rfl) ?_
      refine G_end (X_then (G_ret (X_block_ret (X_then_ret (X_then_ret (X_block_ret (X_then_ret ?_)))))))
      refine G_leaveS (.nil _) (by exact (.cons (.tmp rfl) (.nil))) rfl ?_ ?_
      · exact (.refl _)
      exact ⟨_, ⟨rfl, ⟨(by assumption), rfl⟩⟩⟩
    | false =>
      refine G_seq (G_region ?_)
      refine G_val (V_lss rfl rfl rfl) rfl rfl (.none rfl) ?_
      refine G_end (X_then (G_seq ?_))
      refine G_cond_t rfl (decide_eq_true (by omega)) ?_
      refine G_skip (X_then (G_seq (G_block (G_seq (G_region ?_)))))
      refine G_val (V_move rfl rfl) rfl rfl (.none rfl) ?_
      refine G_val (V_assign rfl rfl) rfl rfl (.none rfl) ?_
      refine G_end (X_then (G_seq (G_region ?_)))
      refine G_val (V_move rfl rfl) rfl rfl (.none rfl) ?_
      refine G_val (V_move rfl rfl) rfl rfl (.none rfl) ?_
      refine G_val (V_move rfl rfl) rfl rfl (.none rfl) ?_
      refine G_val (V_idxAddr rfl rfl rfl (SlE.rd (by assumption)) (by omega) (by omega)) rfl rfl (.none rfl) ?_
      refine G_val (V_loadS rfl rfl (SlE.rd (by assumption)) (by assumption) (by simp)) rfl rfl (.none rfl) ?_
      refine G_callv (k := 121) (.mk rfl rfl rfl rfl) rfl rfl (.none rfl) (symbols1_call _ _ _ _ _ _ _ _ _ _ (by assumption) (by assumption) (by assumption) _) ?_
      refine G_end (X_then ?_)
      refine G_cond_f rfl (by assumption) ?_
      refine G_skip (X_block (X_then (G_region ?_)))
      refine G_val (V_add_i64 rfl rfl rfl (by omega) (by omega)) rfl rfl (.none rfl) ?_
      refine G_val (V_move rfl rfl) rfl rfl (.none rfl) ?_
      refine G_end (X_then ?_)
      refine G_again (i + 1) ⟨hlt, ?_⟩ (by omega) ⟨rfl, rfl, rfl, rfl, trivial⟩ rfl rfl
      intro k hk hk2
      by_cases he : k = i
      · subst he; exact hb
      · exact hall k (by omega) hk2
  · have hfin : (0 : Int) ≤ -1 ↔ l.any (fun s => !termB g s && !ntB g s) = true := ⟨fun h => by omega, fun h => by rw [any_none fun k hk => hall k (by omega) hk] at h; cases h⟩
    refine G_seq (G_region ?_)
    refine G_val (V_lss rfl rfl rfl) rfl rfl (.none rfl) ?_
    refine G_end (X_then (G_seq ?_))
    refine G_cond_f rfl (decide_eq_false (by omega)) ?_
    refine G_exit (X_then_exit (X_then_exit (X_block_hit (X_then (G_seq (G_region ?_))))))
    refine G_val (V_assign rfl rfl) rfl rfl (.none rfl) ?_
    refine G_end (X_then (G_ret ?_))
    refine G_leaveS (.nil _) (by exact (.cons (.tmp rfl) (.nil))) rfl ?_ ?_
    · exact (.refl _)
    exact ⟨_, ⟨rfl, ⟨(by assumption), rfl⟩⟩⟩
theorem ContainsFuncI_call (p : Option Addr) (n c : Nat) (l : List Int) (hx : SlE E 1 p n (i64s l)) (hn : n ≤ 1000000) (b : Nat) (g : Gr) (tp : Option Addr) (tc : Nat) (np : Option Addr) (nc : Nat) (pp : Option Addr) (pc : Nat) (hm : GB b g tp tc np nc pp pc ∈ L)
    (hg : GrE E (.agg #[.int .i64 g.k, .slice tp g.toks.length tc, .string (S g.sep), .slice np g.names.length nc, .int .i64 g.start, .slice pp g.prods.length pc]) g) (hl : Light g) :
    CallV Try.prog 120 #[.slice p n c, .func (.func 121) #[] #[.pointer (some ⟨b, 0, none⟩)]] E L (.bool (l.any (fun s => !termB g s && !ntB g s))) := by
  refine CallS.toV (CallS.intro (l := [_, _]) _ Try.func120 rfl Try.ntmps120 rfl ?_)
  refine G_seq (G_region ?_)
  refine G_val (V_assign rfl rfl) rfl rfl (.none rfl) ?_
  refine G_end (X_then (G_seq (G_region ?_)))
  refine G_val (V_move rfl rfl) rfl rfl (.none rfl) ?_
  refine G_val (V_move rfl rfl) rfl rfl (.none rfl) ?_
  refine G_call (k := 133) (.mk rfl rfl rfl rfl) rfl rfl (.none rfl) (IndexFuncI_call _ _ _ _ _ _ (by assumption) (by assumption) _ _ _ _ _ _ _ _ (by assumption) (by assumption) (by assumption)) ?_
  rintro r1 E2 L3 hE4 ⟨z5, ⟨rfl, ⟨Z6, rfl⟩⟩⟩
  replace hx := hx.mono hE4
  replace hg := hg.mono hE4
  refine G_val (V_geq rfl rfl rfl) rfl rfl (.none rfl) ?_
  refine G_val (V_assign rfl rfl) rfl rfl (.none rfl) ?_
  refine G_end (X_then (G_ret ?_))
  refine G_leaveS (.nil _) (by exact (.cons (.tmp rfl) (.nil))) rfl ?_ ?_
  · exact hE4
  rw [show decide (0 ≤ z5) = _ from Bool.eq_iff_iff.2 (decide_eq_true_iff.trans Z6)]
  exact ⟨rfl, rfl⟩
end
end Go.Proofs.Ytaoinojdijbhaaa
