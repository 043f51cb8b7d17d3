/-
  Rules and contracts, packed: H8, B17, R2, R3, R4, R5, R6, S1, S3, S4, S5, S6.
-/
import Derived.Test.YtimiokmgnclggaaGreatQ8
set_option maxHeartbeats 1000000
set_option linter.unusedSimpArgs false
set_option linter.unusedVariables false
set_option maxHeartbeats 2000000
set_option maxRecDepth 20000
namespace Go.Proofs.YtimiokmgnclggaaGreat
open Go.RowKit
section
variable (E : Env) (L : List Res)
theorem complete1_call (b : Nat) (i : Nat) (hm : .blk b (.cells #[.int .i64 (i : Int)] 3 (0, 0)) ∈ L) (hi : i ≤ 1000) (s : Int) (v : Value) :
    CallV Tryz.prog 98 #[.agg #[.int .i64 s, v], .pointer (some ⟨b, 0, none⟩)] E L (.bool (decide (s = 16 + (i : Int)))) := by
  refine CallS.toV (CallS.intro (l := [_, _]) _ Tryz.func98 rfl Tryz.ntmps98 rfl ?_)
  refine G_seq (G_region ?_)
  (refine G_boxA rfl rfl rfl rfl (.none rfl) ?_; intro b2)
  refine Ga ?_
  refine G_end (X_then (G_seq (G_region ?_)))
  refine Gv (V_fieldAddr rfl rfl (by decide)) ?_
  refine Gv (V_load rfl rfl (Cell.own (.head _) rfl)) ?_
  refine Gv (V_load rfl rfl (Cell.own (.tail _ (by assumption)) rfl)) ?_
  refine Gv (V_add_i64 rfl rfl rfl (by omega) (by omega)) ?_
  refine Gv (V_eql rfl rfl rfl) ?_
  refine Ga ?_
  refine G_end (X_then (G_ret ?_))
  refine G_leaveS (.drop _ (.nil _)) (by exact (.cons (.tmp rfl) (.nil))) rfl ?_ ?_
  · exact (.refl _)
  exact ⟨rfl, rfl⟩
theorem IndexFuncP_call (p : Option Addr) (n c : Nat) (rows : List Row) (hx : SlE E 2 p n (prows rows)) (hn : n ≤ 1000000) (b : Nat) (j : Nat) (hm : .blk b (.cells #[.int .i64 (j : Int)] 3 (0, 0)) ∈ L) (hj : j ≤ 1000) :
    CallS Tryz.prog 114 #[.slice p n c, .func (.func 98) #[] #[.pointer (some ⟨b, 0, none⟩)]] E L (fun r E' L' => ∃ i : Int, r = .int .i64 i ∧ (0 ≤ i ↔ rows.any (fun x => decide (x.2.2.1 = 16 + (j : Int))) = true) ∧ L' = L) := by
  have e1 := hx.nR
  subst e1
  refine CallS.intro (l := [_, _]) _ Tryz.func114 rfl Tryz.ntmps114 rfl ?_
  refine G_seq (G_region ?_)
  refine Ga ?_
  refine G_end (X_then (G_seq (G_seq (G_region ?_))))
  refine Gm ?_
  refine Gv (V_lenS rfl rfl) ?_
  refine Gm ?_
  refine G_end (X_then (G_block ?_))
  refine G_loop (α := Nat) (fun i => [(0, .slice p rows.length c), (1, .func (.func 98) #[] #[.pointer (some ⟨b, 0, none⟩)]), (7, .int .i64 rows.length), (8, .int .i64 i)]) (fun _ => E) (fun i => L)
    (fun i => i ≤ rows.length ∧ ∀ k, k < i → (hk : k < rows.length) → decide (rows[k].2.2.1 = 16 + (j : Int)) = false) (fun i => rows.length - i) 0 ⟨Nat.zero_le _, fun k hk => by cases hk⟩ ⟨rfl, rfl, rfl, rfl, trivial⟩ rfl rfl ?_
  rintro i ⟨hi, hall⟩
  by_cases hlt : i < rows.length
  · have hy := prows_get (List.getElem?_eq_getElem hlt)
    by_cases hb : rows[i].2.2.1 = 16 + (j : Int)
    · have hfin : (0 : Int) ≤ (i : Int) ↔ rows.any (fun x => decide (x.2.2.1 = 16 + (j : Int))) = true := ⟨fun _ => any_of hlt (decide_eq_true hb), fun _ => by omega⟩
      refine G_seq (G_region ?_)
      refine Gv (V_lss rfl rfl rfl) ?_
      refine G_end (X_then (G_seq ?_))
      refine G_cond_t rfl (decide_eq_true (by omega)) ?_
      refine G_skip (X_then (G_seq (G_block (G_seq (G_region ?_)))))
      refine Gm ?_
      refine Ga ?_
      refine G_end (X_then (G_seq (G_region ?_)))
      refine Gm ?_
      refine Gm ?_
      refine Gm ?_
      refine Gv (V_idxAddr rfl rfl rfl (SlE.rd (by assumption)) (by omega) (by omega)) ?_
      refine Gv (V_loadAS rfl rfl (SlE.rd (by assumption)) (by assumption) (by simp) (by rfl)) ?_
      refine G_callv (k := 98) (.mk rfl rfl rfl rfl) rfl rfl (.none rfl) (complete1_call _ _ _ _ (by assumption) (by assumption) _ _) ?_
      refine G_end (X_then ?_)
      refine G_cond_t rfl (decide_eq_true (by omega)) ?_
      refine G_seq (G_region ?_)
      refine Gm ?_
      refine Ga ?_
      refine G_end (X_then (G_ret (X_block_ret (X_then_ret (X_then_ret (X_block_ret (X_then_ret ?_)))))))
      refine G_leaveS (.nil _) (by exact (.cons (.tmp rfl) (.nil))) rfl ?_ ?_
      · exact (.refl _)
      exact ⟨_, ⟨rfl, ⟨(by assumption), rfl⟩⟩⟩
    · refine G_seq ?_
      refine G_region ?_
      refine Gv (V_lss rfl rfl rfl) ?_
      refine G_end (X_then (G_seq ?_))
      refine G_cond_t rfl (decide_eq_true (by omega)) ?_
      refine G_skip (X_then (G_seq (G_block (G_seq (G_region ?_)))))
      refine Gm ?_
      refine Ga ?_
      refine G_end (X_then (G_seq (G_region ?_)))
      refine Gm ?_
      refine Gm ?_
      refine Gm ?_
      refine Gv (V_idxAddr rfl rfl rfl (SlE.rd (by assumption)) (by omega) (by omega)) ?_
      refine Gv (V_loadAS rfl rfl (SlE.rd (by assumption)) (by assumption) (by simp) (by rfl)) ?_
      refine G_callv (k := 98) (.mk rfl rfl rfl rfl) rfl rfl (.none rfl) (complete1_call _ _ _ _ (by assumption) (by assumption) _ _) ?_
      refine G_end (X_then ?_)
      refine G_cond_f rfl (decide_eq_false (by omega)) ?_
      refine G_skip (X_block (X_then (G_region ?_)))
      refine Gv (V_add_i64 rfl rfl rfl (by omega) (by omega)) ?_
      refine Gm ?_
      refine G_end (X_then ?_)
      refine G_again (i + 1) ⟨hlt, ?_⟩ (by omega) ⟨rfl, rfl, rfl, rfl, trivial⟩ rfl rfl
      intro k hk hk2
      by_cases he : k = i
      · subst he; exact decide_eq_false hb
      · exact hall k (by omega) hk2
  · have hfin : (0 : Int) ≤ -1 ↔ rows.any (fun x => decide (x.2.2.1 = 16 + (j : Int))) = true := ⟨fun h => by omega, fun h => by rw [any_none fun k hk => hall k (by omega) hk] at h; cases h⟩
    refine G_seq (G_region ?_)
    refine Gv (V_lss rfl rfl rfl) ?_
    refine G_end (X_then (G_seq ?_))
    refine G_cond_f rfl (decide_eq_false (by omega)) ?_
    refine G_exit (X_then_exit (X_then_exit (X_block_hit (X_then (G_seq (G_region ?_))))))
    refine Ga ?_
    refine G_end (X_then (G_ret ?_))
    refine G_leaveS (.nil _) (by exact (.cons (.tmp rfl) (.nil))) rfl ?_ ?_
    · exact (.refl _)
    exact ⟨_, ⟨rfl, ⟨(by assumption), rfl⟩⟩⟩
theorem ContainsFuncP_call (p : Option Addr) (n c : Nat) (rows : List Row) (hx : SlE E 2 p n (prows rows)) (hn : n ≤ 1000000) (b : Nat) (j : Nat) (hm : .blk b (.cells #[.int .i64 (j : Int)] 3 (0, 0)) ∈ L) (hj : j ≤ 1000) :
    CallV Tryz.prog 97 #[.slice p n c, .func (.func 98) #[] #[.pointer (some ⟨b, 0, none⟩)]] E L (.bool (rows.any (fun x => decide (x.2.2.1 = 16 + (j : Int))))) := by
  refine CallS.toV (CallS.intro (l := [_, _]) _ Tryz.func97 rfl Tryz.ntmps97 rfl ?_)
  refine G_seq (G_region ?_)
  refine Ga ?_
  refine G_end (X_then (G_seq (G_region ?_)))
  refine Gm ?_
  refine Gm ?_
  refine G_call (k := 114) (.mk rfl rfl rfl rfl) rfl rfl (.none rfl) (IndexFuncP_call _ _ _ _ _ _ (by assumption) (by assumption) _ _ (by assumption) (by assumption)) ?_
  rintro r1 E2 L3 hE4 ⟨z5, ⟨rfl, ⟨Z6, rfl⟩⟩⟩
  replace hx := hx.mono hE4
  refine Gv (V_geq rfl rfl rfl) ?_
  refine Ga ?_
  refine G_end (X_then (G_ret ?_))
  refine G_leaveS (.nil _) (by exact (.cons (.tmp rfl) (.nil))) rfl ?_ ?_
  · exact hE4
  rw [show decide (0 ≤ z5) = _ from Bool.eq_iff_iff.2 (decide_eq_true_iff.trans Z6)]
  exact ⟨rfl, rfl⟩
theorem complete_call (gv : Value) (g : Gr) (hg : GrE E gv g) (hl : Light g) : CallV Tryz.prog 60 #[gv] E L (.int .i64 (if compB g = true then 0 else 7)) := by
  have hg0 := hg
  obtain ⟨tp, tc, np, nc, pp, pc, rfl, ht, hn, ⟨rows, hrows, hps, hre⟩, k1, k2, k3⟩ := hg
  have hlen : g.prods.length = rows.length := by rw [← hrows]; simp
  have q1 := hl.t; have q2 := hl.n; have q3 := hl.p
  have e : compB g = (List.range g.names.length).all fun i => rows.any fun x => decide (x.2.2.1 = 16 + (i : Int)) := by
    rw [compB, ← hrows]; simp only [List.any_map]; rfl
  rw [e]
  refine CallS.toV (CallS.intro (l := [_]) _ Tryz.func60 rfl Tryz.ntmps60 rfl ?_)
  refine G_seq (G_region ?_)
  (refine G_boxA rfl rfl rfl rfl (.none rfl) ?_; intro b1)
  refine Ga ?_
  refine G_end (X_then (G_seq (G_seq (G_region ?_))))
  refine Gv (V_fieldAddr rfl rfl (by decide)) ?_
  refine Gv (V_load rfl rfl (Cell.own (.head _) rfl)) ?_
  refine Gv (V_lenS rfl rfl) ?_
  refine Gm ?_
  refine G_end (X_then (G_block ?_))
  refine G_loop (α := Nat) (fun i => [(1, .pointer (some ⟨b1, 0, none⟩)), (6, .int .i64 g.names.length), (7, .int .i64 i)]) (fun _ => E) (fun i => GB b1 g tp tc np nc pp pc :: L)
    (fun i => i ≤ g.names.length ∧ ∀ k, k < i → (rows.any fun x => decide (x.2.2.1 = 16 + (k : Int))) = true) (fun i => g.names.length - i) 0 ⟨Nat.zero_le _, fun k hk => by cases hk⟩ ⟨rfl, rfl, rfl, trivial⟩ rfl rfl ?_
  rintro i ⟨hi, hall⟩
  by_cases hlt : i < g.names.length
  · cases hb : (rows.any fun x => decide (x.2.2.1 = 16 + (i : Int))) with
    | true =>
      refine G_seq (G_region ?_)
      refine Gv (V_lss rfl rfl rfl) ?_
      refine G_end (X_then (G_seq ?_))
      refine G_cond_t rfl (decide_eq_true (by omega)) ?_
      refine G_skip (X_then (G_seq (G_block (G_seq (G_region ?_)))))
      refine Gm ?_
      (refine G_alloc rfl rfl rfl (.none rfl) ?_; intro b3)
      refine G_store1 rfl rfl rfl rfl rfl rfl (.none rfl) (.head _ _ _) ?_
      refine G_end (X_then (G_seq (G_region ?_)))
      refine Gv (V_fieldAddr rfl rfl (by decide)) ?_
      refine Gv (V_load rfl rfl (Cell.own (.tail _ (.head _)) rfl)) ?_
      refine Gv (V_makeFunc rfl rfl rfl) ?_
      refine G_callv (k := 97) (.mk rfl rfl rfl rfl) rfl rfl (.none rfl) (ContainsFuncP_call _ _ _ _ _ _ (by assumption) (by omega) _ _ (by exact .head _) (by omega)) ?_
      refine Gv (V_not rfl rfl) ?_
      refine G_end (X_then ?_)
      refine G_cond_f rfl (by simp [*]; done) ?_
      refine G_skip (X_block (X_then (G_region ?_)))
      refine Gv (V_add_i64 rfl rfl rfl (by omega) (by omega)) ?_
      refine Gm ?_
      refine G_end (X_then ?_)
      refine G.drop ?_
      refine G_again (i + 1) ⟨hlt, ?_⟩ (by omega) ⟨rfl, rfl, rfl, trivial⟩ rfl rfl
      intro k hk
      by_cases he : k = i
      · subst he; exact hb
      · exact hall k (by omega)
    | false =>
      rw [range_not hlt hb]
      refine G_seq (G_region ?_)
      refine Gv (V_lss rfl rfl rfl) ?_
      refine G_end (X_then (G_seq ?_))
      refine G_cond_t rfl (decide_eq_true (by omega)) ?_
      refine G_skip (X_then (G_seq (G_block (G_seq (G_region ?_)))))
      refine Gm ?_
      (refine G_alloc rfl rfl rfl (.none rfl) ?_; intro b3)
      refine G_store1 rfl rfl rfl rfl rfl rfl (.none rfl) (.head _ _ _) ?_
      refine G_end (X_then (G_seq (G_region ?_)))
      refine Gv (V_fieldAddr rfl rfl (by decide)) ?_
      refine Gv (V_load rfl rfl (Cell.own (.tail _ (.head _)) rfl)) ?_
      refine Gv (V_makeFunc rfl rfl rfl) ?_
      refine G_callv (k := 97) (.mk rfl rfl rfl rfl) rfl rfl (.none rfl) (ContainsFuncP_call _ _ _ _ _ _ (by assumption) (by omega) _ _ (by exact .head _) (by omega)) ?_
      refine Gv (V_not rfl rfl) ?_
      refine G_end (X_then ?_)
      refine G_cond_t rfl (by simp [*]; done) ?_
      refine G_seq (G_region ?_)
      refine Ga ?_
      refine G_end (X_then (G_ret (X_block_ret (X_then_ret (X_then_ret (X_block_ret (X_then_ret ?_)))))))
      refine G_leaveS (.drop _ (.drop _ (.nil _))) (by exact (.cons (.tmp rfl) (.nil))) rfl ?_ ?_
      · exact (.refl _)
      exact ⟨(by kernel_rfl), rfl⟩
  · rw [range_all fun k hk => hall k (by omega)]
    refine G_seq (G_region ?_)
    refine Gv (V_lss rfl rfl rfl) ?_
    refine G_end (X_then (G_seq ?_))
    refine G_cond_f rfl (decide_eq_false (by omega)) ?_
    refine G_exit (X_then_exit (X_then_exit (X_block_hit (X_then (G_seq (G_region ?_))))))
    refine Ga ?_
    refine G_end (X_then (G_ret ?_))
    refine G_leaveS (.drop _ (.nil _)) (by exact (.cons (.tmp rfl) (.nil))) rfl ?_ ?_
    · exact (.refl _)
    exact ⟨(by kernel_rfl), rfl⟩
/-! The whole check. -/
def gc5 (g : Gr) : Int := if compB g = true then 0 else 7
def gc4 (g : Gr) : Int := if ordsB g.prods = true then gc5 g else 9
def gc3 (g : Gr) : Int := if symB g = true then gc4 g else 14
def gc2 (g : Gr) : Int := if dupB (g.toks ++ [g.sep] ++ g.names) = true then 8 else gc3 g
def gc1 (g : Gr) : Int := if shortB g = true then 5 else if smallsB g = true then gc2 g else 12
def gc0 (g : Gr) : Int := if fullB g = true then 6 else gc1 g
def gcheck (g : Gr) : Int := if g.k < 1 ∨ 4 < g.k then 2 else gc0 g
def gcr (g : Gr) : Nat → Int
  | 0 => gc0 g
  | 1 => gc1 g
  | 2 => gc2 g
  | 3 => gc3 g
  | 4 => gc4 g
  | 5 => gc5 g
  | _ => 0
theorem GCheck_call (gv : Value) (g : Gr) (hg : GrE E gv g) (hl : Light g) : CallV Tryz.prog 28 #[gv] E L (.int .i64 (gcheck g)) := by
  have hg0 := hg
  obtain ⟨tp, tc, np, nc, pp, pc, rfl, ht, hn, ⟨rows, hrows, hps, hre⟩, k1, k2, k3⟩ := hg
  refine CallS.toV (CallS.intro (l := [_]) _ Tryz.func28 rfl Tryz.ntmps28 rfl ?_)
  by_cases hk : g.k < 1 ∨ 4 < g.k
  · rw [gcheck, if_pos hk]
    refine G_seq (G_region ?_)
    (refine G_boxA rfl rfl rfl rfl (.none rfl) ?_; intro b1)
    refine Ga ?_
    refine G_end (X_then (G_scope (G_seq (G_seq (G_region ?_)))))
    refine Gv (V_fieldAddr rfl rfl (by decide)) ?_
    refine Gv (V_load rfl rfl (Cell.own (.head _) rfl)) ?_
    refine Gv (V_lss rfl rfl rfl) ?_
    refine Gm ?_
    apply G_joinOr 4 8 12 rfl
    · intro H1
      dsimp only [List.take]
      simp only [Bool.and_eq_true, Bool.or_eq_true, Bool.not_eq_true', Bool.not_eq_false', Bool.and_eq_false_iff, Bool.or_eq_false_iff, Bool.not_not, decide_eq_true_eq, decide_eq_false_iff_not, ne_eq, Decidable.not_not, Bool.decide_eq_true] at H1
      refine Gn ?_
      refine Gn ?_
      refine Gn ?_
      refine Gv (V_pick_t rfl rfl rfl) ?_
      refine G_end ?_
      exact JQ_end 4 rfl rfl (by kernel_rfl)
    · intro H2
      dsimp only [List.take]
      simp only [Bool.and_eq_true, Bool.or_eq_true, Bool.not_eq_true', Bool.not_eq_false', Bool.and_eq_false_iff, Bool.or_eq_false_iff, Bool.not_not, decide_eq_true_eq, decide_eq_false_iff_not, ne_eq, Decidable.not_not, Bool.decide_eq_true] at H2
      refine Gy (V_fieldAddr rfl rfl (by decide)) ?_
      refine Gy (V_load rfl rfl (Cell.own (.head _) rfl)) ?_
      refine Gy (V_gtr rfl rfl rfl) ?_
      refine Gv (V_pick_f rfl rfl rfl) ?_
      refine G_end ?_
      exact JQ_end 4 rfl rfl (by kernel_rfl)
    dsimp only [List.drop]
    refine G_end (X_then ?_)
    refine G_cond_t rfl (by simp [*]; done) ?_
    refine G_seq (G_region ?_)
    refine Ga ?_
    refine G_end (X_then (G_ret (X_then_ret ?_)))
    refine X_ng_ret ?_
    refine G_leaveS (.drop _ (.nil _)) (by exact (.cons (.tmp rfl) (.nil))) rfl ?_ ?_
    · exact (.refl _)
    exact ⟨(by kernel_rfl), rfl⟩
  rw [gcheck, if_neg hk]
  refine G_seq (G_region ?_)
  (refine G_boxA rfl rfl rfl rfl (.none rfl) ?_; intro b1)
  refine Ga ?_
  refine G_end (X_then (G_scope (G_seq (G_seq (G_region ?_)))))
  refine Gv (V_fieldAddr rfl rfl (by decide)) ?_
  refine Gv (V_load rfl rfl (Cell.own (.head _) rfl)) ?_
  refine Gv (V_lss rfl rfl rfl) ?_
  refine Gm ?_
  refine G.bool_f 8 rfl (decide_eq_false (by omega)) ?_
  refine Gy (V_fieldAddr rfl rfl (by decide)) ?_
  refine Gy (V_load rfl rfl (Cell.own (.head _) rfl)) ?_
  refine Gy (V_gtr rfl rfl rfl) ?_
  refine Gv (V_pick_f rfl rfl rfl) ?_
  refine G_end (X_then ?_)
  refine G_cond_f rfl (decide_eq_false (by omega)) ?_
  refine G_skip (X_then (G_seq (G_label (X_then (G_seq (G_seq (G_region ?_)))))))
  (refine G_lit rfl rfl (by decide) (by simp [fillS, zeros, setLs, setL, Value.cells, List.range, List.range.loop]; rfl) rfl rfl (.none rfl) ?_; intro b13)
  refine Gv (V_lenS rfl rfl) ?_
  refine Gm ?_
  refine G_end (X_then (G_block ?_))
  refine G_loop (α := Nat) (fun i => [(1, .pointer (some ⟨b1, 0, none⟩)), (2, .int .i64 0), (13, .slice (some ⟨b13, 0, none⟩) 6 6), (14, .int .i64 ((6 : Nat) : Int)), (15, .int .i64 i)]) (fun _ => E)
    (fun i => .blk b13 (.cells #[.func (.func 55) #[] #[], .func (.func 56) #[] #[], .func (.func 57) #[] #[], .func (.func 58) #[] #[], .func (.func 59) #[] #[], .func (.func 60) #[] #[]] 77 (0, 0)) :: GB b1 g tp tc np nc pp pc :: L)
    (fun i => i ≤ 6 ∧ gcr g i = gc0 g) (fun i => 6 - i) 0 ⟨Nat.zero_le _, rfl⟩ ⟨rfl, rfl, rfl, rfl, rfl, trivial⟩ rfl rfl ?_
  rintro i ⟨hi, hall⟩
  rw [← hall]
  have hcase : i = 0 ∨ i = 1 ∨ i = 2 ∨ i = 3 ∨ i = 4 ∨ i = 5 ∨ i = 6 := by omega
  rcases hcase with rfl | rfl | rfl | rfl | rfl | rfl | rfl
  · have e : gcr g 0 = if fullB g = true then 6 else gcr g 1 := rfl
    rw [e] at hall ⊢
    by_cases hb : fullB g = true
    · rw [if_pos hb] at hall ⊢
      have v : (if fullB g = true then (6 : Int) else 0) = 6 := if_pos hb
      refine G_seq (G_region ?_)
      refine Gv (V_lss rfl rfl rfl) ?_
      refine G_end (X_then (G_seq ?_))
      refine G_cond_t rfl (by kernel_rfl) ?_
      refine G_skip (X_then (G_seq (G_block (G_seq (G_region ?_)))))
      refine Gv (V_idxB1n rfl rfl rfl (by omega)) ?_
      refine Gv (V_load rfl rfl (Cell.own (.head _) rfl)) ?_
      refine Ga ?_
      refine G_end (X_then (G_seq (G_region ?_)))
      refine Gm ?_
      refine Gv (V_loadA rfl rfl (Cells.own (.tail _ (.head _))) rfl) ?_
      refine G_callv (k := 55) (.mk rfl rfl rfl rfl) rfl rfl (.none rfl) (many_call _ _ _ _ (by assumption) (by assumption)) ?_
      refine Ga ?_
      refine G_end (X_then (G_seq (G_region ?_)))
      refine Gm ?_
      refine Gv (V_neq rfl rfl rfl) ?_
      refine G_end (X_then ?_)
      refine G_cond_t rfl (decide_eq_true (by omega)) ?_
      refine G_exit ?_
      refine X_block_miss rfl ?_
      refine X_then_exit (X_then_exit (X_block_hit (X_then (G_seq (G_region ?_)))))
      refine Gm ?_
      refine Ga ?_
      refine G_end (X_then (G_ret ?_))
      refine X_ng_ret ?_
      refine G_leaveS (.drop _ (.drop _ (.nil _))) (by exact (.cons (.tmp rfl) (.nil))) rfl ?_ ?_
      · exact (.refl _)
      exact ⟨(by (simp (discharger := omega) only [resVal, if_pos, if_neg]; first | done | rfl)), (by rfl)⟩
    · rw [if_neg hb] at hall ⊢
      have v : (if fullB g = true then (6 : Int) else 0) = 0 := if_neg hb
      refine G_seq (G_region ?_)
      refine Gv (V_lss rfl rfl rfl) ?_
      refine G_end (X_then (G_seq ?_))
      refine G_cond_t rfl (by kernel_rfl) ?_
      refine G_skip (X_then (G_seq (G_block (G_seq (G_region ?_)))))
      refine Gv (V_idxB1n rfl rfl rfl (by omega)) ?_
      refine Gv (V_load rfl rfl (Cell.own (.head _) rfl)) ?_
      refine Ga ?_
      refine G_end (X_then (G_seq (G_region ?_)))
      refine Gm ?_
      refine Gv (V_loadA rfl rfl (Cells.own (.tail _ (.head _))) rfl) ?_
      refine G_callv (k := 55) (.mk rfl rfl rfl rfl) rfl rfl (.none rfl) (many_call _ _ _ _ (by assumption) (by assumption)) ?_
      refine Ga ?_
      refine G_end (X_then (G_seq (G_region ?_)))
      refine Gm ?_
      refine Gv (V_neq rfl rfl rfl) ?_
      refine G_end (X_then ?_)
      refine G_cond_f rfl (decide_eq_false (by omega)) ?_
      refine G_skip (X_block (X_then (G_region ?_)))
      refine Gv (V_add_i64 rfl rfl rfl (by omega) (by omega)) ?_
      refine Gm ?_
      refine G_end (X_then ?_)
      rw [v]
      exact G_again 1 ⟨by omega, rfl⟩ (by omega) ⟨rfl, rfl, rfl, rfl, rfl, trivial⟩ rfl rfl
  · have e : gcr g 1 = if shortB g = true then 5 else if smallsB g = true then gcr g 2 else 12 := rfl
    rw [e] at hall ⊢
    by_cases hb : shortB g = true
    · rw [if_pos hb] at hall ⊢
      have v : (if shortB g = true then (5 : Int) else if smallsB g = true then 0 else 12) = 5 := if_pos hb
      refine G_seq (G_region ?_)
      refine Gv (V_lss rfl rfl rfl) ?_
      refine G_end (X_then (G_seq ?_))
      refine G_cond_t rfl (by kernel_rfl) ?_
      refine G_skip (X_then (G_seq (G_block (G_seq (G_region ?_)))))
      refine Gv (V_idxB1n rfl rfl rfl (by omega)) ?_
      refine Gv (V_load rfl rfl (Cell.own (.head _) rfl)) ?_
      refine Ga ?_
      refine G_end (X_then (G_seq (G_region ?_)))
      refine Gm ?_
      refine Gv (V_loadA rfl rfl (Cells.own (.tail _ (.head _))) rfl) ?_
      refine G_callv (k := 56) (.mk rfl rfl rfl rfl) rfl rfl (.none rfl) (named_call _ _ _ _ (by assumption) (by assumption)) ?_
      refine Ga ?_
      refine G_end (X_then (G_seq (G_region ?_)))
      refine Gm ?_
      refine Gv (V_neq rfl rfl rfl) ?_
      refine G_end (X_then ?_)
      refine G_cond_t rfl (decide_eq_true (by omega)) ?_
      refine G_exit ?_
      refine X_block_miss rfl ?_
      refine X_then_exit (X_then_exit (X_block_hit (X_then (G_seq (G_region ?_)))))
      refine Gm ?_
      refine Ga ?_
      refine G_end (X_then (G_ret ?_))
      refine X_ng_ret ?_
      refine G_leaveS (.drop _ (.drop _ (.nil _))) (by exact (.cons (.tmp rfl) (.nil))) rfl ?_ ?_
      · exact (.refl _)
      exact ⟨(by (simp (discharger := omega) only [resVal, if_pos, if_neg]; first | done | rfl)), (by rfl)⟩
    · rw [if_neg hb] at hall ⊢
      by_cases hc : smallsB g = true
      · rw [if_pos hc] at hall ⊢
        have v : (if shortB g = true then (5 : Int) else if smallsB g = true then 0 else 12) = 0 := by rw [if_neg hb, if_pos hc]
        refine G_seq (G_region ?_)
        refine Gv (V_lss rfl rfl rfl) ?_
        refine G_end (X_then (G_seq ?_))
        refine G_cond_t rfl (by kernel_rfl) ?_
        refine G_skip (X_then (G_seq (G_block (G_seq (G_region ?_)))))
        refine Gv (V_idxB1n rfl rfl rfl (by omega)) ?_
        refine Gv (V_load rfl rfl (Cell.own (.head _) rfl)) ?_
        refine Ga ?_
        refine G_end (X_then (G_seq (G_region ?_)))
        refine Gm ?_
        refine Gv (V_loadA rfl rfl (Cells.own (.tail _ (.head _))) rfl) ?_
        refine G_callv (k := 56) (.mk rfl rfl rfl rfl) rfl rfl (.none rfl) (named_call _ _ _ _ (by assumption) (by assumption)) ?_
        refine Ga ?_
        refine G_end (X_then (G_seq (G_region ?_)))
        refine Gm ?_
        refine Gv (V_neq rfl rfl rfl) ?_
        refine G_end (X_then ?_)
        refine G_cond_f rfl (decide_eq_false (by omega)) ?_
        refine G_skip (X_block (X_then (G_region ?_)))
        refine Gv (V_add_i64 rfl rfl rfl (by omega) (by omega)) ?_
        refine Gm ?_
        refine G_end (X_then ?_)
        rw [v]
        exact G_again 2 ⟨by omega, rfl⟩ (by omega) ⟨rfl, rfl, rfl, rfl, rfl, trivial⟩ rfl rfl
      · rw [if_neg hc] at hall ⊢
        have v : (if shortB g = true then (5 : Int) else if smallsB g = true then 0 else 12) = 12 := by rw [if_neg hb, if_neg hc]
        refine G_seq (G_region ?_)
        refine Gv (V_lss rfl rfl rfl) ?_
        refine G_end (X_then (G_seq ?_))
        refine G_cond_t rfl (by kernel_rfl) ?_
        refine G_skip (X_then (G_seq (G_block (G_seq (G_region ?_)))))
        refine Gv (V_idxB1n rfl rfl rfl (by omega)) ?_
        refine Gv (V_load rfl rfl (Cell.own (.head _) rfl)) ?_
        refine Ga ?_
        refine G_end (X_then (G_seq (G_region ?_)))
        refine Gm ?_
        refine Gv (V_loadA rfl rfl (Cells.own (.tail _ (.head _))) rfl) ?_
        refine G_callv (k := 56) (.mk rfl rfl rfl rfl) rfl rfl (.none rfl) (named_call _ _ _ _ (by assumption) (by assumption)) ?_
        refine Ga ?_
        refine G_end (X_then (G_seq (G_region ?_)))
        refine Gm ?_
        refine Gv (V_neq rfl rfl rfl) ?_
        refine G_end (X_then ?_)
        refine G_cond_t rfl (decide_eq_true (by omega)) ?_
        refine G_exit ?_
        refine X_block_miss rfl ?_
        refine X_then_exit (X_then_exit (X_block_hit (X_then (G_seq (G_region ?_)))))
        refine Gm ?_
        refine Ga ?_
        refine G_end (X_then (G_ret ?_))
        refine X_ng_ret ?_
        refine G_leaveS (.drop _ (.drop _ (.nil _))) (by exact (.cons (.tmp rfl) (.nil))) rfl ?_ ?_
        · exact (.refl _)
        exact ⟨(by (simp (discharger := omega) only [resVal, if_pos, if_neg]; first | done | rfl)), (by rfl)⟩
  · have e : gcr g 2 = if dupB (g.toks ++ [g.sep] ++ g.names) = true then 8 else gcr g 3 := rfl
    rw [e] at hall ⊢
    by_cases hb : dupB (g.toks ++ [g.sep] ++ g.names) = true
    · rw [if_pos hb] at hall ⊢
      have v : (if dupB (g.toks ++ [g.sep] ++ g.names) = true then (8 : Int) else 0) = 8 := if_pos hb
      refine G_seq (G_region ?_)
      refine Gv (V_lss rfl rfl rfl) ?_
      refine G_end (X_then (G_seq ?_))
      refine G_cond_t rfl (by kernel_rfl) ?_
      refine G_skip (X_then (G_seq (G_block (G_seq (G_region ?_)))))
      refine Gv (V_idxB1n rfl rfl rfl (by omega)) ?_
      refine Gv (V_load rfl rfl (Cell.own (.head _) rfl)) ?_
      refine Ga ?_
      refine G_end (X_then (G_seq (G_region ?_)))
      refine Gm ?_
      refine Gv (V_loadA rfl rfl (Cells.own (.tail _ (.head _))) rfl) ?_
      refine G_callv (k := 57) (.mk rfl rfl rfl rfl) rfl rfl (.none rfl) (different_call _ _ _ _ (by assumption) (by assumption)) ?_
      refine Ga ?_
      refine G_end (X_then (G_seq (G_region ?_)))
      refine Gm ?_
      refine Gv (V_neq rfl rfl rfl) ?_
      refine G_end (X_then ?_)
      refine G_cond_t rfl (decide_eq_true (by omega)) ?_
      refine G_exit ?_
      refine X_block_miss rfl ?_
      refine X_then_exit (X_then_exit (X_block_hit (X_then (G_seq (G_region ?_)))))
      refine Gm ?_
      refine Ga ?_
      refine G_end (X_then (G_ret ?_))
      refine X_ng_ret ?_
      refine G_leaveS (.drop _ (.drop _ (.nil _))) (by exact (.cons (.tmp rfl) (.nil))) rfl ?_ ?_
      · exact (.refl _)
      exact ⟨(by (simp (discharger := omega) only [resVal, if_pos, if_neg]; first | done | rfl)), (by rfl)⟩
    · rw [if_neg hb] at hall ⊢
      have v : (if dupB (g.toks ++ [g.sep] ++ g.names) = true then (8 : Int) else 0) = 0 := if_neg hb
      refine G_seq (G_region ?_)
      refine Gv (V_lss rfl rfl rfl) ?_
      refine G_end (X_then (G_seq ?_))
      refine G_cond_t rfl (by kernel_rfl) ?_
      refine G_skip (X_then (G_seq (G_block (G_seq (G_region ?_)))))
      refine Gv (V_idxB1n rfl rfl rfl (by omega)) ?_
      refine Gv (V_load rfl rfl (Cell.own (.head _) rfl)) ?_
      refine Ga ?_
      refine G_end (X_then (G_seq (G_region ?_)))
      refine Gm ?_
      refine Gv (V_loadA rfl rfl (Cells.own (.tail _ (.head _))) rfl) ?_
      refine G_callv (k := 57) (.mk rfl rfl rfl rfl) rfl rfl (.none rfl) (different_call _ _ _ _ (by assumption) (by assumption)) ?_
      refine Ga ?_
      refine G_end (X_then (G_seq (G_region ?_)))
      refine Gm ?_
      refine Gv (V_neq rfl rfl rfl) ?_
      refine G_end (X_then ?_)
      refine G_cond_f rfl (decide_eq_false (by omega)) ?_
      refine G_skip (X_block (X_then (G_region ?_)))
      refine Gv (V_add_i64 rfl rfl rfl (by omega) (by omega)) ?_
      refine Gm ?_
      refine G_end (X_then ?_)
      rw [v]
      exact G_again 3 ⟨by omega, rfl⟩ (by omega) ⟨rfl, rfl, rfl, rfl, rfl, trivial⟩ rfl rfl
  · have e : gcr g 3 = if symB g = true then gcr g 4 else 14 := rfl
    rw [e] at hall ⊢
    by_cases hb : symB g = true
    · rw [if_pos hb] at hall ⊢
      have v : (if symB g = true then (0 : Int) else 14) = 0 := if_pos hb
      refine G_seq (G_region ?_)
      refine Gv (V_lss rfl rfl rfl) ?_
      refine G_end (X_then (G_seq ?_))
      refine G_cond_t rfl (by kernel_rfl) ?_
      refine G_skip (X_then (G_seq (G_block (G_seq (G_region ?_)))))
      refine Gv (V_idxB1n rfl rfl rfl (by omega)) ?_
      refine Gv (V_load rfl rfl (Cell.own (.head _) rfl)) ?_
      refine Ga ?_
      refine G_end (X_then (G_seq (G_region ?_)))
      refine Gm ?_
      refine Gv (V_loadA rfl rfl (Cells.own (.tail _ (.head _))) rfl) ?_
      refine G_callv (k := 58) (.mk rfl rfl rfl rfl) rfl rfl (.none rfl) (symbols_call _ _ _ _ (by assumption) (by assumption)) ?_
      refine Ga ?_
      refine G_end (X_then (G_seq (G_region ?_)))
      refine Gm ?_
      refine Gv (V_neq rfl rfl rfl) ?_
      refine G_end (X_then ?_)
      refine G_cond_f rfl (decide_eq_false (by omega)) ?_
      refine G_skip (X_block (X_then (G_region ?_)))
      refine Gv (V_add_i64 rfl rfl rfl (by omega) (by omega)) ?_
      refine Gm ?_
      refine G_end (X_then ?_)
      rw [v]
      exact G_again 4 ⟨by omega, rfl⟩ (by omega) ⟨rfl, rfl, rfl, rfl, rfl, trivial⟩ rfl rfl
    · rw [if_neg hb] at hall ⊢
      have v : (if symB g = true then (0 : Int) else 14) = 14 := if_neg hb
      refine G_seq (G_region ?_)
      refine Gv (V_lss rfl rfl rfl) ?_
      refine G_end (X_then (G_seq ?_))
      refine G_cond_t rfl (by kernel_rfl) ?_
      refine G_skip (X_then (G_seq (G_block (G_seq (G_region ?_)))))
      refine Gv (V_idxB1n rfl rfl rfl (by omega)) ?_
      refine Gv (V_load rfl rfl (Cell.own (.head _) rfl)) ?_
      refine Ga ?_
      refine G_end (X_then (G_seq (G_region ?_)))
      refine Gm ?_
      refine Gv (V_loadA rfl rfl (Cells.own (.tail _ (.head _))) rfl) ?_
      refine G_callv (k := 58) (.mk rfl rfl rfl rfl) rfl rfl (.none rfl) (symbols_call _ _ _ _ (by assumption) (by assumption)) ?_
      refine Ga ?_
      refine G_end (X_then (G_seq (G_region ?_)))
      refine Gm ?_
      refine Gv (V_neq rfl rfl rfl) ?_
      refine G_end (X_then ?_)
      refine G_cond_t rfl (decide_eq_true (by omega)) ?_
      refine G_exit ?_
      refine X_block_miss rfl ?_
      refine X_then_exit (X_then_exit (X_block_hit (X_then (G_seq (G_region ?_)))))
      refine Gm ?_
      refine Ga ?_
      refine G_end (X_then (G_ret ?_))
      refine X_ng_ret ?_
      refine G_leaveS (.drop _ (.drop _ (.nil _))) (by exact (.cons (.tmp rfl) (.nil))) rfl ?_ ?_
      · exact (.refl _)
      exact ⟨(by (simp (discharger := omega) only [resVal, if_pos, if_neg]; first | done | rfl)), (by rfl)⟩
  · have e : gcr g 4 = if ordsB g.prods = true then gcr g 5 else 9 := rfl
    rw [e] at hall ⊢
    by_cases hb : ordsB g.prods = true
    · rw [if_pos hb] at hall ⊢
      have v : (if ordsB g.prods = true then (0 : Int) else 9) = 0 := if_pos hb
      refine G_seq (G_region ?_)
      refine Gv (V_lss rfl rfl rfl) ?_
      refine G_end (X_then (G_seq ?_))
      refine G_cond_t rfl (by kernel_rfl) ?_
      refine G_skip (X_then (G_seq (G_block (G_seq (G_region ?_)))))
      refine Gv (V_idxB1n rfl rfl rfl (by omega)) ?_
      refine Gv (V_load rfl rfl (Cell.own (.head _) rfl)) ?_
      refine Ga ?_
      refine G_end (X_then (G_seq (G_region ?_)))
      refine Gm ?_
      refine Gv (V_loadA rfl rfl (Cells.own (.tail _ (.head _))) rfl) ?_
      refine G_callv (k := 59) (.mk rfl rfl rfl rfl) rfl rfl (.none rfl) (ordered_call _ _ _ _ (by assumption) (by assumption)) ?_
      refine Ga ?_
      refine G_end (X_then (G_seq (G_region ?_)))
      refine Gm ?_
      refine Gv (V_neq rfl rfl rfl) ?_
      refine G_end (X_then ?_)
      refine G_cond_f rfl (decide_eq_false (by omega)) ?_
      refine G_skip (X_block (X_then (G_region ?_)))
      refine Gv (V_add_i64 rfl rfl rfl (by omega) (by omega)) ?_
      refine Gm ?_
      refine G_end (X_then ?_)
      rw [v]
      exact G_again 5 ⟨by omega, rfl⟩ (by omega) ⟨rfl, rfl, rfl, rfl, rfl, trivial⟩ rfl rfl
    · rw [if_neg hb] at hall ⊢
      have v : (if ordsB g.prods = true then (0 : Int) else 9) = 9 := if_neg hb
      refine G_seq (G_region ?_)
      refine Gv (V_lss rfl rfl rfl) ?_
      refine G_end (X_then (G_seq ?_))
      refine G_cond_t rfl (by kernel_rfl) ?_
      refine G_skip (X_then (G_seq (G_block (G_seq (G_region ?_)))))
      refine Gv (V_idxB1n rfl rfl rfl (by omega)) ?_
      refine Gv (V_load rfl rfl (Cell.own (.head _) rfl)) ?_
      refine Ga ?_
      refine G_end (X_then (G_seq (G_region ?_)))
      refine Gm ?_
      refine Gv (V_loadA rfl rfl (Cells.own (.tail _ (.head _))) rfl) ?_
      refine G_callv (k := 59) (.mk rfl rfl rfl rfl) rfl rfl (.none rfl) (ordered_call _ _ _ _ (by assumption) (by assumption)) ?_
      refine Ga ?_
      refine G_end (X_then (G_seq (G_region ?_)))
      refine Gm ?_
      refine Gv (V_neq rfl rfl rfl) ?_
      refine G_end (X_then ?_)
      refine G_cond_t rfl (decide_eq_true (by omega)) ?_
      refine G_exit ?_
      refine X_block_miss rfl ?_
      refine X_then_exit (X_then_exit (X_block_hit (X_then (G_seq (G_region ?_)))))
      refine Gm ?_
      refine Ga ?_
      refine G_end (X_then (G_ret ?_))
      refine X_ng_ret ?_
      refine G_leaveS (.drop _ (.drop _ (.nil _))) (by exact (.cons (.tmp rfl) (.nil))) rfl ?_ ?_
      · exact (.refl _)
      exact ⟨(by (simp (discharger := omega) only [resVal, if_pos, if_neg]; first | done | rfl)), (by rfl)⟩
  · have e : gcr g 5 = if compB g = true then (0 : Int) else 7 := rfl
    rw [e] at hall ⊢
    by_cases hb : compB g = true
    · rw [if_pos hb] at hall ⊢
      have v : (if compB g = true then (0 : Int) else 7) = 0 := if_pos hb
      refine G_seq (G_region ?_)
      refine Gv (V_lss rfl rfl rfl) ?_
      refine G_end (X_then (G_seq ?_))
      refine G_cond_t rfl (by kernel_rfl) ?_
      refine G_skip (X_then (G_seq (G_block (G_seq (G_region ?_)))))
      refine Gv (V_idxB1n rfl rfl rfl (by omega)) ?_
      refine Gv (V_load rfl rfl (Cell.own (.head _) rfl)) ?_
      refine Ga ?_
      refine G_end (X_then (G_seq (G_region ?_)))
      refine Gm ?_
      refine Gv (V_loadA rfl rfl (Cells.own (.tail _ (.head _))) rfl) ?_
      refine G_callv (k := 60) (.mk rfl rfl rfl rfl) rfl rfl (.none rfl) (complete_call _ _ _ _ (by assumption) (by assumption)) ?_
      refine Ga ?_
      refine G_end (X_then (G_seq (G_region ?_)))
      refine Gm ?_
      refine Gv (V_neq rfl rfl rfl) ?_
      refine G_end (X_then ?_)
      refine G_cond_f rfl (decide_eq_false (by omega)) ?_
      refine G_skip (X_block (X_then (G_region ?_)))
      refine Gv (V_add_i64 rfl rfl rfl (by omega) (by omega)) ?_
      refine Gm ?_
      refine G_end (X_then ?_)
      rw [v]
      exact G_again 6 ⟨by omega, rfl⟩ (by omega) ⟨rfl, rfl, rfl, rfl, rfl, trivial⟩ rfl rfl
    · rw [if_neg hb] at hall ⊢
      have v : (if compB g = true then (0 : Int) else 7) = 7 := if_neg hb
      refine G_seq (G_region ?_)
      refine Gv (V_lss rfl rfl rfl) ?_
      refine G_end (X_then (G_seq ?_))
      refine G_cond_t rfl (by kernel_rfl) ?_
      refine G_skip (X_then (G_seq (G_block (G_seq (G_region ?_)))))
      refine Gv (V_idxB1n rfl rfl rfl (by omega)) ?_
      refine Gv (V_load rfl rfl (Cell.own (.head _) rfl)) ?_
      refine Ga ?_
      refine G_end (X_then (G_seq (G_region ?_)))
      refine Gm ?_
      refine Gv (V_loadA rfl rfl (Cells.own (.tail _ (.head _))) rfl) ?_
      refine G_callv (k := 60) (.mk rfl rfl rfl rfl) rfl rfl (.none rfl) (complete_call _ _ _ _ (by assumption) (by assumption)) ?_
      refine Ga ?_
      refine G_end (X_then (G_seq (G_region ?_)))
      refine Gm ?_
      refine Gv (V_neq rfl rfl rfl) ?_
      refine G_end (X_then ?_)
      refine G_cond_t rfl (decide_eq_true (by omega)) ?_
      refine G_exit ?_
      refine X_block_miss rfl ?_
      refine X_then_exit (X_then_exit (X_block_hit (X_then (G_seq (G_region ?_)))))
      refine Gm ?_
      refine Ga ?_
      refine G_end (X_then (G_ret ?_))
      refine X_ng_ret ?_
      refine G_leaveS (.drop _ (.drop _ (.nil _))) (by exact (.cons (.tmp rfl) (.nil))) rfl ?_ ?_
      · exact (.refl _)
      exact ⟨(by (simp (discharger := omega) only [resVal, if_pos, if_neg]; first | done | rfl)), (by rfl)⟩
  · refine G_seq ?_
    refine G_region ?_
    refine Gv (V_lss rfl rfl rfl) ?_
    refine G_end (X_then (G_seq ?_))
    refine G_cond_f rfl (by kernel_rfl) ?_
    refine G_exit (X_then_exit (X_then_exit (X_block_hit (X_then (G_seq (G_region ?_))))))
    refine Gm ?_
    refine Ga ?_
    refine G_end (X_then (G_ret ?_))
    refine X_ng_ret ?_
    refine G_leaveS (.drop _ (.drop _ (.nil _))) (by exact (.cons (.tmp rfl) (.nil))) rfl ?_ ?_
    · exact (.refl _)
    exact ⟨rfl, rfl⟩
end
end Go.Proofs.YtimiokmgnclggaaGreat
set_option linter.unusedSimpArgs false
set_option linter.unusedVariables false
set_option maxHeartbeats 2000000
set_option maxRecDepth 20000
namespace Go.Proofs.YtimiokmgnclggaaGreat
open Go.RowKit
/-! The kit's grammars. -/
def txtOk (s : List UInt8) : Bool :=
  match lexF 1000 s 0 with
  | some l => decide (s.length ≤ 2000) && noRem s && decide (l.length ≤ 1000000) && (match srcF l with
    | some src => srcGB src && decide (gcheck (grM src) = 0) && lightB (grM src)
    | none => false)
  | none => false
theorem kit_ok : kitTexts.all txtOk = true := by kernel_rfl
structure TextOk (s : List UInt8) : Prop where
  p : ∃ l src, lexF 1000 s 0 = some l ∧ s.length ≤ 2000 ∧ noRem s = true ∧ l.length ≤ 1000000 ∧ srcF l = some src ∧ SrcGood src ∧ gcheck (grM src) = 0 ∧ Light (grM src)
theorem txt_ok {s : List UInt8} (h : s ∈ kitTexts) : TextOk s := by
  have h := List.all_eq_true.1 kit_ok s h
  unfold txtOk at h
  split at h
  · rename_i l hl
    split at h
    · rename_i src hs
      simp only [Bool.and_eq_true, decide_eq_true_eq] at h
      obtain ⟨⟨⟨h1, h2⟩, h3⟩, ⟨h4, h5⟩, h6⟩ := h
      exact ⟨l, src, hl, h1, h2, h3, hs, srcGB_ok h4, h5, lightB_iff.1 h6⟩
    · simp at h
  · cases h
section
variable (E : Env) (L : List Res)
theorem KGrammar_call (n : Int) (hn : -9223372036854775808 ≤ n ∧ n ≤ 9223372036854775807) : CallS Tryz.prog 6 #[.int .i64 n] E L
    (fun r E' L' => ∃ g, GrE E' r g ∧ gcheck g = 0 ∧ Light g ∧ L' = L) := by
  refine CallS.intro (l := [_]) _ Tryz.func6 rfl Tryz.ntmps6 rfl ?_
  refine G_seq (G_region ?_)
  (refine G_alloc rfl rfl rfl (.none rfl) ?_; intro b2)
  refine G_end (X_then (G_seq (G_region ?_)))
  refine Gm ?_
  refine G_call (k := 20) (.mk rfl rfl rfl rfl) rfl rfl (.none rfl) (Text_call _ _ n hn) ?_
  rintro q1 E1 L1 hE1 ⟨s, hs, rfl, rfl⟩
  obtain ⟨l, src, t1, t2, t3, t4, t5, t6, t7, t8⟩ := (txt_ok hs).p
  skip
  refine G_call (k := 19) (.mk rfl rfl rfl rfl) rfl rfl (.none rfl) (Parse8_call E1 _ s l 1000 (by omega) t1 t2 t3 src t5 t4) ?_
  rintro q2 E2 L2 hE2 ⟨v, rfl, hv, rfl⟩
  have hv0 := hv
  obtain ⟨tp, tc, rp, rc, rows, rfl, v1, v2, v3, v4⟩ := hv0
  refine Gm ?_
  refine Gv (V_extract rfl rfl rfl) ?_
  refine Gv (V_extract rfl rfl rfl) ?_
  (refine G_alloc rfl rfl rfl (.none rfl) ?_; intro b3)
  (refine G_alloc rfl rfl rfl (.none rfl) ?_; intro b4)
  refine G_storeA rfl rfl rfl rfl (by simp [Value.oneCell']) rfl (.none rfl) (.tail _ (.head _ _ _)) rfl ?_
  refine G_storeA rfl rfl rfl rfl (by simp [Value.oneCell']) rfl (.none rfl) (.head _ _ _) rfl ?_
  refine G_end (X_then (G_seq (G_region ?_)))
  refine Gv (V_loadA rfl rfl (Cells.own (.tail _ (.head _))) rfl) ?_
  refine G_call (k := 21) (.mk rfl rfl rfl rfl) rfl rfl (.none rfl) (Of9_call E2 _ src t6 tp tc rp rc rows v1 v2 v3 v4) ?_
  rintro q3 E3 L3 hE3 ⟨v5, rfl, hv5, rfl⟩
  obtain ⟨tp, tc, np, nc, pp, pc, rfl, w⟩ := hv5
  have hfin : GrE E3 (.agg #[.int .i64 (grM src).k, .slice tp (grM src).toks.length tc, .string (S (grM src).sep), .slice np (grM src).names.length nc, .int .i64 (grM src).start, .slice pp (grM src).prods.length pc]) (grM src) := ⟨tp, tc, np, nc, pp, pc, rfl, w⟩
  refine Gm ?_
  refine Gv (V_extract rfl rfl rfl) ?_
  refine Gv (V_extract rfl rfl rfl) ?_
  (refine G_alloc rfl rfl rfl (.none rfl) ?_; intro b5)
  refine G_storeA rfl rfl rfl rfl (by simp [Value.oneCell']) rfl (.none rfl) (.head _ _ _) rfl ?_
  refine Ga ?_
  refine G_end (X_then (G_seq (G_region ?_)))
  refine Gv (V_loadA rfl rfl (Cells.own (.head _)) rfl) ?_
  refine G_storeA rfl rfl rfl rfl (by simp [Value.oneCell']) rfl (.none rfl) (.tail _ (.tail _ (.tail _ (.head _ _ _)))) rfl ?_
  refine G_end (X_then (G_ret ?_))
  refine G_leaveS (.drop _ (.drop _ (.drop _ (.drop _ (.nil _))))) (by exact (.cons (.cellA rfl (Cells.own (.tail _ (.tail _ (.tail _ (.head _))))) rfl) (.nil))) rfl ?_ ?_
  · exact ((hE1.trans hE2).trans hE3)
  exact ⟨_, ⟨(by assumption), ⟨(by (simp [resVal, *]; done)), ⟨(by assumption), (by rfl)⟩⟩⟩⟩
end
end Go.Proofs.YtimiokmgnclggaaGreat
set_option linter.unusedSimpArgs false
set_option linter.unusedVariables false
set_option maxHeartbeats 2000000
set_option maxRecDepth 20000
namespace Go.Proofs.YtimiokmgnclggaaGreat
open Go.RowKit

def tendF (b : Int) (l : List Tok) : Int := l.foldl (fun _ t => tbeh t) b
/-- Where the last token ends. -/
def tend (l : List Tok) : Int := tendF 0 l
theorem tendF_snoc (b : Int) (l : List Tok) (t : Tok) : tendF b (l ++ [t]) = tbeh t := by simp [tendF]
theorem tend_snoc (l : List Tok) (t : Tok) : tend (l ++ [t]) = tbeh t := tendF_snoc 0 l t
theorem tend_take (l : List Tok) (k : Nat) (h : k < l.length) : tend (l.take (k + 1)) = tbeh l[k] := by
  rw [List.take_succ_eq_append_getElem h, tend_snoc]
def ordB : Int → List Tok → Bool
  | _, [] => true
  | b, t :: l => decide (b ≤ t.at') && ordB (tbeh t) l
theorem ordB_spec : ∀ (l : List Tok) (b : Int), ordB b l = true → ∀ k, (h : k < l.length) → tendF b (l.take k) ≤ l[k].at' := by
  intro l
  induction l with
  | nil => intro b _ k h; cases h
  | cons t l ih =>
    intro b h k hk
    simp only [ordB, Bool.and_eq_true, decide_eq_true_eq] at h
    cases k with
    | zero => simpa [tendF] using h.1
    | succ k => exact ih (tbeh t) h.2 k (by simpa using hk)
/-- A ring that is right. -/
def gringB (k terms : Int) (l : List Tok) (e ea : Int) : Bool :=
  decide (1 ≤ k) && decide (k ≤ 4) && decide (1 ≤ terms) && decide (terms ≤ 8) && decide ((l.length : Int) ≤ k) && l.all (tokB terms) && ordB 0 l &&
  decide (0 ≤ e) && decide (e ≤ 2) && decide (0 ≤ ea) && decide (ea ≤ 1099511627776) && (decide (e ≠ 0) || decide (ea = 0)) && (decide (e = 0) || decide (l.length = 0) || decide (tend l ≤ ea))
structure Gring (k terms : Int) (l : List Tok) (e ea : Int) : Prop where
  k1 : 1 ≤ k
  k4 : k ≤ 4
  t1 : 1 ≤ terms
  t8 : terms ≤ 8
  len : (l.length : Int) ≤ k
  tok : ∀ t, t ∈ l → tokB terms t = true
  ord : ordB 0 l = true
  e0 : 0 ≤ e
  e2 : e ≤ 2
  a0 : 0 ≤ ea
  a1 : ea ≤ 1099511627776
  no : e ≠ 0 ∨ ea = 0
  fin : e = 0 ∨ l.length = 0 ∨ tend l ≤ ea
theorem gring_iff {k terms : Int} {l : List Tok} {e ea : Int} : gringB k terms l e ea = true ↔ Gring k terms l e ea := by
  simp only [gringB, Bool.and_eq_true, Bool.or_eq_true, decide_eq_true_eq, List.all_eq_true]
  constructor
  · rintro ⟨⟨⟨⟨⟨⟨⟨⟨⟨⟨⟨⟨h1, h2⟩, h3⟩, h4⟩, h5⟩, h6⟩, h7⟩, h8⟩, h9⟩, h10⟩, h11⟩, h12⟩, h13⟩
    exact ⟨h1, h2, h3, h4, h5, h6, h7, h8, h9, h10, h11, h12, by rcases h13 with (h | h) | h; exact .inl h; exact .inr (.inl h); exact .inr (.inr h)⟩
  · rintro ⟨h1, h2, h3, h4, h5, h6, h7, h8, h9, h10, h11, h12, h13⟩
    exact ⟨⟨⟨⟨⟨⟨⟨⟨⟨⟨⟨⟨h1, h2⟩, h3⟩, h4⟩, h5⟩, h6⟩, h7⟩, h8⟩, h9⟩, h10⟩, h11⟩, h12⟩, by rcases h13 with h | h | h; exact .inl (.inl h); exact .inl (.inr h); exact .inr h⟩
theorem tend_bound {terms : Int} {l : List Tok} (h : ∀ t, t ∈ l → tokB terms t = true) : 0 ≤ tend l ∧ tend l ≤ 1099511627802 := by
  rcases List.eq_nil_or_concat l with rfl | ⟨r, t, rfl⟩
  · simp [tend, tendF]
  · have h1 := tokB_iff.1 (h t (by simp))
    rw [List.concat_eq_append, tend_snoc, tbeh]
    omega

theorem Check_call (E : Env) (L : List Res) (k terms : Int) (p : Option Addr) (n c : Nat) (l : List Tok) (hl : SlE E 3 p n (toks l)) (e ea : Int) (hg : gringB k terms l e ea = true) :
    CallV Tryz.prog 54 #[.int .i64 k, .int .i64 terms, .agg #[.slice p n c, .int .i64 e, .int .i64 ea]] E L (.int .i64 0) := by
  have e1 := hl.nT
  subst e1
  refine CallS.toV (CallS.intro (l := [.int .i64 k, .int .i64 terms, .agg #[.slice p l.length c, .int .i64 e, .int .i64 ea]]) _ Tryz.func54 rfl Tryz.ntmps54 rfl ?_)
  obtain ⟨h1, h2, h3, h4, h5, h6, h7, h8, h9, h10, h11, h12, h13⟩ := gring_iff.1 hg
  refine G_seq (G_region ?_)
  (refine G_boxA rfl rfl rfl rfl (.none rfl) ?_; intro b5)
  refine Ga ?_
  refine G_end (X_then (G_seq (G_block (G_seq (G_region ?_)))))
  refine Gm ?_
  refine Gv (V_lss rfl rfl rfl) ?_
  refine Gm ?_
  refine G.bool_f 14 rfl (decide_eq_false (by omega)) ?_
  refine Gy (V_move rfl rfl) ?_
  refine Gy (V_gtr rfl rfl rfl) ?_
  refine Gv (V_pick_f rfl rfl rfl) ?_
  refine Gm ?_
  refine G.bool_f 18 rfl (decide_eq_false (by omega)) ?_
  refine Gy (V_move rfl rfl) ?_
  refine Gy (V_lss rfl rfl rfl) ?_
  refine Gv (V_pick_f rfl rfl rfl) ?_
  refine Gm ?_
  refine G.bool_f 22 rfl (decide_eq_false (by omega)) ?_
  refine Gy (V_move rfl rfl) ?_
  refine Gy (V_gtr rfl rfl rfl) ?_
  refine Gv (V_pick_f rfl rfl rfl) ?_
  refine Ga ?_
  refine G_end (X_then ?_)
  refine G_cond_f rfl (decide_eq_false (by omega)) ?_
  refine G_seq (G_region ?_)
  refine Gv (V_fieldAddr rfl rfl (by decide)) ?_
  refine Gv (V_load rfl rfl (Cell.own (.head _) rfl)) ?_
  refine Gv (V_lenS rfl rfl) ?_
  refine Gm ?_
  refine Gv (V_gtr rfl rfl rfl) ?_
  refine Ga ?_
  refine G_end (X_then ?_)
  refine G_cond_f rfl (decide_eq_false (by omega)) ?_
  refine G_skip (X_block (X_then (G_seq (G_region ?_))))
  refine Ga ?_
  refine G_end (X_then (G_seq (G_seq (G_region ?_))))
  refine Gv (V_fieldAddr rfl rfl (by decide)) ?_
  refine Gv (V_load rfl rfl (Cell.own (.head _) rfl)) ?_
  refine Gv (V_lenS rfl rfl) ?_
  refine Gm ?_
  refine G_end (X_then (G_block ?_))
  refine G_loop (α := Nat) (fun i => [(0, .int .i64 k), (1, .int .i64 terms), (5, .pointer (some ⟨b5, 0, none⟩)), (7, .int .i64 (tend (l.take i))), (33, .slice p l.length c), (34, .int .i64 l.length), (35, .int .i64 i)]) (fun _ => E)
    (fun _ => .blk b5 (.cells #[.slice p l.length c, .int .i64 e, .int .i64 ea] 30 (0, 0)) :: L) (fun i => i ≤ l.length) (fun i => l.length - i) 0 (Nat.zero_le _) ⟨rfl, rfl, rfl, rfl, rfl, rfl, rfl, trivial⟩ rfl rfl ?_
  intro i hi
  by_cases hlt : i < l.length
  · have hx := toks_get (List.getElem?_eq_getElem hlt)
    have ht := h6 _ (List.getElem_mem hlt)
    obtain ⟨q1, q2, q3, q4, q5⟩ := tokB_iff.1 ht
    have ho : tend (l.take i) ≤ l[i].at' := ordB_spec l 0 h7 i hlt
    refine G_seq (G_region ?_)
    refine Gv (V_lss rfl rfl rfl) ?_
    refine G_end (X_then (G_seq ?_))
    refine G_cond_t rfl (decide_eq_true (by omega)) ?_
    refine G_skip (X_then (G_seq (G_block (G_seq (G_region ?_)))))
    refine Gm ?_
    refine Gv (V_idxAddr rfl rfl rfl (SlE.rd (by assumption)) (by omega) (by omega)) ?_
    refine Gv (V_loadAS rfl rfl (SlE.rd (by assumption)) (by assumption) (by simp) (by rfl)) ?_
    (refine G_alloc rfl rfl rfl (.none rfl) ?_; intro b9)
    refine Ga ?_
    refine G_storeA rfl rfl rfl rfl (by simp [Value.oneCell']) rfl (.none rfl) (.head _ _ _) rfl ?_
    refine G_end (X_then (G_seq (G_seq (G_region ?_))))
    refine Gv (V_loadA rfl rfl (Cells.own (.head _)) rfl) ?_
    refine Gm ?_
    refine G_callv (k := 88) (.mk rfl rfl rfl rfl) rfl rfl (.none rfl) (right_call _ _ _ _ _ _ (by assumption) (by assumption) (by assumption)) ?_
    refine Ga ?_
    refine G_end (X_then (G_seq (G_region ?_)))
    refine Gm ?_
    refine Gv (V_neq rfl rfl rfl) ?_
    refine G_end (X_then ?_)
    refine G_cond_f rfl (by kernel_rfl) ?_
    refine G_skip (X_then (G_seq (G_seq (G_region ?_))))
    refine Gm ?_
    refine Gv (V_gtr rfl rfl rfl) ?_
    refine Gm ?_
    apply G_joinAnd 5 48 53 rfl
    · intro H1
      dsimp only [List.take]
      simp only [Bool.and_eq_true, Bool.or_eq_true, Bool.not_eq_true', Bool.not_eq_false', Bool.and_eq_false_iff, Bool.or_eq_false_iff, Bool.not_not, decide_eq_true_eq, decide_eq_false_iff_not, ne_eq, Decidable.not_not, Bool.decide_eq_true] at H1
      refine Gy (V_fieldAddr rfl rfl (by decide)) ?_
      refine Gy (V_load rfl rfl (Cell.own (.head _) rfl)) ?_
      refine Gy (V_move rfl rfl) ?_
      refine Gy (V_lss rfl rfl rfl) ?_
      refine Gv (V_pick_t rfl rfl rfl) ?_
      refine G_end ?_
      exact JQ_end 5 rfl rfl (by kernel_rfl)
    · intro H2
      dsimp only [List.take]
      simp only [Bool.and_eq_true, Bool.or_eq_true, Bool.not_eq_true', Bool.not_eq_false', Bool.and_eq_false_iff, Bool.or_eq_false_iff, Bool.not_not, decide_eq_true_eq, decide_eq_false_iff_not, ne_eq, Decidable.not_not, Bool.decide_eq_true] at H2
      refine Gn ?_
      refine Gn ?_
      refine Gn ?_
      refine Gn ?_
      refine Gv (V_pick_f rfl rfl rfl) ?_
      refine G_end ?_
      exact JQ_end 5 rfl rfl (by kernel_rfl)
    dsimp only [List.drop]
    refine G_end (X_then ?_)
    refine G_cond_f rfl (by simp [*]; done) ?_
    refine G_skip (X_then (G_region ?_))
    refine Gv (V_loadA rfl rfl (Cells.own (.head _)) rfl) ?_
    refine G_callv (k := 89) (.mk rfl rfl rfl rfl) rfl rfl (.none rfl) (behind_call _ _ _ _ _ (by omega) (by assumption) (by assumption)) ?_
    refine Ga ?_
    refine G_end (X_block (X_then (G_region ?_)))
    refine Gv (V_add_i64 rfl rfl rfl (by omega) (by omega)) ?_
    refine Gm ?_
    refine G_end (X_then ?_)
    refine G.drop ?_
    exact G_again (i + 1) (by omega) (by omega) ⟨rfl, rfl, rfl, by rw [tend_take l i hlt]; rfl, rfl, rfl, rfl, trivial⟩ rfl rfl
  have hie : i = l.length := by omega
  subst hie
  rw [List.take_length]
  have htb := tend_bound h6
  refine G_seq (G_region ?_)
  refine Gv (V_lss rfl rfl rfl) ?_
  refine G_end (X_then (G_seq ?_))
  refine G_cond_f rfl (decide_eq_false (by omega)) ?_
  refine G_exit (X_then_exit (X_then_exit (X_block_hit (X_then (G_seq (G_block (G_seq (G_region ?_))))))))
  refine Gv (V_fieldAddr rfl rfl (by decide)) ?_
  refine Gv (V_load rfl rfl (Cell.own (.head _) rfl)) ?_
  refine Gv (V_lss rfl rfl rfl) ?_
  refine Gm ?_
  refine G.bool_f 61 rfl (decide_eq_false (by omega)) ?_
  refine Gy (V_fieldAddr rfl rfl (by decide)) ?_
  refine Gy (V_load rfl rfl (Cell.own (.head _) rfl)) ?_
  refine Gy (V_gtr rfl rfl rfl) ?_
  refine Gv (V_pick_f rfl rfl rfl) ?_
  refine Gm ?_
  refine G.bool_f 66 rfl (decide_eq_false (by omega)) ?_
  refine Gy (V_fieldAddr rfl rfl (by decide)) ?_
  refine Gy (V_load rfl rfl (Cell.own (.head _) rfl)) ?_
  refine Gy (V_lss rfl rfl rfl) ?_
  refine Gv (V_pick_f rfl rfl rfl) ?_
  refine Gm ?_
  refine G.bool_f 71 rfl (decide_eq_false (by omega)) ?_
  refine Gy (V_fieldAddr rfl rfl (by decide)) ?_
  refine Gy (V_load rfl rfl (Cell.own (.head _) rfl)) ?_
  refine Gy (V_gtr rfl rfl rfl) ?_
  refine Gv (V_pick_f rfl rfl rfl) ?_
  refine Gm ?_
  refine G.bool_f 76 rfl (decide_eq_false (by omega)) ?_
  refine Gy (V_fieldAddr rfl rfl (by decide)) ?_
  refine Gy (V_load rfl rfl (Cell.own (.head _) rfl)) ?_
  refine Gy (V_eql rfl rfl rfl) ?_
  refine Gy (V_move rfl rfl) ?_
  apply G_joinAnd 4 80 84 rfl
  · intro H1
    dsimp only [List.take]
    simp only [Bool.and_eq_true, Bool.or_eq_true, Bool.not_eq_true', Bool.not_eq_false', Bool.and_eq_false_iff, Bool.or_eq_false_iff, Bool.not_not, decide_eq_true_eq, decide_eq_false_iff_not, ne_eq, Decidable.not_not, Bool.decide_eq_true] at H1
    refine Gy (V_fieldAddr rfl rfl (by decide)) ?_
    refine Gy (V_load rfl rfl (Cell.own (.head _) rfl)) ?_
    refine Gy (V_neq rfl rfl rfl) ?_
    refine Gy (V_pick_t rfl rfl rfl) ?_
    refine G_end ?_
    exact JQ_end 4 rfl rfl (by kernel_rfl)
  · intro H2
    dsimp only [List.take]
    simp only [Bool.and_eq_true, Bool.or_eq_true, Bool.not_eq_true', Bool.not_eq_false', Bool.and_eq_false_iff, Bool.or_eq_false_iff, Bool.not_not, decide_eq_true_eq, decide_eq_false_iff_not, ne_eq, Decidable.not_not, Bool.decide_eq_true] at H2
    refine Gn ?_
    refine Gn ?_
    refine Gn ?_
    refine Gy (V_pick_f rfl rfl rfl) ?_
    refine G_end ?_
    exact JQ_end 4 rfl rfl (by kernel_rfl)
  dsimp only [List.drop]
  refine Gv (V_pick_f rfl rfl rfl) ?_
  refine Ga ?_
  refine G_end (X_then ?_)
  refine G_cond rfl (fun H3 => ?_) (fun H3 => ?_)
  · simp only [Bool.and_eq_true, Bool.or_eq_true, Bool.not_eq_true', Bool.not_eq_false', Bool.and_eq_false_iff, Bool.or_eq_false_iff, Bool.not_not, decide_eq_true_eq, decide_eq_false_iff_not, ne_eq, Decidable.not_not, Bool.decide_eq_true] at H3
    (exfalso; omega)
  simp only [Bool.and_eq_true, Bool.or_eq_true, Bool.not_eq_true', Bool.not_eq_false', Bool.and_eq_false_iff, Bool.or_eq_false_iff, Bool.not_not, decide_eq_true_eq, decide_eq_false_iff_not, ne_eq, Decidable.not_not, Bool.decide_eq_true] at H3
  refine G_seq (G_region ?_)
  refine Gv (V_fieldAddr rfl rfl (by decide)) ?_
  refine Gv (V_load rfl rfl (Cell.own (.head _) rfl)) ?_
  refine Gv (V_neq rfl rfl rfl) ?_
  refine Gm ?_
  apply G_joinAnd 5 90 95 rfl
  · intro H4
    dsimp only [List.take]
    simp only [Bool.and_eq_true, Bool.or_eq_true, Bool.not_eq_true', Bool.not_eq_false', Bool.and_eq_false_iff, Bool.or_eq_false_iff, Bool.not_not, decide_eq_true_eq, decide_eq_false_iff_not, ne_eq, Decidable.not_not, Bool.decide_eq_true] at H4
    refine Gy (V_fieldAddr rfl rfl (by decide)) ?_
    refine Gy (V_load rfl rfl (Cell.own (.head _) rfl)) ?_
    refine Gy (V_lenS rfl rfl) ?_
    refine Gy (V_gtr rfl rfl rfl) ?_
    refine Gv (V_pick_t rfl rfl rfl) ?_
    refine G_end ?_
    exact JQ_end 5 rfl rfl (by kernel_rfl)
  · intro H5
    dsimp only [List.take]
    simp only [Bool.and_eq_true, Bool.or_eq_true, Bool.not_eq_true', Bool.not_eq_false', Bool.and_eq_false_iff, Bool.or_eq_false_iff, Bool.not_not, decide_eq_true_eq, decide_eq_false_iff_not, ne_eq, Decidable.not_not, Bool.decide_eq_true] at H5
    refine Gn ?_
    refine Gn ?_
    refine Gn ?_
    refine Gn ?_
    refine Gv (V_pick_f rfl rfl rfl) ?_
    refine G_end ?_
    exact JQ_end 5 rfl rfl (by kernel_rfl)
  dsimp only [List.drop]
  refine Gm ?_
  apply G_joinAnd 5 96 101 rfl
  · intro H6
    dsimp only [List.take]
    simp only [Bool.and_eq_true, Bool.or_eq_true, Bool.not_eq_true', Bool.not_eq_false', Bool.and_eq_false_iff, Bool.or_eq_false_iff, Bool.not_not, decide_eq_true_eq, decide_eq_false_iff_not, ne_eq, Decidable.not_not, Bool.decide_eq_true] at H6
    refine Gy (V_fieldAddr rfl rfl (by decide)) ?_
    refine Gy (V_load rfl rfl (Cell.own (.head _) rfl)) ?_
    refine Gy (V_move rfl rfl) ?_
    refine Gy (V_lss rfl rfl rfl) ?_
    refine Gv (V_pick_t rfl rfl rfl) ?_
    refine G_end ?_
    exact JQ_end 5 rfl rfl (by kernel_rfl)
  · intro H7
    dsimp only [List.take]
    simp only [Bool.and_eq_true, Bool.or_eq_true, Bool.not_eq_true', Bool.not_eq_false', Bool.and_eq_false_iff, Bool.or_eq_false_iff, Bool.not_not, decide_eq_true_eq, decide_eq_false_iff_not, ne_eq, Decidable.not_not, Bool.decide_eq_true] at H7
    refine Gn ?_
    refine Gn ?_
    refine Gn ?_
    refine Gn ?_
    refine Gv (V_pick_f rfl rfl rfl) ?_
    refine G_end ?_
    exact JQ_end 5 rfl rfl (by kernel_rfl)
  dsimp only [List.drop]
  refine Ga ?_
  refine G_end (X_then ?_)
  refine G_cond rfl (fun H8 => ?_) (fun H8 => ?_)
  · simp only [Bool.and_eq_true, Bool.or_eq_true, Bool.not_eq_true', Bool.not_eq_false', Bool.and_eq_false_iff, Bool.or_eq_false_iff, Bool.not_not, decide_eq_true_eq, decide_eq_false_iff_not, ne_eq, Decidable.not_not, Bool.decide_eq_true] at H8
    (exfalso; omega)
  simp only [Bool.and_eq_true, Bool.or_eq_true, Bool.not_eq_true', Bool.not_eq_false', Bool.and_eq_false_iff, Bool.or_eq_false_iff, Bool.not_not, decide_eq_true_eq, decide_eq_false_iff_not, ne_eq, Decidable.not_not, Bool.decide_eq_true] at H8
  refine G_skip (X_block (X_then (G_seq (G_region ?_))))
  refine Ga ?_
  refine G_end (X_then (G_ret ?_))
  refine G_leaveS (.drop _ (.nil _)) (by exact (.cons (.tmp rfl) (.nil))) rfl ?_ ?_
  · exact (.refl _)
  exact ⟨(by kernel_rfl), rfl⟩
end Go.Proofs.YtimiokmgnclggaaGreat
set_option linter.unusedSimpArgs false
set_option linter.unusedVariables false
set_option maxHeartbeats 2000000
set_option maxRecDepth 20000
namespace Go.Proofs.YtimiokmgnclggaaGreat
open Go.RowKit

section
variable (E : Env) (L : List Res) (k terms : Int) (p : Option Addr) (n c : Nat) (e ea : Int)
end
end Go.Proofs.YtimiokmgnclggaaGreat
set_option linter.unusedSimpArgs false
set_option linter.unusedVariables false
set_option maxHeartbeats 2000000
set_option maxRecDepth 20000
namespace Go.Proofs.YtimiokmgnclggaaGreat
open Go.RowKit

section
variable (E : Env) (L : List Res) (k terms : Int) (p : Option Addr) (n c : Nat) (e ea : Int)
theorem Place_call (l : List Tok) (hl : SlE E 3 p n (toks l)) (hg : gringB k terms l e ea = true) (hn : 0 < n) (a : Int) (s : List UInt8) (b : Int) (ht : l[0]? = some ⟨a, s, b⟩) :
    CallV Tryz.prog 27 #[.int .i64 k, .int .i64 terms, .agg #[.slice p n c, .int .i64 e, .int .i64 ea]] E L (.tuple #[.int .i64 b, .int .i64 0]) := by
  have e1 := hl.nT
  subst e1
  have hx := toks_get ht
  have hx2 : (toks l)[2]? = some (.int .i64 b) := by
    have := congrArg (fun z => z[2]?) hx
    simpa [Tok.cells, List.getElem?_take] using this
  refine CallS.toV (CallS.intro (l := [.int .i64 k, .int .i64 terms, .agg #[.slice p l.length c, .int .i64 e, .int .i64 ea]]) _ Tryz.func27 rfl Tryz.ntmps27 rfl ?_)
  refine G_seq (G_region ?_)
  (refine G_boxA rfl rfl rfl rfl (.none rfl) ?_; intro b5)
  refine Ga ?_
  refine Ga ?_
  refine G_end (X_then (G_seq (G_region ?_)))
  refine Gm ?_
  refine Gm ?_
  refine Gv (V_loadA rfl rfl (Cells.own (.head _)) rfl) ?_
  refine G_callv (k := 54) (.mk rfl rfl rfl rfl) rfl rfl (.none rfl) (Check_call _ _ _ _ _ _ _ _ (by assumption) _ _ (by assumption)) ?_
  refine Ga ?_
  refine G_end (X_then (G_seq (G_block (G_seq (G_region ?_)))))
  refine Gm ?_
  refine Gv (V_neq rfl rfl rfl) ?_
  refine Ga ?_
  refine G_end (X_then ?_)
  refine G_cond_f rfl (by kernel_rfl) ?_
  refine G_seq (G_region ?_)
  refine Gv (V_fieldAddr rfl rfl (by decide)) ?_
  refine Gv (V_load rfl rfl (Cell.own (.head _) rfl)) ?_
  refine Gv (V_lenS rfl rfl) ?_
  refine Gv (V_gtr rfl rfl rfl) ?_
  refine Ga ?_
  refine G_end (X_then ?_)
  refine G_cond_t rfl (decide_eq_true (by omega)) ?_
  refine G_seq (G_region ?_)
  refine Gv (V_fieldAddr rfl rfl (by decide)) ?_
  refine Gv (V_load rfl rfl (Cell.own (.head _) rfl)) ?_
  refine Gv (V_idxAddr rfl rfl rfl (SlE.rd (by assumption)) (by omega) (by omega)) ?_
  refine Gv (V_fieldAddrE rfl rfl (by assumption) (by omega) (by decide)) ?_
  refine Gv (V_loadS rfl rfl (SlE.rd (by assumption)) (by assumption) (by simp)) ?_
  refine Ga ?_
  refine Ga ?_
  refine G_end (X_then (G_ret (X_block_ret (X_then_ret ?_))))
  refine G_leaveS (.drop _ (.nil _)) (by exact (.cons (.tmp rfl) (.cons (.tmp rfl) (.nil)))) rfl ?_ ?_
  · exact (.refl _)
  exact ⟨rfl, rfl⟩
theorem PlaceEmpty_call (l : List Tok) (hl : SlE E 3 p n (toks l)) (hg : gringB k terms l e ea = true) (hn : n = 0) (he : e = 0) :
    CallV Tryz.prog 27 #[.int .i64 k, .int .i64 terms, .agg #[.slice p n c, .int .i64 e, .int .i64 ea]] E L (.tuple #[.int .i64 0, .int .i64 20]) := by
  have e1 := hl.nT
  subst e1
  refine CallS.toV (CallS.intro (l := [.int .i64 k, .int .i64 terms, .agg #[.slice p l.length c, .int .i64 e, .int .i64 ea]]) _ Tryz.func27 rfl Tryz.ntmps27 rfl ?_)
  refine G_seq (G_region ?_)
  (refine G_boxA rfl rfl rfl rfl (.none rfl) ?_; intro b5)
  refine Ga ?_
  refine Ga ?_
  refine G_end (X_then (G_seq (G_region ?_)))
  refine Gm ?_
  refine Gm ?_
  refine Gv (V_loadA rfl rfl (Cells.own (.head _)) rfl) ?_
  refine G_callv (k := 54) (.mk rfl rfl rfl rfl) rfl rfl (.none rfl) (Check_call _ _ _ _ _ _ _ _ (by assumption) _ _ (by assumption)) ?_
  refine Ga ?_
  refine G_end (X_then (G_seq (G_block (G_seq (G_region ?_)))))
  refine Gm ?_
  refine Gv (V_neq rfl rfl rfl) ?_
  refine Ga ?_
  refine G_end (X_then ?_)
  refine G_cond_f rfl (by kernel_rfl) ?_
  refine G_seq (G_region ?_)
  refine Gv (V_fieldAddr rfl rfl (by decide)) ?_
  refine Gv (V_load rfl rfl (Cell.own (.head _) rfl)) ?_
  refine Gv (V_lenS rfl rfl) ?_
  refine Gv (V_gtr rfl rfl rfl) ?_
  refine Ga ?_
  refine G_end (X_then ?_)
  refine G_cond_f rfl (decide_eq_false (by omega)) ?_
  refine G_seq (G_region ?_)
  refine Gv (V_fieldAddr rfl rfl (by decide)) ?_
  refine Gv (V_load rfl rfl (Cell.own (.head _) rfl)) ?_
  refine Gv (V_neq rfl rfl rfl) ?_
  refine Ga ?_
  refine G_end (X_then ?_)
  refine G_cond_f rfl (decide_eq_false (by omega)) ?_
  refine G_skip (X_block (X_then (G_seq (G_region ?_))))
  refine Ga ?_
  refine Ga ?_
  refine G_end (X_then (G_ret ?_))
  refine G_leaveS (.drop _ (.nil _)) (by exact (.cons (.tmp rfl) (.cons (.tmp rfl) (.nil)))) rfl ?_ ?_
  · exact (.refl _)
  exact ⟨(by kernel_rfl), rfl⟩
end
end Go.Proofs.YtimiokmgnclggaaGreat
set_option linter.unusedSimpArgs false
set_option linter.unusedVariables false
set_option maxHeartbeats 2000000
set_option maxRecDepth 20000
namespace Go.Proofs.YtimiokmgnclggaaGreat
open Go.RowKit

end Go.Proofs.YtimiokmgnclggaaGreat
set_option linter.unusedSimpArgs false
set_option linter.unusedVariables false
set_option maxHeartbeats 2000000
set_option maxRecDepth 20000
namespace Go.Proofs.YtimiokmgnclggaaGreat
open Go.RowKit

instance : DecidableEq Tok := fun a b =>
  if h : a.sym = b.sym ∧ a.text = b.text ∧ a.at' = b.at' then .isTrue (by obtain ⟨h1, h2, h3⟩ := h; cases a; cases b; simp only at h1 h2 h3; subst h1 h2 h3; rfl)
  else .isFalse (fun e => h (by subst e; exact ⟨rfl, rfl, rfl⟩))
theorem tok_ne {a b : Tok} (h : a ≠ b) : ¬ (a.sym = b.sym ∧ a.text = b.text ∧ a.at' = b.at') := fun ⟨h1, h2, h3⟩ => h (by cases a; cases b; simp only at h1 h2 h3; subst h1 h2 h3; rfl)

theorem SameTokens_call (E : Env) (L : List Res) (p q : Option Addr) (n m c d : Nat) (xs ys : List Tok) (hx : SlE E 3 p n (toks xs)) (hy : SlE E 3 q m (toks ys)) (hn : n ≤ 1000000) (hm : m ≤ 1000000) :
    CallV Tryz.prog 86 #[.slice p n c, .slice q m d] E L (.bool (decide (xs = ys))) := by
  have e1 := hx.nT; have e2 := hy.nT; subst e1 e2
  refine CallS.toV (CallS.intro (l := [.slice p xs.length c, .slice q ys.length d]) _ Tryz.func86 rfl Tryz.ntmps86 rfl ?_)
  by_cases hlen : xs.length ≠ ys.length
  · have hne : xs ≠ ys := fun h => hlen (congrArg List.length h)
    refine G_seq (G_region ?_)
    refine Ga ?_
    refine G_end (X_then (G_seq (G_seq (G_region ?_))))
    refine Gm ?_
    refine Gv (V_lenS rfl rfl) ?_
    refine Gm ?_
    refine Gv (V_lenS rfl rfl) ?_
    refine Gv (V_neq rfl rfl rfl) ?_
    refine G_end (X_then ?_)
    refine G_cond_t rfl (decide_eq_true (by omega)) ?_
    refine G_seq (G_region ?_)
    refine Ga ?_
    refine G_end (X_then (G_ret (X_then_ret ?_)))
    refine G_leaveS (.nil _) (by exact (.cons (.tmp rfl) (.nil))) rfl ?_ ?_
    · exact (.refl _)
    exact ⟨(by (simp [resVal, *]; done)), (by rfl)⟩
  refine G_seq (G_region ?_)
  refine Ga ?_
  refine G_end (X_then (G_seq (G_seq (G_region ?_))))
  refine Gm ?_
  refine Gv (V_lenS rfl rfl) ?_
  refine Gm ?_
  refine Gv (V_lenS rfl rfl) ?_
  refine Gv (V_neq rfl rfl rfl) ?_
  refine G_end (X_then ?_)
  refine G_cond_f rfl (decide_eq_false (by omega)) ?_
  refine G_skip (X_then (G_seq (G_seq (G_region ?_))))
  refine Ga ?_
  refine G_end (X_then (G_block ?_))
  refine G_loop (α := Nat) (fun k => [(0, .slice p xs.length c), (1, .slice q ys.length d), (5, .int .i64 k)]) (fun _ => E) (fun _ => L)
    (fun k => k ≤ xs.length ∧ xs.take k = ys.take k) (fun k => xs.length - k) 0 ⟨Nat.zero_le _, by simp⟩ ⟨rfl, rfl, rfl, trivial⟩ rfl rfl ?_
  rintro k ⟨hk, hall⟩
  by_cases hlt : k < xs.length
  · have hlt' : k < ys.length := by omega
    have h1 := toks_get (List.getElem?_eq_getElem hlt)
    have h2 := toks_get (List.getElem?_eq_getElem hlt')
    by_cases he : xs[k] = ys[k]
    · rw [← he] at h2
      refine G_seq (G_seq (G_region ?_))
      refine Gm ?_
      refine Gm ?_
      refine Gv (V_lenS rfl rfl) ?_
      refine Gv (V_lss rfl rfl rfl) ?_
      refine G_end (X_then ?_)
      refine G_cond_t rfl (decide_eq_true (by omega)) ?_
      refine G_skip (X_then (G_seq (G_block (G_seq ?_))))
      refine G_draw mixed (by kernel_rfl) ?_
      refine Q_val (V_move rfl rfl) rfl rfl (.none rfl) ?_
      refine Q_val (V_move rfl rfl) rfl rfl (.none rfl) ?_
      refine Q_val (V_idxAddr rfl rfl rfl (SlE.rd (by assumption)) (by omega) (by omega)) rfl rfl (.none rfl) ?_
      refine Q_val (V_loadAS rfl rfl (SlE.rd (by assumption)) (by assumption) (by simp) (by rfl)) rfl rfl (.none rfl) ?_
      refine Q_val (V_move rfl rfl) rfl rfl (.none rfl) ?_
      refine Q_val (V_move rfl rfl) rfl rfl (.none rfl) ?_
      refine Q_val (V_idxAddr rfl rfl rfl (SlE.rd (by assumption)) (by omega) (by omega)) rfl rfl (.none rfl) ?_
      refine Q_val (V_loadAS rfl rfl (SlE.rd (by assumption)) (by assumption) (by simp) (by rfl)) rfl rfl (.none rfl) ?_
      refine Q_val (V_aneq_46 rfl rfl rfl) rfl rfl (.none rfl) ?_
      refine Q_end ?_
      refine X_then ?_
      refine G_cond_f rfl (by simp [*]; done) ?_
      refine G_skip (X_block (X_then (G_region ?_)))
      refine Gm ?_
      refine Gv (V_add_i64 rfl rfl rfl (by omega) (by omega)) ?_
      refine Ga ?_
      refine G_end (X_then ?_)
      exact G_again (k + 1) ⟨hlt, take_next hall hlt hlt' he⟩ (by omega) ⟨rfl, rfl, rfl, trivial⟩ rfl rfl
    · have hne : xs ≠ ys := fun h => he (by subst h; rfl)
      have hne2 := tok_ne he
      refine G_seq (G_seq (G_region ?_))
      refine Gm ?_
      refine Gm ?_
      refine Gv (V_lenS rfl rfl) ?_
      refine Gv (V_lss rfl rfl rfl) ?_
      refine G_end (X_then ?_)
      refine G_cond_t rfl (decide_eq_true (by omega)) ?_
      refine G_skip (X_then (G_seq (G_block (G_seq ?_))))
      refine G_draw mixed (by kernel_rfl) ?_
      refine Q_val (V_move rfl rfl) rfl rfl (.none rfl) ?_
      refine Q_val (V_move rfl rfl) rfl rfl (.none rfl) ?_
      refine Q_val (V_idxAddr rfl rfl rfl (SlE.rd (by assumption)) (by omega) (by omega)) rfl rfl (.none rfl) ?_
      refine Q_val (V_loadAS rfl rfl (SlE.rd (by assumption)) (by assumption) (by simp) (by rfl)) rfl rfl (.none rfl) ?_
      refine Q_val (V_move rfl rfl) rfl rfl (.none rfl) ?_
      refine Q_val (V_move rfl rfl) rfl rfl (.none rfl) ?_
      refine Q_val (V_idxAddr rfl rfl rfl (SlE.rd (by assumption)) (by omega) (by omega)) rfl rfl (.none rfl) ?_
      refine Q_val (V_loadAS rfl rfl (SlE.rd (by assumption)) (by assumption) (by simp) (by rfl)) rfl rfl (.none rfl) ?_
      refine Q_val (V_aneq_46 rfl rfl rfl) rfl rfl (.none rfl) ?_
      refine Q_end ?_
      refine X_then ?_
      refine G_cond_t rfl (decide_eq_true (by omega)) ?_
      refine G_seq (G_region ?_)
      refine Ga ?_
      refine G_end (X_then (G_ret (X_block_ret (X_then_ret (X_then_ret (X_block_ret (X_then_ret ?_)))))))
      refine G_leaveS (.nil _) (by exact (.cons (.tmp rfl) (.nil))) rfl ?_ ?_
      · exact (.refl _)
      exact ⟨(by (simp [resVal, *]; done)), (by rfl)⟩
  · have heq : xs = ys := by rw [List.take_of_length_le (by omega), List.take_of_length_le (by omega)] at hall; exact hall
    refine G_seq (G_seq (G_region ?_))
    refine Gm ?_
    refine Gm ?_
    refine Gv (V_lenS rfl rfl) ?_
    refine Gv (V_lss rfl rfl rfl) ?_
    refine G_end (X_then ?_)
    refine G_cond_f rfl (decide_eq_false (by omega)) ?_
    refine G_exit (X_then_exit (X_then_exit (X_block_hit (X_then (G_seq (G_region ?_))))))
    refine Ga ?_
    refine G_end (X_then (G_ret ?_))
    refine G_leaveS (.nil _) (by exact (.cons (.tmp rfl) (.nil))) rfl ?_ ?_
    · exact (.refl _)
    exact ⟨(by (simp [resVal, *]; done)), (by rfl)⟩
theorem SameRing_call (E : Env) (L : List Res) (p q : Option Addr) (n m c d : Nat) (e ea e' ea' : Int) (xs ys : List Tok) (hx : SlE E 3 p n (toks xs)) (hy : SlE E 3 q m (toks ys)) (hn : n ≤ 1000000) (hm : m ≤ 1000000) :
    CallV Tryz.prog 49 #[.agg #[.slice p n c, .int .i64 e, .int .i64 ea], .agg #[.slice q m d, .int .i64 e', .int .i64 ea']] E L (.bool (decide (e = e') && decide (ea = ea') && decide (xs = ys))) := by
  refine CallS.toV (CallS.intro (l := [.agg #[.slice p n c, .int .i64 e, .int .i64 ea], .agg #[.slice q m d, .int .i64 e', .int .i64 ea']]) _ Tryz.func49 rfl Tryz.ntmps49 rfl ?_)
  refine G_seq (G_region ?_)
  (refine G_boxA rfl rfl rfl rfl (.none rfl) ?_; intro b2)
  (refine G_boxA rfl rfl rfl rfl (.none rfl) ?_; intro b3)
  refine Ga ?_
  refine G_end (X_then (G_seq (G_region ?_)))
  refine Gv (V_fieldAddr rfl rfl (by decide)) ?_
  refine Gv (V_load rfl rfl (Cell.own (.tail _ (.head _)) rfl)) ?_
  refine Gv (V_fieldAddr rfl rfl (by decide)) ?_
  refine Gv (V_load rfl rfl (Cell.own (.head _) rfl)) ?_
  refine Gv (V_eql rfl rfl rfl) ?_
  refine Gm ?_
  apply G_joinAnd 6 10 16 rfl
  · intro H1
    dsimp only [List.take]
    simp only [Bool.and_eq_true, Bool.or_eq_true, Bool.not_eq_true', Bool.not_eq_false', Bool.and_eq_false_iff, Bool.or_eq_false_iff, Bool.not_not, decide_eq_true_eq, decide_eq_false_iff_not, ne_eq, Decidable.not_not, Bool.decide_eq_true] at H1
    refine Gy (V_fieldAddr rfl rfl (by decide)) ?_
    refine Gy (V_load rfl rfl (Cell.own (.tail _ (.head _)) rfl)) ?_
    refine Gy (V_fieldAddr rfl rfl (by decide)) ?_
    refine Gy (V_load rfl rfl (Cell.own (.head _) rfl)) ?_
    refine Gy (V_eql rfl rfl rfl) ?_
    refine Gv (V_pick_t rfl rfl rfl) ?_
    refine G_end ?_
    exact JQ_end 6 rfl rfl (by kernel_rfl)
  · intro H2
    dsimp only [List.take]
    simp only [Bool.and_eq_true, Bool.or_eq_true, Bool.not_eq_true', Bool.not_eq_false', Bool.and_eq_false_iff, Bool.or_eq_false_iff, Bool.not_not, decide_eq_true_eq, decide_eq_false_iff_not, ne_eq, Decidable.not_not, Bool.decide_eq_true] at H2
    refine Gn ?_
    refine Gn ?_
    refine Gn ?_
    refine Gn ?_
    refine Gn ?_
    refine Gv (V_pick_f rfl rfl rfl) ?_
    refine G_end ?_
    exact JQ_end 6 rfl rfl (by kernel_rfl)
  dsimp only [List.drop]
  refine Gm ?_
  apply G_joinAnd 6 17 23 rfl
  · intro H3
    dsimp only [List.take]
    simp only [Bool.and_eq_true, Bool.or_eq_true, Bool.not_eq_true', Bool.not_eq_false', Bool.and_eq_false_iff, Bool.or_eq_false_iff, Bool.not_not, decide_eq_true_eq, decide_eq_false_iff_not, ne_eq, Decidable.not_not, Bool.decide_eq_true] at H3
    refine Gy (V_fieldAddr rfl rfl (by decide)) ?_
    refine Gy (V_load rfl rfl (Cell.own (.tail _ (.head _)) rfl)) ?_
    refine Gy (V_fieldAddr rfl rfl (by decide)) ?_
    refine Gy (V_load rfl rfl (Cell.own (.head _) rfl)) ?_
    refine G_callv (k := 86) (.mk rfl rfl rfl rfl) rfl rfl (.yes rfl rfl rfl rfl) (SameTokens_call _ _ _ _ _ _ _ _ _ _ (by assumption) (by assumption) (by assumption) (by assumption)) ?_
    refine Gv (V_pick_t rfl rfl rfl) ?_
    refine G_end ?_
    exact JQ_end 6 rfl rfl (by kernel_rfl)
  · intro H4
    dsimp only [List.take]
    simp only [Bool.and_eq_true, Bool.or_eq_true, Bool.not_eq_true', Bool.not_eq_false', Bool.and_eq_false_iff, Bool.or_eq_false_iff, Bool.not_not, decide_eq_true_eq, decide_eq_false_iff_not, ne_eq, Decidable.not_not, Bool.decide_eq_true] at H4
    refine Gn ?_
    refine Gn ?_
    refine Gn ?_
    refine Gn ?_
    refine Gn ?_
    refine Gv (V_pick_f rfl rfl rfl) ?_
    refine G_end ?_
    exact JQ_end 6 rfl rfl (by kernel_rfl)
  dsimp only [List.drop]
  refine Ga ?_
  refine G_end (X_then (G_ret ?_))
  refine G_leaveS (.drop _ (.drop _ (.nil _))) (by exact (.cons (.tmp rfl) (.nil))) rfl ?_ ?_
  · exact (.refl _)
  exact ⟨rfl, rfl⟩
section
variable (E : Env) (L : List Res)
end
end Go.Proofs.YtimiokmgnclggaaGreat
set_option linter.unusedSimpArgs false
set_option linter.unusedVariables false
set_option maxHeartbeats 2000000
set_option maxRecDepth 20000
namespace Go.Proofs.YtimiokmgnclggaaGreat
open Go.RowKit
/-! Stacks as plain data: what they are right for, what they await, the steps. -/
abbrev Spt := Int × Int
def spC (l : List Spt) : List Value := l.flatMap fun s => [.int .i64 s.1, .int .i64 s.2]
theorem spC_len (l : List Spt) : (spC l).length = l.length * 2 := by
  induction l with
  | nil => rfl
  | cons s l ih => simp only [spC, List.flatMap_cons, List.length_append, List.length_cons, List.length_nil] at *; omega
theorem spC_drop : ∀ (l : List Spt) (k : Nat), (spC l).drop (k * 2) = spC (l.drop k) := by
  intro l
  induction l with
  | nil => intro k; simp [spC]
  | cons t l ih =>
    intro k
    cases k with
    | zero => simp
    | succ k =>
      have e : (k + 1) * 2 = k * 2 + 1 + 1 := by omega
      rw [e]
      show (Value.int .i64 t.1 :: .int .i64 t.2 :: spC l : List Value).drop (k * 2 + 1 + 1) = _
      simp only [List.drop_succ_cons, ih k]
theorem spC_get {l : List Spt} {k : Nat} {s : Spt} (h : l[k]? = some s) : ((spC l).drop (k * 2)).take 2 = [.int .i64 s.1, .int .i64 s.2] := by
  rw [spC_drop, List.drop_eq_getElem_cons (List.getElem?_eq_some_iff.1 h).1]
  have := (List.getElem?_eq_some_iff.1 h).2
  rw [this]
  simp [spC]
def leftP (ps : List Pr) (p : Int) : Int := ((ps[p.toNat]?).map (·.1)).getD 0
def rightP (ps : List Pr) (p : Int) : List Int := ((ps[p.toNat]?).map (·.2)).getD []
/-- what must begin the Spot above -/
def nextS (ps : List Pr) (s : Spt) : Int := if 0 < s.2 then ((rightP ps s.1)[(s.2 - 1).toNat]?).getD 0 else -1
abbrev outS (ps : List Pr) (s : Spt) : Prop := s.1 < 0 ∨ (ps.length : Int) ≤ s.1 ∨ s.2 < 0 ∨ ((rightP ps s.1).length : Int) < s.2
def stk (ps : List Pr) : Int → List Spt → Int
  | _, [] => 0
  | want, s :: l => if outS ps s then 2 else if leftP ps s.1 ≠ want then 9 else stk ps (nextS ps s) l
def chkS (g : Gr) (l : List Spt) : Int := if gcheck g ≠ 0 then gcheck g else if 64 < l.length then 21 else stk g.prods g.start l
/-- what is awaited: the kind and the symbol -/
def awS (ps : List Pr) (l : List Spt) : Int × Int := match l.getLast? with
  | none => (0, 0)
  | some s => match (rightP ps s.1)[s.2.toNat]? with
    | none => (3, leftP ps s.1)
    | some x => if 16 ≤ x then (2, x) else (1, x)
def awaitM (g : Gr) (l : List Spt) : Int × Int × Int := if chkS g l ≠ 0 then (0, 0, chkS g l) else ((awS g.prods l).1, (awS g.prods l).2, 0)
theorem stk_in {ps : List Pr} : ∀ (l : List Spt) (w : Int), stk ps w l = 0 → ∀ s, s ∈ l → ¬ outS ps s := by
  intro l
  induction l with
  | nil => intro w _ s h; cases h
  | cons t l ih =>
    intro w h s hs
    simp only [stk] at h
    split at h
    · omega
    · rename_i h1
      split at h
      · omega
      · rcases List.mem_cons.1 hs with rfl | hs
        · exact h1
        · exact ih _ h s hs
theorem chkS_ok {g : Gr} {l : List Spt} (h : chkS g l = 0) : gcheck g = 0 ∧ l.length ≤ 64 ∧ stk g.prods g.start l = 0 := by
  unfold chkS at h
  split at h
  · rename_i h1; exact absurd h h1
  · rename_i h1
    split at h
    · omega
    · exact ⟨by omega, by omega, h⟩
theorem chkS_in {g : Gr} {l : List Spt} (h : chkS g l = 0) : ∀ s, s ∈ l → ¬ outS g.prods s := stk_in l _ (chkS_ok h).2.2
theorem leftP_eq {ps : List Pr} {k : Nat} {p : Pr} (h : ps[k]? = some p) : leftP ps (k : Int) = p.1 := by
  unfold leftP
  rw [Int.toNat_natCast, h]
  rfl
theorem rightP_eq {ps : List Pr} {k : Nat} {p : Pr} (h : ps[k]? = some p) : rightP ps (k : Int) = p.2 := by
  unfold rightP
  rw [Int.toNat_natCast, h]
  rfl
end Go.Proofs.YtimiokmgnclggaaGreat
set_option linter.unusedSimpArgs false
set_option linter.unusedVariables false
set_option maxHeartbeats 2000000
set_option maxRecDepth 20000
namespace Go.Proofs.YtimiokmgnclggaaGreat
open Go.RowKit
/-! The Spots of a stack, one after the other. -/
abbrev spEnc (x : Spt × Nat) : List Value := [.int .i64 (x.2 : Int), .agg #[.int .i64 x.1.1, .int .i64 x.1.2]]
theorem SlE.nSp {E : Env} {a : Option Addr} {n : Nat} {l : List Spt} (h : SlE E 2 a n (spC l)) : n = l.length := by have := h.1; rw [spC_len] at this; omega
section
variable (E : Env) (L : List Res)
theorem iter_spots (c : Nat) (p : Option Addr) (n cc : Nat) (l : List Spt) (hl : SlE E 2 p n (spC l)) (hn : n ≤ 1000) :
    Iter Tryz.prog 108 #[.pointer (some ⟨c, 0, none⟩)] (fun x => (spEnc x).toArray) l.zipIdx E [.blk c (.cells #[.slice p n cc] 31 (0, 0))] := by
  have e1 := hl.nSp
  subst e1
  intro y E0 L0 Inv InvX hE0 h0 hy
  replace hl := hl.mono hE0
  refine CallS.intro (L := .blk c (.cells #[.slice p l.length cc] 31 (0, 0)) :: L0) (l := [.func (.yield y) #[] #[], .pointer (some ⟨c, 0, none⟩)]) _ Tryz.func108 rfl Tryz.ntmps108 rfl ?_
  refine G_seq (G_region ?_)
  refine Gv (V_load rfl rfl (Cell.own1 (.head _))) ?_
  refine Gv (V_lenS rfl rfl) ?_
  refine Gm ?_
  refine G_end (X_then (G_block ?_))
  refine G_loop (α := Nat × Env × List Res) (fun x => [(0, .func (.yield y) #[] #[]), (5, .slice p l.length cc), (6, .int .i64 l.length), (7, .int .i64 x.1)]) (fun x => x.2.1) (fun x => .blk c (.cells #[.slice p l.length cc] 31 (0, 0)) :: x.2.2)
    (fun x => E0.Le x.2.1 ∧ x.1 ≤ l.length ∧ Inv (l.zipIdx.take x.1) x.2.1 x.2.2) (fun x => l.length - x.1) (0, E0, L0)
    ⟨.refl _, Nat.zero_le _, h0⟩ ⟨rfl, rfl, rfl, rfl, trivial⟩ rfl rfl ?_
  rintro ⟨k, E, L⟩ ⟨hE, hk, hI⟩
  simp only at hE hk hI ⊢
  replace hl := hl.mono hE
  by_cases hlt : k < l.length
  · have hx := spC_get (List.getElem?_eq_getElem hlt)
    have hz : l.zipIdx.take (k + 1) = l.zipIdx.take k ++ [(l[k], k)] := by
      rw [List.take_succ_eq_append_getElem (by simpa using hlt)]; simp
    have hpre : l.zipIdx.take k ++ [(l[k], k)] <+: l.zipIdx := by rw [← hz]; exact List.take_prefix _ _
    refine G_seq (G_region ?_)
    refine Gv (V_lss rfl rfl rfl) ?_
    refine G_end (X_then (G_seq ?_))
    refine G_cond_t rfl (decide_eq_true (by omega)) ?_
    refine G_skip (X_then (G_seq (G_block (G_seq (G_region ?_)))))
    refine Gm ?_
    refine Gv (V_idxAddr rfl rfl rfl (SlE.rd (by assumption)) (by omega) (by omega)) ?_
    refine Gv (V_loadAS rfl rfl (SlE.rd (by assumption)) (by assumption) (by simp) (by rfl)) ?_
    (refine G_alloc rfl rfl rfl (.none rfl) ?_; intro b4)
    refine Ga ?_
    refine G_storeA rfl rfl rfl rfl (by simp [Value.oneCell']) rfl (.none rfl) (.head _ _ _) rfl ?_
    refine G_end (X_then (G_seq (G_region ?_)))
    refine Gm ?_
    refine Gm ?_
    refine Gv (V_loadA rfl rfl (Cells.own (.head _)) rfl) ?_
    refine G.drop ?_
    refine G_yield (.mk rfl rfl rfl rfl) rfl rfl (.none rfl) (hy _ (l[k], k) E L [_] hE hpre hI) ?_
    rintro r E' L' hE' ⟨L3, rfl, (⟨rfl, hI'⟩ | ⟨rfl, hI'⟩)⟩
    · refine Gv (V_not rfl rfl) ?_
      refine G_end (X_then ?_)
      refine G_cond_f rfl (by kernel_rfl) ?_
      refine G_skip (X_block (X_then (G_region ?_)))
      refine Gv (V_add_i64 rfl rfl rfl (by omega) (by omega)) ?_
      refine Gm ?_
      refine G_end (X_then ?_)
      exact G_again (k + 1, E', L3) ⟨hE.trans hE', by simp only; omega, by rw [hz]; exact hI'⟩ (by simp only; omega) ⟨rfl, rfl, rfl, rfl, trivial⟩ rfl rfl
    · refine Gv (V_not rfl rfl) ?_
      refine G_end (X_then ?_)
      refine G_cond_t rfl (by kernel_rfl) ?_
      refine G_ret (X_block_ret (X_then_ret (X_then_ret (X_block_ret ?_))))
      exact G_leave_n 0 .nil rfl (hE.trans hE') ⟨[_], L3, rfl, .inr ⟨_, hpre, hI'⟩⟩
  · have hke : k = l.length := by omega
    subst hke
    rw [List.take_of_length_le (by simp)] at hI
    refine G_seq (G_region ?_)
    refine Gv (V_lss rfl rfl rfl) ?_
    refine G_end (X_then (G_seq ?_))
    refine G_cond_f rfl (decide_eq_false (by omega)) ?_
    refine G_exit (X_then_exit (X_then_exit (X_block_hit ?_)))
    exact G_leave_n 0 .nil rfl hE ⟨[_], L, rfl, .inl hI⟩
theorem spots_call (p : Option Addr) (n c : Nat) : CallS Tryz.prog 87 #[.slice p n c] E L (fun r E' L' => ∃ b, r = .func (.func 108) #[] #[.pointer (some ⟨b, 0, none⟩)] ∧ E = E' ∧ L' = .blk b (.cells #[.slice p n c] 31 (0, 0)) :: L) := by
  refine CallS.intro (l := [.slice p n c]) _ Tryz.func87 rfl Tryz.ntmps87 rfl ?_
  refine G_seq (G_region ?_)
  (refine G_box1 rfl rfl rfl rfl rfl (.none rfl) ?_; intro b1)
  refine Ga ?_
  refine G_end (X_then (G_seq (G_region ?_)))
  refine Gv (V_makeFunc rfl rfl rfl) ?_
  refine Ga ?_
  refine G_end (X_then (G_ret ?_))
  refine G_leaveS (.keep _ (.nil _)) (by exact (.cons (.tmp rfl) (.nil))) rfl ?_ ?_
  · exact (.refl _)
  exact ⟨_, ⟨rfl, ⟨rfl, rfl⟩⟩⟩
end
end Go.Proofs.YtimiokmgnclggaaGreat
set_option linter.unusedSimpArgs false
set_option linter.unusedVariables false
set_option maxHeartbeats 2000000
set_option maxRecDepth 20000
namespace Go.Proofs.YtimiokmgnclggaaGreat
open Go.RowKit
/-! stack.Check. -/
theorem wantS_drop {ps : List Pr} {l : List Spt} {k : Nat} {s : Spt} (h : l[k]? = some s) (w : Int) : stk ps w (l.drop k) = if outS ps s then 2 else if leftP ps s.1 ≠ w then 9 else stk ps (nextS ps s) (l.drop (k + 1)) := by
  rw [List.drop_eq_getElem_cons (List.getElem?_eq_some_iff.1 h).1, (List.getElem?_eq_some_iff.1 h).2]
  rfl
section
variable (E : Env) (L : List Res)
theorem SCheck_call (gv : Value) (g : Gr) (hg : GrE E gv g) (hl : Light g) (p : Option Addr) (n c : Nat) (l : List Spt) (hs : SlE E 2 p n (spC l)) (hn : n ≤ 9223372036854775807) : CallV Tryz.prog 51 #[gv, .slice p n c] E L (.int .i64 (chkS g l)) := by
  have en := hs.nSp
  subst en
  have hg0 := hg
  obtain ⟨tp, tc, np, nc, pp, pc, rfl, ht, hn', ⟨rows, hrows, hps, hre⟩, k1, k2, k3⟩ := hg
  have hlen : g.prods.length = rows.length := by rw [← hrows]; simp
  have q3 := hl.p
  unfold chkS
  by_cases h0 : gcheck g ≠ 0
  · rw [if_pos h0]
    have hc := GCheck_call E
    generalize hr : gcheck g = r at h0 ⊢
    refine CallS.toV (CallS.intro (l := [_, _]) _ Tryz.func51 rfl Tryz.ntmps51 rfl ?_)
    refine G_seq (G_region ?_)
    (refine G_boxA rfl rfl rfl rfl (.none rfl) ?_; intro b2)
    (refine G_alloc rfl rfl rfl (.none rfl) ?_; intro b4)
    refine G_end (X_then (G_seq (G_seq (G_region ?_))))
    refine Gv (V_loadA rfl rfl (Cells.own (.tail _ (.head _))) rfl) ?_
    refine G_callv (k := 28) (.mk rfl rfl rfl rfl) rfl rfl (.none rfl) (GCheck_call _ _ _ g hg0 hl) ?_
    rw [hr]
    refine Ga ?_
    refine G_end (X_then (G_seq (G_region ?_)))
    refine Gm ?_
    refine Gv (V_neq rfl rfl rfl) ?_
    refine G_end (X_then ?_)
    refine G_cond_t rfl (decide_eq_true (by omega)) ?_
    refine G_seq (G_region ?_)
    refine Gm ?_
    refine G_store1 rfl rfl rfl rfl rfl rfl (.none rfl) (.head _ _ _) ?_
    refine G_end (X_then (G_ret (X_then_ret ?_)))
    refine G_leaveS (.drop _ (.drop _ (.nil _))) (by exact (.cons (.cell1 rfl (Cell.own1 (.head _))) (.nil))) rfl ?_ ?_
    · exact (.refl _)
    exact ⟨rfl, rfl⟩
  rw [if_neg h0]
  have h1 : gcheck g = 0 := by omega
  by_cases h64 : 64 < l.length
  · rw [if_pos h64]
    refine CallS.toV (CallS.intro (l := [_, _]) _ Tryz.func51 rfl Tryz.ntmps51 rfl ?_)
    refine G_seq (G_region ?_)
    (refine G_boxA rfl rfl rfl rfl (.none rfl) ?_; intro b2)
    (refine G_alloc rfl rfl rfl (.none rfl) ?_; intro b4)
    refine G_end (X_then (G_seq (G_seq (G_region ?_))))
    refine Gv (V_loadA rfl rfl (Cells.own (.tail _ (.head _))) rfl) ?_
    refine G_callv (k := 28) (.mk rfl rfl rfl rfl) rfl rfl (.none rfl) (GCheck_call _ _ _ g hg0 hl) ?_
    rw [h1]
    refine Ga ?_
    refine G_end (X_then (G_seq (G_region ?_)))
    refine Gm ?_
    refine Gv (V_neq rfl rfl rfl) ?_
    refine G_end (X_then ?_)
    refine G_cond_f rfl (by kernel_rfl) ?_
    refine G_skip (X_then (G_seq (G_seq (G_region ?_))))
    refine Gm ?_
    refine Gv (V_lenS rfl rfl) ?_
    refine Gv (V_gtr rfl rfl rfl) ?_
    refine G_end (X_then ?_)
    refine G_cond_t rfl (decide_eq_true (by omega)) ?_
    refine G_seq (G_region ?_)
    refine G_store1 rfl rfl rfl rfl rfl rfl (.none rfl) (.head _ _ _) ?_
    refine G_end (X_then (G_ret (X_then_ret ?_)))
    refine G_leaveS (.drop _ (.drop _ (.nil _))) (by exact (.cons (.cell1 rfl (Cell.own1 (.head _))) (.nil))) rfl ?_ ?_
    · exact (.refl _)
    exact ⟨(by kernel_rfl), rfl⟩
  rw [if_neg h64]
  refine CallS.toV (CallS.intro (l := [_, _]) _ Tryz.func51 rfl Tryz.ntmps51 rfl ?_)
  refine G_seq (G_region ?_)
  (refine G_boxA rfl rfl rfl rfl (.none rfl) ?_; intro b2)
  (refine G_alloc rfl rfl rfl (.none rfl) ?_; intro b4)
  refine G_end (X_then (G_seq (G_seq (G_region ?_))))
  refine Gv (V_loadA rfl rfl (Cells.own (.tail _ (.head _))) rfl) ?_
  refine G_callv (k := 28) (.mk rfl rfl rfl rfl) rfl rfl (.none rfl) (GCheck_call _ _ _ g hg0 hl) ?_
  rw [h1]
  refine Ga ?_
  refine G_end (X_then (G_seq (G_region ?_)))
  refine Gm ?_
  refine Gv (V_neq rfl rfl rfl) ?_
  refine G_end (X_then ?_)
  refine G_cond_f rfl (by kernel_rfl) ?_
  refine G_skip (X_then (G_seq (G_seq (G_region ?_))))
  refine Gm ?_
  refine Gv (V_lenS rfl rfl) ?_
  refine Gv (V_gtr rfl rfl rfl) ?_
  refine G_end (X_then ?_)
  refine G_cond_f rfl (decide_eq_false (by omega)) ?_
  refine G_skip (X_then (G_seq (G_region ?_)))
  refine Gv (V_fieldAddr rfl rfl (by decide)) ?_
  refine Gv (V_load rfl rfl (Cell.own (.tail _ (.head _)) rfl)) ?_
  (refine G_alloc rfl rfl rfl (.none rfl) ?_; intro b6)
  refine G_store1 rfl rfl rfl rfl rfl rfl (.none rfl) (.head _ _ _) ?_
  refine G_end (X_then (G_seq (G_seq (G_region ?_))))
  refine Gm ?_
  refine G_call (k := 87) (.mk rfl rfl rfl rfl) rfl rfl (.none rfl) (spots_call _ _ _ _ _) ?_
  rintro r1 E2 L3 hE4 ⟨z5, ⟨rfl, ⟨rfl, rfl⟩⟩⟩
  replace hs := hs.mono hE4
  replace hg0 := hg0.mono hE4
  replace ht := ht.mono hE4
  replace hn' := hn'.mono hE4
  replace hps := hps.mono hE4
  replace hre := hre.mono hE4
  refine G_end (X_then (G_block ?_))
  refine G_rangeI (σ := Int × Int) (enc := spEnc) rfl (iter_spots E z5 p _ c l hs (by omega)) (fun _ => E)
    (fun v => .blk b6 (.cells #[.int .i64 v.1] 3 (0, 0)) :: .blk b4 (.cells #[.int .i64 v.2] 37 (0, 0)) :: GB b2 g tp tc np nc pp pc :: L)
    (fun pre v => v.2 = 0 ∧ stk g.prods g.start l = stk g.prods v.1 (l.drop pre.length)) (fun q pre v => q = .ret ∧ v.2 = stk g.prods g.start l) (g.start, 0) ⟨rfl, rfl⟩ rfl (.refl _) rfl (fun _ => rfl) ?_ ?_ ?_
  · rintro y D tm fn M pre ⟨⟨sp, sd⟩, j⟩ ⟨w, e⟩ hpre ⟨rfl, hst⟩ hE
    obtain ⟨hx, hj, hlt⟩ := zip_pre hpre
    simp only at hx hj hst
    rw [wantS_drop hx w] at hst
    simp only [List.cons_append]
    dsimp only [spEnc]
    by_cases ho1 : sp < 0
    · rw [if_pos (by simp only [outS]; omega)] at hst
      refine G_region ?_
      (refine G_alloc rfl rfl rfl (.none rfl) ?_; intro b8)
      refine G_storeA rfl rfl rfl rfl (by simp [Value.oneCell']) rfl (.none rfl) (.head _ _ _) rfl ?_
      refine G_end (X_then ?_)
      refine G_begin (.tail _ (.head _ _ _)) ?_
      refine G_block (G_seq (G_seq ?_))
      refine G_draw mixed (by kernel_rfl) ?_
      refine Q_val (V_fieldAddr rfl rfl (by decide)) rfl rfl (.none rfl) ?_
      refine Q_val (V_load rfl rfl (Cell.own (.head _) rfl)) rfl rfl (.none rfl) ?_
      refine Q_val (V_lss rfl rfl rfl) rfl rfl (.none rfl) ?_
      refine Q_val (V_move rfl rfl) rfl rfl (.none rfl) ?_
      refine Q_bool_t 27 rfl (decide_eq_true (by omega)) ?_
      refine Q_stay (.no rfl rfl rfl rfl) rfl rfl ?_
      refine Q_stay (.no rfl rfl rfl rfl) rfl rfl ?_
      refine Q_stay (.no rfl rfl rfl rfl) rfl rfl ?_
      refine Q_stay (.no rfl rfl rfl rfl) rfl rfl ?_
      refine Q_stay (.no rfl rfl rfl rfl) rfl rfl ?_
      refine Q_stay (.no rfl rfl rfl rfl) rfl rfl ?_
      refine Q_val (V_pick_t rfl rfl rfl) rfl rfl (.none rfl) ?_
      refine Q_val (V_move rfl rfl) rfl rfl (.none rfl) ?_
      refine Q_stay (.no rfl rfl rfl rfl) rfl rfl ?_
      refine Q_stay (.no rfl rfl rfl rfl) rfl rfl ?_
      refine Q_stay (.no rfl rfl rfl rfl) rfl rfl ?_
      refine Q_val (V_pick_t rfl rfl rfl) rfl rfl (.none rfl) ?_
      refine Q_val (V_move rfl rfl) rfl rfl (.none rfl) ?_
      refine Q_stay (.no rfl rfl rfl rfl) rfl rfl ?_
      refine Q_stay (.no rfl rfl rfl rfl) rfl rfl ?_
      refine Q_stay (.no rfl rfl rfl rfl) rfl rfl ?_
      refine Q_stay (.no rfl rfl rfl rfl) rfl rfl ?_
      refine Q_stay (.no rfl rfl rfl rfl) rfl rfl ?_
      refine Q_stay (.no rfl rfl rfl rfl) rfl rfl ?_
      refine Q_stay (.no rfl rfl rfl rfl) rfl rfl ?_
      refine Q_stay (.no rfl rfl rfl rfl) rfl rfl ?_
      refine Q_stay (.no rfl rfl rfl rfl) rfl rfl ?_
      refine Q_stay (.no rfl rfl rfl rfl) rfl rfl ?_
      refine Q_stay (.no rfl rfl rfl rfl) rfl rfl ?_
      refine Q_val (V_pick_t rfl rfl rfl) rfl rfl (.none rfl) ?_
      refine Q_end ?_
      refine X_then ?_
      refine G_cond_t rfl rfl ?_
      refine G_seq (G_region ?_)
      refine G_store1 rfl rfl rfl rfl rfl rfl (.none rfl) (.tail _ (.tail _ (.tail _ (.tail _ (.head _ _ _))))) ?_
      refine G_end (X_then (G_ret (X_then_ret (X_block_ret ?_))))
      refine G.drop ?_
      exact G_rRet (w, 2) ⟨rfl, hst.symm⟩ rfl (.refl _) rfl
    by_cases ho2 : (g.prods.length : Int) ≤ sp
    · rw [if_pos (by simp only [outS]; omega)] at hst
      refine G_region ?_
      (refine G_alloc rfl rfl rfl (.none rfl) ?_; intro b8)
      refine G_storeA rfl rfl rfl rfl (by simp [Value.oneCell']) rfl (.none rfl) (.head _ _ _) rfl ?_
      refine G_end (X_then ?_)
      refine G_begin (.tail _ (.head _ _ _)) ?_
      refine G_block (G_seq (G_seq ?_))
      refine G_draw mixed (by kernel_rfl) ?_
      refine Q_val (V_fieldAddr rfl rfl (by decide)) rfl rfl (.none rfl) ?_
      refine Q_val (V_load rfl rfl (Cell.own (.head _) rfl)) rfl rfl (.none rfl) ?_
      refine Q_val (V_lss rfl rfl rfl) rfl rfl (.none rfl) ?_
      refine Q_val (V_move rfl rfl) rfl rfl (.none rfl) ?_
      refine Q_bool_f 27 rfl (decide_eq_false (by omega)) ?_
      refine Q_val (V_fieldAddr rfl rfl (by decide)) rfl rfl (.yes rfl rfl rfl rfl) ?_
      refine Q_val (V_load rfl rfl (Cell.own (.head _) rfl)) rfl rfl (.yes rfl rfl rfl rfl) ?_
      refine Q_val (V_fieldAddr rfl rfl (by decide)) rfl rfl (.yes rfl rfl rfl rfl) ?_
      refine Q_val (V_load rfl rfl (Cell.own (.tail _ (.tail _ (.tail _ (.tail _ (.tail _ (.head _)))))) rfl)) rfl rfl (.yes rfl rfl rfl rfl) ?_
      refine Q_val (V_lenS rfl rfl) rfl rfl (.yes rfl rfl rfl rfl) ?_
      refine Q_val (V_geq rfl rfl rfl) rfl rfl (.yes rfl rfl rfl rfl) ?_
      refine Q_val (V_pick_f rfl rfl rfl) rfl rfl (.none rfl) ?_
      refine Q_val (V_move rfl rfl) rfl rfl (.none rfl) ?_
      refine Q_bool_t 35 rfl (decide_eq_true (by omega)) ?_
      refine Q_stay (.no rfl rfl rfl rfl) rfl rfl ?_
      refine Q_stay (.no rfl rfl rfl rfl) rfl rfl ?_
      refine Q_stay (.no rfl rfl rfl rfl) rfl rfl ?_
      refine Q_val (V_pick_t rfl rfl rfl) rfl rfl (.none rfl) ?_
      refine Q_val (V_move rfl rfl) rfl rfl (.none rfl) ?_
      refine Q_stay (.no rfl rfl rfl rfl) rfl rfl ?_
      refine Q_stay (.no rfl rfl rfl rfl) rfl rfl ?_
      refine Q_stay (.no rfl rfl rfl rfl) rfl rfl ?_
      refine Q_stay (.no rfl rfl rfl rfl) rfl rfl ?_
      refine Q_stay (.no rfl rfl rfl rfl) rfl rfl ?_
      refine Q_stay (.no rfl rfl rfl rfl) rfl rfl ?_
      refine Q_stay (.no rfl rfl rfl rfl) rfl rfl ?_
      refine Q_stay (.no rfl rfl rfl rfl) rfl rfl ?_
      refine Q_stay (.no rfl rfl rfl rfl) rfl rfl ?_
      refine Q_stay (.no rfl rfl rfl rfl) rfl rfl ?_
      refine Q_stay (.no rfl rfl rfl rfl) rfl rfl ?_
      refine Q_val (V_pick_t rfl rfl rfl) rfl rfl (.none rfl) ?_
      refine Q_end ?_
      refine X_then ?_
      refine G_cond_t rfl rfl ?_
      refine G_seq (G_region ?_)
      refine G_store1 rfl rfl rfl rfl rfl rfl (.none rfl) (.tail _ (.tail _ (.tail _ (.tail _ (.head _ _ _))))) ?_
      refine G_end (X_then (G_ret (X_then_ret (X_block_ret ?_))))
      refine G.drop ?_
      exact G_rRet (w, 2) ⟨rfl, hst.symm⟩ rfl (.refl _) rfl
    by_cases ho3 : sd < 0
    · rw [if_pos (by simp only [outS]; omega)] at hst
      refine G_region ?_
      (refine G_alloc rfl rfl rfl (.none rfl) ?_; intro b8)
      refine G_storeA rfl rfl rfl rfl (by simp [Value.oneCell']) rfl (.none rfl) (.head _ _ _) rfl ?_
      refine G_end (X_then ?_)
      refine G_begin (.tail _ (.head _ _ _)) ?_
      refine G_block (G_seq (G_seq ?_))
      refine G_draw mixed (by kernel_rfl) ?_
      refine Q_val (V_fieldAddr rfl rfl (by decide)) rfl rfl (.none rfl) ?_
      refine Q_val (V_load rfl rfl (Cell.own (.head _) rfl)) rfl rfl (.none rfl) ?_
      refine Q_val (V_lss rfl rfl rfl) rfl rfl (.none rfl) ?_
      refine Q_val (V_move rfl rfl) rfl rfl (.none rfl) ?_
      refine Q_bool_f 27 rfl (decide_eq_false (by omega)) ?_
      refine Q_val (V_fieldAddr rfl rfl (by decide)) rfl rfl (.yes rfl rfl rfl rfl) ?_
      refine Q_val (V_load rfl rfl (Cell.own (.head _) rfl)) rfl rfl (.yes rfl rfl rfl rfl) ?_
      refine Q_val (V_fieldAddr rfl rfl (by decide)) rfl rfl (.yes rfl rfl rfl rfl) ?_
      refine Q_val (V_load rfl rfl (Cell.own (.tail _ (.tail _ (.tail _ (.tail _ (.tail _ (.head _)))))) rfl)) rfl rfl (.yes rfl rfl rfl rfl) ?_
      refine Q_val (V_lenS rfl rfl) rfl rfl (.yes rfl rfl rfl rfl) ?_
      refine Q_val (V_geq rfl rfl rfl) rfl rfl (.yes rfl rfl rfl rfl) ?_
      refine Q_val (V_pick_f rfl rfl rfl) rfl rfl (.none rfl) ?_
      refine Q_val (V_move rfl rfl) rfl rfl (.none rfl) ?_
      refine Q_bool_f 35 rfl (decide_eq_false (by omega)) ?_
      refine Q_val (V_fieldAddr rfl rfl (by decide)) rfl rfl (.yes rfl rfl rfl rfl) ?_
      refine Q_val (V_load rfl rfl (Cell.own (.head _) rfl)) rfl rfl (.yes rfl rfl rfl rfl) ?_
      refine Q_val (V_lss rfl rfl rfl) rfl rfl (.yes rfl rfl rfl rfl) ?_
      refine Q_val (V_pick_f rfl rfl rfl) rfl rfl (.none rfl) ?_
      refine Q_val (V_move rfl rfl) rfl rfl (.none rfl) ?_
      refine Q_bool_t 40 rfl (decide_eq_true (by omega)) ?_
      refine Q_stay (.no rfl rfl rfl rfl) rfl rfl ?_
      refine Q_stay (.no rfl rfl rfl rfl) rfl rfl ?_
      refine Q_stay (.no rfl rfl rfl rfl) rfl rfl ?_
      refine Q_stay (.no rfl rfl rfl rfl) rfl rfl ?_
      refine Q_stay (.no rfl rfl rfl rfl) rfl rfl ?_
      refine Q_stay (.no rfl rfl rfl rfl) rfl rfl ?_
      refine Q_stay (.no rfl rfl rfl rfl) rfl rfl ?_
      refine Q_stay (.no rfl rfl rfl rfl) rfl rfl ?_
      refine Q_stay (.no rfl rfl rfl rfl) rfl rfl ?_
      refine Q_stay (.no rfl rfl rfl rfl) rfl rfl ?_
      refine Q_stay (.no rfl rfl rfl rfl) rfl rfl ?_
      refine Q_val (V_pick_t rfl rfl rfl) rfl rfl (.none rfl) ?_
      refine Q_end ?_
      refine X_then ?_
      refine G_cond_t rfl rfl ?_
      refine G_seq (G_region ?_)
      refine G_store1 rfl rfl rfl rfl rfl rfl (.none rfl) (.tail _ (.tail _ (.tail _ (.tail _ (.head _ _ _))))) ?_
      refine G_end (X_then (G_ret (X_then_ret (X_block_ret ?_))))
      refine G.drop ?_
      exact G_rRet (w, 2) ⟨rfl, hst.symm⟩ rfl (.refl _) rfl
    obtain ⟨k, rfl⟩ : ∃ k : Nat, sp = k := ⟨sp.toNat, by omega⟩
    obtain ⟨d, rfl⟩ : ∃ d : Nat, sd = d := ⟨sd.toNat, by omega⟩
    have hk : k < rows.length := by omega
    have hrow := List.getElem?_eq_getElem hk
    have hpk : g.prods[k]? = some rows[k].2.2 := by rw [← hrows, List.getElem?_map, hrow]; rfl
    have hlf := leftP_eq hpk
    have hrt := rightP_eq hpk
    have x1 := prows_left hrow
    have x2 := prows_right hrow
    have x3 := prows_get hrow
    have x4 := hre.get hrow
    have hr8 : rows[k].2.2.2.length ≤ 8 := hl.ps rows[k].2.2 (List.mem_of_getElem? hpk)
    by_cases ho4 : (rows[k].2.2.2.length : Int) < d
    · rw [if_pos (by simp only [outS]; rw [hrt]; omega)] at hst
      refine G_region ?_
      (refine G_alloc rfl rfl rfl (.none rfl) ?_; intro b8)
      refine G_storeA rfl rfl rfl rfl (by simp [Value.oneCell']) rfl (.none rfl) (.head _ _ _) rfl ?_
      refine G_end (X_then ?_)
      refine G_begin (.tail _ (.head _ _ _)) ?_
      refine G_block (G_seq (G_seq ?_))
      refine G_draw mixed (by kernel_rfl) ?_
      refine Q_val (V_fieldAddr rfl rfl (by decide)) rfl rfl (.none rfl) ?_
      refine Q_val (V_load rfl rfl (Cell.own (.head _) rfl)) rfl rfl (.none rfl) ?_
      refine Q_val (V_lss rfl rfl rfl) rfl rfl (.none rfl) ?_
      refine Q_val (V_move rfl rfl) rfl rfl (.none rfl) ?_
      refine Q_bool_f 27 rfl (decide_eq_false (by omega)) ?_
      refine Q_val (V_fieldAddr rfl rfl (by decide)) rfl rfl (.yes rfl rfl rfl rfl) ?_
      refine Q_val (V_load rfl rfl (Cell.own (.head _) rfl)) rfl rfl (.yes rfl rfl rfl rfl) ?_
      refine Q_val (V_fieldAddr rfl rfl (by decide)) rfl rfl (.yes rfl rfl rfl rfl) ?_
      refine Q_val (V_load rfl rfl (Cell.own (.tail _ (.tail _ (.tail _ (.tail _ (.tail _ (.head _)))))) rfl)) rfl rfl (.yes rfl rfl rfl rfl) ?_
      refine Q_val (V_lenS rfl rfl) rfl rfl (.yes rfl rfl rfl rfl) ?_
      refine Q_val (V_geq rfl rfl rfl) rfl rfl (.yes rfl rfl rfl rfl) ?_
      refine Q_val (V_pick_f rfl rfl rfl) rfl rfl (.none rfl) ?_
      refine Q_val (V_move rfl rfl) rfl rfl (.none rfl) ?_
      refine Q_bool_f 35 rfl (decide_eq_false (by omega)) ?_
      refine Q_val (V_fieldAddr rfl rfl (by decide)) rfl rfl (.yes rfl rfl rfl rfl) ?_
      refine Q_val (V_load rfl rfl (Cell.own (.head _) rfl)) rfl rfl (.yes rfl rfl rfl rfl) ?_
      refine Q_val (V_lss rfl rfl rfl) rfl rfl (.yes rfl rfl rfl rfl) ?_
      refine Q_val (V_pick_f rfl rfl rfl) rfl rfl (.none rfl) ?_
      refine Q_val (V_move rfl rfl) rfl rfl (.none rfl) ?_
      refine Q_bool_f 40 rfl (decide_eq_false (by omega)) ?_
      refine Q_val (V_fieldAddr rfl rfl (by decide)) rfl rfl (.yes rfl rfl rfl rfl) ?_
      refine Q_val (V_load rfl rfl (Cell.own (.head _) rfl)) rfl rfl (.yes rfl rfl rfl rfl) ?_
      refine Q_val (V_fieldAddr rfl rfl (by decide)) rfl rfl (.yes rfl rfl rfl rfl) ?_
      refine Q_val (V_load rfl rfl (Cell.own (.tail _ (.tail _ (.tail _ (.tail _ (.tail _ (.head _)))))) rfl)) rfl rfl (.yes rfl rfl rfl rfl) ?_
      refine Q_val (V_fieldAddr rfl rfl (by decide)) rfl rfl (.yes rfl rfl rfl rfl) ?_
      refine Q_val (V_load rfl rfl (Cell.own (.head _) rfl)) rfl rfl (.yes rfl rfl rfl rfl) ?_
      refine Q_val (V_idxAddr rfl rfl rfl (SlE.rd (by assumption)) (by omega) (by omega)) rfl rfl (.yes rfl rfl rfl rfl) ?_
      refine Q_val (V_fieldAddrE rfl rfl (by assumption) (by omega) (by decide)) rfl rfl (.yes rfl rfl rfl rfl) ?_
      refine Q_val (V_loadS rfl rfl (SlE.rd (by assumption)) (by assumption) (by simp)) rfl rfl (.yes rfl rfl rfl rfl) ?_
      refine Q_val (V_lenS rfl rfl) rfl rfl (.yes rfl rfl rfl rfl) ?_
      refine Q_val (V_gtr rfl rfl rfl) rfl rfl (.yes rfl rfl rfl rfl) ?_
      refine Q_val (V_pick_f rfl rfl rfl) rfl rfl (.none rfl) ?_
      refine Q_end ?_
      refine X_then ?_
      refine G_cond_t rfl (decide_eq_true (by omega)) ?_
      refine G_seq (G_region ?_)
      refine G_store1 rfl rfl rfl rfl rfl rfl (.none rfl) (.tail _ (.tail _ (.tail _ (.tail _ (.head _ _ _))))) ?_
      refine G_end (X_then (G_ret (X_then_ret (X_block_ret ?_))))
      refine G.drop ?_
      exact G_rRet (w, 2) ⟨rfl, hst.symm⟩ rfl (.refl _) rfl
    rw [if_neg (by simp only [outS]; rw [hrt]; omega), hlf] at hst
    by_cases hw : rows[k].2.2.1 ≠ w
    · rw [if_pos hw] at hst
      refine G_region ?_
      (refine G_alloc rfl rfl rfl (.none rfl) ?_; intro b8)
      refine G_storeA rfl rfl rfl rfl (by simp [Value.oneCell']) rfl (.none rfl) (.head _ _ _) rfl ?_
      refine G_end (X_then ?_)
      refine G_begin (.tail _ (.head _ _ _)) ?_
      refine G_block (G_seq (G_seq ?_))
      refine G_draw mixed (by kernel_rfl) ?_
      refine Q_val (V_fieldAddr rfl rfl (by decide)) rfl rfl (.none rfl) ?_
      refine Q_val (V_load rfl rfl (Cell.own (.head _) rfl)) rfl rfl (.none rfl) ?_
      refine Q_val (V_lss rfl rfl rfl) rfl rfl (.none rfl) ?_
      refine Q_val (V_move rfl rfl) rfl rfl (.none rfl) ?_
      refine Q_bool_f 27 rfl (decide_eq_false (by omega)) ?_
      refine Q_val (V_fieldAddr rfl rfl (by decide)) rfl rfl (.yes rfl rfl rfl rfl) ?_
      refine Q_val (V_load rfl rfl (Cell.own (.head _) rfl)) rfl rfl (.yes rfl rfl rfl rfl) ?_
      refine Q_val (V_fieldAddr rfl rfl (by decide)) rfl rfl (.yes rfl rfl rfl rfl) ?_
      refine Q_val (V_load rfl rfl (Cell.own (.tail _ (.tail _ (.tail _ (.tail _ (.tail _ (.head _)))))) rfl)) rfl rfl (.yes rfl rfl rfl rfl) ?_
      refine Q_val (V_lenS rfl rfl) rfl rfl (.yes rfl rfl rfl rfl) ?_
      refine Q_val (V_geq rfl rfl rfl) rfl rfl (.yes rfl rfl rfl rfl) ?_
      refine Q_val (V_pick_f rfl rfl rfl) rfl rfl (.none rfl) ?_
      refine Q_val (V_move rfl rfl) rfl rfl (.none rfl) ?_
      refine Q_bool_f 35 rfl (decide_eq_false (by omega)) ?_
      refine Q_val (V_fieldAddr rfl rfl (by decide)) rfl rfl (.yes rfl rfl rfl rfl) ?_
      refine Q_val (V_load rfl rfl (Cell.own (.head _) rfl)) rfl rfl (.yes rfl rfl rfl rfl) ?_
      refine Q_val (V_lss rfl rfl rfl) rfl rfl (.yes rfl rfl rfl rfl) ?_
      refine Q_val (V_pick_f rfl rfl rfl) rfl rfl (.none rfl) ?_
      refine Q_val (V_move rfl rfl) rfl rfl (.none rfl) ?_
      refine Q_bool_f 40 rfl (decide_eq_false (by omega)) ?_
      refine Q_val (V_fieldAddr rfl rfl (by decide)) rfl rfl (.yes rfl rfl rfl rfl) ?_
      refine Q_val (V_load rfl rfl (Cell.own (.head _) rfl)) rfl rfl (.yes rfl rfl rfl rfl) ?_
      refine Q_val (V_fieldAddr rfl rfl (by decide)) rfl rfl (.yes rfl rfl rfl rfl) ?_
      refine Q_val (V_load rfl rfl (Cell.own (.tail _ (.tail _ (.tail _ (.tail _ (.tail _ (.head _)))))) rfl)) rfl rfl (.yes rfl rfl rfl rfl) ?_
      refine Q_val (V_fieldAddr rfl rfl (by decide)) rfl rfl (.yes rfl rfl rfl rfl) ?_
      refine Q_val (V_load rfl rfl (Cell.own (.head _) rfl)) rfl rfl (.yes rfl rfl rfl rfl) ?_
      refine Q_val (V_idxAddr rfl rfl rfl (SlE.rd (by assumption)) (by omega) (by omega)) rfl rfl (.yes rfl rfl rfl rfl) ?_
      refine Q_val (V_fieldAddrE rfl rfl (by assumption) (by omega) (by decide)) rfl rfl (.yes rfl rfl rfl rfl) ?_
      refine Q_val (V_loadS rfl rfl (SlE.rd (by assumption)) (by assumption) (by simp)) rfl rfl (.yes rfl rfl rfl rfl) ?_
      refine Q_val (V_lenS rfl rfl) rfl rfl (.yes rfl rfl rfl rfl) ?_
      refine Q_val (V_gtr rfl rfl rfl) rfl rfl (.yes rfl rfl rfl rfl) ?_
      refine Q_val (V_pick_f rfl rfl rfl) rfl rfl (.none rfl) ?_
      refine Q_end ?_
      refine X_then ?_
      refine G_cond_f rfl (decide_eq_false (by omega)) ?_
      refine G_skip (X_then (G_seq (G_region ?_)))
      refine Gv (V_fieldAddr rfl rfl (by decide)) ?_
      refine Gv (V_load rfl rfl (Cell.own (.tail _ (.tail _ (.tail _ (.tail _ (.tail _ (.head _)))))) rfl)) ?_
      refine Gv (V_fieldAddr rfl rfl (by decide)) ?_
      refine Gv (V_load rfl rfl (Cell.own (.head _) rfl)) ?_
      refine Gv (V_idxAddr rfl rfl rfl (SlE.rd (by assumption)) (by omega) (by omega)) ?_
      refine Gv (V_loadAS rfl rfl (SlE.rd (by assumption)) (by assumption) (by simp) (by rfl)) ?_
      (refine G_alloc rfl rfl rfl (.none rfl) ?_; intro b9)
      refine G_storeA rfl rfl rfl rfl (by simp [Value.oneCell']) rfl (.none rfl) (.head _ _ _) rfl ?_
      refine G_end (X_then (G_seq (G_seq (G_region ?_))))
      refine Gv (V_fieldAddr rfl rfl (by decide)) ?_
      refine Gv (V_load rfl rfl (Cell.own (.head _) rfl)) ?_
      refine Gv (V_load rfl rfl (Cell.own1 (.tail _ (.tail _ (.tail _ (.tail _ (.head _))))))) ?_
      refine Gv (V_neq rfl rfl rfl) ?_
      refine G_end (X_then ?_)
      refine G_cond_t rfl (decide_eq_true (by omega)) ?_
      refine G_seq (G_region ?_)
      refine G_store1 rfl rfl rfl rfl rfl rfl (.none rfl) (.tail _ (.tail _ (.tail _ (.tail _ (.tail _ (.head _ _ _)))))) ?_
      refine G_end (X_then (G_ret (X_then_ret (X_block_ret ?_))))
      refine G.drop (G.drop ?_)
      exact G_rRet (w, 9) ⟨rfl, hst.symm⟩ rfl (.refl _) rfl
    rw [if_neg hw] at hst
    unfold nextS at hst
    rw [hrt] at hst
    by_cases hd0 : 0 < d
    · rw [if_pos (by simp only; omega)] at hst
      obtain ⟨v, hv⟩ : ∃ v, rows[k].2.2.2[((d : Int) - 1).toNat]? = some v := ⟨_, List.getElem?_eq_getElem (l := rows[k].2.2.2) (i := ((d : Int) - 1).toNat) (by omega)⟩
      have x5 := i64s_get hv
      simp only at hst
      rw [hv, Option.getD_some] at hst
      refine G_region ?_
      (refine G_alloc rfl rfl rfl (.none rfl) ?_; intro b8)
      refine G_storeA rfl rfl rfl rfl (by simp [Value.oneCell']) rfl (.none rfl) (.head _ _ _) rfl ?_
      refine G_end (X_then ?_)
      refine G_begin (.tail _ (.head _ _ _)) ?_
      refine G_block (G_seq (G_seq ?_))
      refine G_draw mixed (by kernel_rfl) ?_
      refine Q_val (V_fieldAddr rfl rfl (by decide)) rfl rfl (.none rfl) ?_
      refine Q_val (V_load rfl rfl (Cell.own (.head _) rfl)) rfl rfl (.none rfl) ?_
      refine Q_val (V_lss rfl rfl rfl) rfl rfl (.none rfl) ?_
      refine Q_val (V_move rfl rfl) rfl rfl (.none rfl) ?_
      refine Q_bool_f 27 rfl (decide_eq_false (by omega)) ?_
      refine Q_val (V_fieldAddr rfl rfl (by decide)) rfl rfl (.yes rfl rfl rfl rfl) ?_
      refine Q_val (V_load rfl rfl (Cell.own (.head _) rfl)) rfl rfl (.yes rfl rfl rfl rfl) ?_
      refine Q_val (V_fieldAddr rfl rfl (by decide)) rfl rfl (.yes rfl rfl rfl rfl) ?_
      refine Q_val (V_load rfl rfl (Cell.own (.tail _ (.tail _ (.tail _ (.tail _ (.tail _ (.head _)))))) rfl)) rfl rfl (.yes rfl rfl rfl rfl) ?_
      refine Q_val (V_lenS rfl rfl) rfl rfl (.yes rfl rfl rfl rfl) ?_
      refine Q_val (V_geq rfl rfl rfl) rfl rfl (.yes rfl rfl rfl rfl) ?_
      refine Q_val (V_pick_f rfl rfl rfl) rfl rfl (.none rfl) ?_
      refine Q_val (V_move rfl rfl) rfl rfl (.none rfl) ?_
      refine Q_bool_f 35 rfl (decide_eq_false (by omega)) ?_
      refine Q_val (V_fieldAddr rfl rfl (by decide)) rfl rfl (.yes rfl rfl rfl rfl) ?_
      refine Q_val (V_load rfl rfl (Cell.own (.head _) rfl)) rfl rfl (.yes rfl rfl rfl rfl) ?_
      refine Q_val (V_lss rfl rfl rfl) rfl rfl (.yes rfl rfl rfl rfl) ?_
      refine Q_val (V_pick_f rfl rfl rfl) rfl rfl (.none rfl) ?_
      refine Q_val (V_move rfl rfl) rfl rfl (.none rfl) ?_
      refine Q_bool_f 40 rfl (decide_eq_false (by omega)) ?_
      refine Q_val (V_fieldAddr rfl rfl (by decide)) rfl rfl (.yes rfl rfl rfl rfl) ?_
      refine Q_val (V_load rfl rfl (Cell.own (.head _) rfl)) rfl rfl (.yes rfl rfl rfl rfl) ?_
      refine Q_val (V_fieldAddr rfl rfl (by decide)) rfl rfl (.yes rfl rfl rfl rfl) ?_
      refine Q_val (V_load rfl rfl (Cell.own (.tail _ (.tail _ (.tail _ (.tail _ (.tail _ (.head _)))))) rfl)) rfl rfl (.yes rfl rfl rfl rfl) ?_
      refine Q_val (V_fieldAddr rfl rfl (by decide)) rfl rfl (.yes rfl rfl rfl rfl) ?_
      refine Q_val (V_load rfl rfl (Cell.own (.head _) rfl)) rfl rfl (.yes rfl rfl rfl rfl) ?_
      refine Q_val (V_idxAddr rfl rfl rfl (SlE.rd (by assumption)) (by omega) (by omega)) rfl rfl (.yes rfl rfl rfl rfl) ?_
      refine Q_val (V_fieldAddrE rfl rfl (by assumption) (by omega) (by decide)) rfl rfl (.yes rfl rfl rfl rfl) ?_
      refine Q_val (V_loadS rfl rfl (SlE.rd (by assumption)) (by assumption) (by simp)) rfl rfl (.yes rfl rfl rfl rfl) ?_
      refine Q_val (V_lenS rfl rfl) rfl rfl (.yes rfl rfl rfl rfl) ?_
      refine Q_val (V_gtr rfl rfl rfl) rfl rfl (.yes rfl rfl rfl rfl) ?_
      refine Q_val (V_pick_f rfl rfl rfl) rfl rfl (.none rfl) ?_
      refine Q_end ?_
      refine X_then ?_
      refine G_cond_f rfl (decide_eq_false (by omega)) ?_
      refine G_skip (X_then (G_seq (G_region ?_)))
      refine Gv (V_fieldAddr rfl rfl (by decide)) ?_
      refine Gv (V_load rfl rfl (Cell.own (.tail _ (.tail _ (.tail _ (.tail _ (.tail _ (.head _)))))) rfl)) ?_
      refine Gv (V_fieldAddr rfl rfl (by decide)) ?_
      refine Gv (V_load rfl rfl (Cell.own (.head _) rfl)) ?_
      refine Gv (V_idxAddr rfl rfl rfl (SlE.rd (by assumption)) (by omega) (by omega)) ?_
      refine Gv (V_loadAS rfl rfl (SlE.rd (by assumption)) (by assumption) (by simp) (by rfl)) ?_
      (refine G_alloc rfl rfl rfl (.none rfl) ?_; intro b9)
      refine G_storeA rfl rfl rfl rfl (by simp [Value.oneCell']) rfl (.none rfl) (.head _ _ _) rfl ?_
      refine G_end (X_then (G_seq (G_seq (G_region ?_))))
      refine Gv (V_fieldAddr rfl rfl (by decide)) ?_
      refine Gv (V_load rfl rfl (Cell.own (.head _) rfl)) ?_
      refine Gv (V_load rfl rfl (Cell.own1 (.tail _ (.tail _ (.tail _ (.tail _ (.head _))))))) ?_
      refine Gv (V_neq rfl rfl rfl) ?_
      refine G_end (X_then ?_)
      refine G_cond_f rfl (decide_eq_false (by omega)) ?_
      refine G_skip (X_then (G_seq (G_region ?_)))
      refine G_store1 rfl rfl rfl rfl rfl rfl (.none rfl) (.tail _ (.tail _ (.tail _ (.tail _ (.head _ _ _))))) ?_
      refine G_end (X_then (G_seq (G_region ?_)))
      refine Gv (V_fieldAddr rfl rfl (by decide)) ?_
      refine Gv (V_load rfl rfl (Cell.own (.tail _ (.head _)) rfl)) ?_
      refine Gv (V_gtr rfl rfl rfl) ?_
      refine G_end (X_then ?_)
      refine G_cond_t rfl (decide_eq_true (by omega)) ?_
      refine G_region ?_
      refine Gv (V_fieldAddr rfl rfl (by decide)) ?_
      refine Gv (V_load rfl rfl (Cell.own (.head _) rfl)) ?_
      refine Gv (V_fieldAddr rfl rfl (by decide)) ?_
      refine Gv (V_load rfl rfl (Cell.own (.tail _ (.head _)) rfl)) ?_
      refine Gv (V_sub_i64 rfl rfl rfl (by omega) (by omega)) ?_
      refine Gv (V_idxAddr rfl rfl rfl (SlE.rd (by assumption)) (by omega) (by omega)) ?_
      refine Gv (V_loadS rfl rfl (SlE.rd (by assumption)) (by assumption) (by simp)) ?_
      refine G_store1 rfl rfl rfl rfl rfl rfl (.none rfl) (.tail _ (.tail _ (.tail _ (.tail _ (.head _ _ _))))) ?_
      refine G_end (X_block ?_)
      refine G.drop (G.drop ?_)
      exact G_rEnd (v, 0) ⟨rfl, by simp only [List.length_append, List.length_singleton]; exact hst⟩ rfl (.refl _) rfl
    · rw [if_neg (by simp only; omega)] at hst
      refine G_region ?_
      (refine G_alloc rfl rfl rfl (.none rfl) ?_; intro b8)
      refine G_storeA rfl rfl rfl rfl (by simp [Value.oneCell']) rfl (.none rfl) (.head _ _ _) rfl ?_
      refine G_end (X_then ?_)
      refine G_begin (.tail _ (.head _ _ _)) ?_
      refine G_block (G_seq (G_seq ?_))
      refine G_draw mixed (by kernel_rfl) ?_
      refine Q_val (V_fieldAddr rfl rfl (by decide)) rfl rfl (.none rfl) ?_
      refine Q_val (V_load rfl rfl (Cell.own (.head _) rfl)) rfl rfl (.none rfl) ?_
      refine Q_val (V_lss rfl rfl rfl) rfl rfl (.none rfl) ?_
      refine Q_val (V_move rfl rfl) rfl rfl (.none rfl) ?_
      refine Q_bool_f 27 rfl (decide_eq_false (by omega)) ?_
      refine Q_val (V_fieldAddr rfl rfl (by decide)) rfl rfl (.yes rfl rfl rfl rfl) ?_
      refine Q_val (V_load rfl rfl (Cell.own (.head _) rfl)) rfl rfl (.yes rfl rfl rfl rfl) ?_
      refine Q_val (V_fieldAddr rfl rfl (by decide)) rfl rfl (.yes rfl rfl rfl rfl) ?_
      refine Q_val (V_load rfl rfl (Cell.own (.tail _ (.tail _ (.tail _ (.tail _ (.tail _ (.head _)))))) rfl)) rfl rfl (.yes rfl rfl rfl rfl) ?_
      refine Q_val (V_lenS rfl rfl) rfl rfl (.yes rfl rfl rfl rfl) ?_
      refine Q_val (V_geq rfl rfl rfl) rfl rfl (.yes rfl rfl rfl rfl) ?_
      refine Q_val (V_pick_f rfl rfl rfl) rfl rfl (.none rfl) ?_
      refine Q_val (V_move rfl rfl) rfl rfl (.none rfl) ?_
      refine Q_bool_f 35 rfl (decide_eq_false (by omega)) ?_
      refine Q_val (V_fieldAddr rfl rfl (by decide)) rfl rfl (.yes rfl rfl rfl rfl) ?_
      refine Q_val (V_load rfl rfl (Cell.own (.head _) rfl)) rfl rfl (.yes rfl rfl rfl rfl) ?_
      refine Q_val (V_lss rfl rfl rfl) rfl rfl (.yes rfl rfl rfl rfl) ?_
      refine Q_val (V_pick_f rfl rfl rfl) rfl rfl (.none rfl) ?_
      refine Q_val (V_move rfl rfl) rfl rfl (.none rfl) ?_
      refine Q_bool_f 40 rfl (decide_eq_false (by omega)) ?_
      refine Q_val (V_fieldAddr rfl rfl (by decide)) rfl rfl (.yes rfl rfl rfl rfl) ?_
      refine Q_val (V_load rfl rfl (Cell.own (.head _) rfl)) rfl rfl (.yes rfl rfl rfl rfl) ?_
      refine Q_val (V_fieldAddr rfl rfl (by decide)) rfl rfl (.yes rfl rfl rfl rfl) ?_
      refine Q_val (V_load rfl rfl (Cell.own (.tail _ (.tail _ (.tail _ (.tail _ (.tail _ (.head _)))))) rfl)) rfl rfl (.yes rfl rfl rfl rfl) ?_
      refine Q_val (V_fieldAddr rfl rfl (by decide)) rfl rfl (.yes rfl rfl rfl rfl) ?_
      refine Q_val (V_load rfl rfl (Cell.own (.head _) rfl)) rfl rfl (.yes rfl rfl rfl rfl) ?_
      refine Q_val (V_idxAddr rfl rfl rfl (SlE.rd (by assumption)) (by omega) (by omega)) rfl rfl (.yes rfl rfl rfl rfl) ?_
      refine Q_val (V_fieldAddrE rfl rfl (by assumption) (by omega) (by decide)) rfl rfl (.yes rfl rfl rfl rfl) ?_
      refine Q_val (V_loadS rfl rfl (SlE.rd (by assumption)) (by assumption) (by simp)) rfl rfl (.yes rfl rfl rfl rfl) ?_
      refine Q_val (V_lenS rfl rfl) rfl rfl (.yes rfl rfl rfl rfl) ?_
      refine Q_val (V_gtr rfl rfl rfl) rfl rfl (.yes rfl rfl rfl rfl) ?_
      refine Q_val (V_pick_f rfl rfl rfl) rfl rfl (.none rfl) ?_
      refine Q_end ?_
      refine X_then ?_
      refine G_cond_f rfl (decide_eq_false (by omega)) ?_
      refine G_skip (X_then (G_seq (G_region ?_)))
      refine Gv (V_fieldAddr rfl rfl (by decide)) ?_
      refine Gv (V_load rfl rfl (Cell.own (.tail _ (.tail _ (.tail _ (.tail _ (.tail _ (.head _)))))) rfl)) ?_
      refine Gv (V_fieldAddr rfl rfl (by decide)) ?_
      refine Gv (V_load rfl rfl (Cell.own (.head _) rfl)) ?_
      refine Gv (V_idxAddr rfl rfl rfl (SlE.rd (by assumption)) (by omega) (by omega)) ?_
      refine Gv (V_loadAS rfl rfl (SlE.rd (by assumption)) (by assumption) (by simp) (by rfl)) ?_
      (refine G_alloc rfl rfl rfl (.none rfl) ?_; intro b9)
      refine G_storeA rfl rfl rfl rfl (by simp [Value.oneCell']) rfl (.none rfl) (.head _ _ _) rfl ?_
      refine G_end (X_then (G_seq (G_seq (G_region ?_))))
      refine Gv (V_fieldAddr rfl rfl (by decide)) ?_
      refine Gv (V_load rfl rfl (Cell.own (.head _) rfl)) ?_
      refine Gv (V_load rfl rfl (Cell.own1 (.tail _ (.tail _ (.tail _ (.tail _ (.head _))))))) ?_
      refine Gv (V_neq rfl rfl rfl) ?_
      refine G_end (X_then ?_)
      refine G_cond_f rfl (decide_eq_false (by omega)) ?_
      refine G_skip (X_then (G_seq (G_region ?_)))
      refine G_store1 rfl rfl rfl rfl rfl rfl (.none rfl) (.tail _ (.tail _ (.tail _ (.tail _ (.head _ _ _))))) ?_
      refine G_end (X_then (G_seq (G_region ?_)))
      refine Gv (V_fieldAddr rfl rfl (by decide)) ?_
      refine Gv (V_load rfl rfl (Cell.own (.tail _ (.head _)) rfl)) ?_
      refine Gv (V_gtr rfl rfl rfl) ?_
      refine G_end (X_then ?_)
      refine G_cond_f rfl (decide_eq_false (by omega)) ?_
      refine G_skip (X_block ?_)
      refine G.drop (G.drop ?_)
      exact G_rEnd (-1, 0) ⟨rfl, by simp only [List.length_append, List.length_singleton]; exact hst⟩ rfl (.refl _) rfl
  · rintro D ⟨w, e⟩ ⟨rfl, hst⟩ hE
    rw [hst, List.length_zipIdx, List.drop_length]
    refine X_block (X_then (G_seq (G_region ?_)))
    refine G_store1 rfl rfl rfl rfl rfl rfl (.none rfl) (.tail _ (.tail _ (.head _ _ _))) ?_
    refine G_end (X_then (G_ret ?_))
    refine G_leave_ms [D] ?_
    refine G_leaveS (.drop _ (.drop _ (.drop _ (.nil _)))) (by exact (.cons (.cell1 rfl (Cell.own1 (.tail _ (.head _)))) (.nil))) rfl ?_ ?_
    · exact (.refl _)
    exact ⟨rfl, rfl⟩
  · rintro D q pre ⟨w, e⟩ hpre ⟨rfl, rfl⟩ hE
    refine G_ret (X_block_ret (X_then_ret ?_))
    refine G_leave_ms [D] ?_
    refine G_leaveS (.drop _ (.drop _ (.drop _ (.nil _)))) (by exact (.cons (.cell1 rfl (Cell.own1 (.tail _ (.head _)))) (.nil))) rfl ?_ ?_
    · exact (.refl _)
    exact ⟨rfl, rfl⟩
end
end Go.Proofs.YtimiokmgnclggaaGreat
set_option linter.unusedSimpArgs false
set_option linter.unusedVariables false
set_option maxHeartbeats 2000000
set_option maxRecDepth 20000
namespace Go.Proofs.YtimiokmgnclggaaGreat
open Go.RowKit
/-! What a stack awaits. -/
theorem awS_top {ps : List Pr} {l : List Spt} {k d : Nat} {q : Pr} (hq : ps[k]? = some q) : awS ps (l ++ [((k : Int), (d : Int))]) = match q.2[d]? with
    | none => (3, q.1)
    | some x => if 16 ≤ x then (2, x) else (1, x) := by
  unfold awS
  rw [List.getLast?_concat]
  simp only [rightP_eq hq, leftP_eq hq, Int.toNat_natCast]
  all_goals (cases q.2[d]? <;> rfl)
section
variable (E : Env) (L : List Res)
theorem kind_call (a : Int) (h : 0 ≤ a ∧ a ≤ 3) : CallV Tryz.prog 53 #[.int .i64 a] E L (.int .i64 a) := by
  have : a = 0 ∨ a = 1 ∨ a = 2 ∨ a = 3 := by omega
  rcases this with rfl | rfl | rfl | rfl
  · refine CallS.toV (CallS.intro (l := [_]) _ Tryz.func53 rfl Tryz.ntmps53 rfl ?_)
    refine G_seq (G_region ?_)
    refine Ga ?_
    refine G_end (X_then (G_seq (G_region ?_)))
    refine Gv (V_buildArr rfl rfl (by simp [fillS, setLs, setL, Value.cells]; rfl)) ?_
    refine Gm ?_
    refine Gv (V_idxArr rfl rfl rfl (by omega) (by omega) rfl) ?_
    refine Ga ?_
    refine G_end (X_then (G_ret ?_))
    refine G_leaveS (.nil _) (by exact (.cons (.tmp rfl) (.nil))) rfl ?_ ?_
    · exact (.refl _)
    exact ⟨(by kernel_rfl), rfl⟩
  · refine CallS.toV (CallS.intro (l := [_]) _ Tryz.func53 rfl Tryz.ntmps53 rfl ?_)
    refine G_seq (G_region ?_)
    refine Ga ?_
    refine G_end (X_then (G_seq (G_region ?_)))
    refine Gv (V_buildArr rfl rfl (by simp [fillS, setLs, setL, Value.cells]; rfl)) ?_
    refine Gm ?_
    refine Gv (V_idxArr rfl rfl rfl (by omega) (by omega) rfl) ?_
    refine Ga ?_
    refine G_end (X_then (G_ret ?_))
    refine G_leaveS (.nil _) (by exact (.cons (.tmp rfl) (.nil))) rfl ?_ ?_
    · exact (.refl _)
    exact ⟨(by kernel_rfl), rfl⟩
  · refine CallS.toV (CallS.intro (l := [_]) _ Tryz.func53 rfl Tryz.ntmps53 rfl ?_)
    refine G_seq (G_region ?_)
    refine Ga ?_
    refine G_end (X_then (G_seq (G_region ?_)))
    refine Gv (V_buildArr rfl rfl (by simp [fillS, setLs, setL, Value.cells]; rfl)) ?_
    refine Gm ?_
    refine Gv (V_idxArr rfl rfl rfl (by omega) (by omega) rfl) ?_
    refine Ga ?_
    refine G_end (X_then (G_ret ?_))
    refine G_leaveS (.nil _) (by exact (.cons (.tmp rfl) (.nil))) rfl ?_ ?_
    · exact (.refl _)
    exact ⟨(by kernel_rfl), rfl⟩
  · refine CallS.toV (CallS.intro (l := [_]) _ Tryz.func53 rfl Tryz.ntmps53 rfl ?_)
    refine G_seq (G_region ?_)
    refine Ga ?_
    refine G_end (X_then (G_seq (G_region ?_)))
    refine Gv (V_buildArr rfl rfl (by simp [fillS, setLs, setL, Value.cells]; rfl)) ?_
    refine Gm ?_
    refine Gv (V_idxArr rfl rfl rfl (by omega) (by omega) rfl) ?_
    refine Ga ?_
    refine G_end (X_then (G_ret ?_))
    refine G_leaveS (.nil _) (by exact (.cons (.tmp rfl) (.nil))) rfl ?_ ?_
    · exact (.refl _)
    exact ⟨(by kernel_rfl), rfl⟩
theorem awaits_call (gv : Value) (g : Gr) (hg : GrE E gv g) (hl : Light g) (p : Option Addr) (n c : Nat) (l : List Spt) (hs : SlE E 2 p n (spC l)) (hn : n ≤ 64) (hin : ∀ s, s ∈ l → ¬ outS g.prods s) :
    CallV Tryz.prog 52 #[gv, .slice p n c] E L (.tuple #[.int .i64 (awS g.prods l).1, .int .i64 (awS g.prods l).2]) := by
  have en := hs.nSp
  obtain ⟨tp, tc, np, nc, pp, pc, rfl, ht, hn', ⟨rows, hrows, hps, hre⟩, k1, k2, k3⟩ := hg
  have hlen : g.prods.length = rows.length := by rw [← hrows]; simp
  have q3 := hl.p
  rcases List.eq_nil_or_concat l with rfl | ⟨l', s, rfl⟩
  · obtain rfl : n = 0 := en
    refine CallS.toV (CallS.intro (l := [_, _]) _ Tryz.func52 rfl Tryz.ntmps52 rfl ?_)
    refine G_seq (G_region ?_)
    (refine G_boxA rfl rfl rfl rfl (.none rfl) ?_; intro b2)
    refine Ga ?_
    refine Ga ?_
    refine G_end (X_then (G_seq (G_seq (G_region ?_))))
    refine Gm ?_
    refine Gv (V_lenS rfl rfl) ?_
    refine Gv (V_eql rfl rfl rfl) ?_
    refine G_end (X_then ?_)
    refine G_cond_t rfl (by kernel_rfl) ?_
    refine G_seq (G_region ?_)
    refine Ga ?_
    refine Ga ?_
    refine G_end (X_then (G_ret (X_then_ret ?_)))
    refine G_leaveS (.drop _ (.nil _)) (by exact (.cons (.tmp rfl) (.cons (.tmp rfl) (.nil)))) rfl ?_ ?_
    · exact (.refl _)
    exact ⟨rfl, rfl⟩
  rw [List.concat_eq_append] at *
  obtain ⟨sp, sd⟩ := s
  have ho := hin (sp, sd) (by simp)
  simp only [outS, not_or, Int.not_lt, Int.not_le] at ho
  obtain ⟨ho1, ho2, ho3, ho4⟩ := ho
  obtain ⟨k, rfl⟩ : ∃ k : Nat, sp = k := ⟨sp.toNat, by omega⟩
  obtain ⟨d, rfl⟩ : ∃ d : Nat, sd = d := ⟨sd.toNat, by omega⟩
  have hk : k < rows.length := by omega
  have hrow := List.getElem?_eq_getElem hk
  have hpk : g.prods[k]? = some rows[k].2.2 := by rw [← hrows, List.getElem?_map, hrow]; rfl
  have hrt := rightP_eq hpk
  rw [hrt] at ho4
  have x1 := prows_left hrow
  have x2 := prows_right hrow
  have x3 := prows_get hrow
  have x4 := hre.get hrow
  have hr8 : rows[k].2.2.2.length ≤ 8 := hl.ps rows[k].2.2 (List.mem_of_getElem? hpk)
  rw [awS_top hpk]
  obtain rfl : n = l'.length + 1 := by rw [en, List.length_append]; rfl
  have htop : (l' ++ [((k : Int), (d : Int))])[l'.length]? = some ((k : Int), (d : Int)) := by simp
  have x6 : ((spC (l' ++ [((k : Int), (d : Int))])).drop ((((l'.length + 1 : Nat) : Int) - 1).toNat * 2)).take 2 = [.int .i64 (k : Int), .int .i64 (d : Int)] := by
    rw [show (((l'.length + 1 : Nat) : Int) - 1).toNat = l'.length by omega]
    exact spC_get htop
  by_cases hd : d = rows[k].2.2.2.length
  · rw [List.getElem?_eq_none (by omega)]
    refine CallS.toV (CallS.intro (l := [_, _]) _ Tryz.func52 rfl Tryz.ntmps52 rfl ?_)
    refine G_seq (G_region ?_)
    (refine G_boxA rfl rfl rfl rfl (.none rfl) ?_; intro b2)
    refine Ga ?_
    refine Ga ?_
    refine G_end (X_then (G_seq (G_seq (G_region ?_))))
    refine Gm ?_
    refine Gv (V_lenS rfl rfl) ?_
    refine Gv (V_eql rfl rfl rfl) ?_
    refine G_end (X_then ?_)
    refine G_cond_f rfl (decide_eq_false (by omega)) ?_
    refine G_skip (X_then (G_seq (G_region ?_)))
    refine Gm ?_
    refine Gm ?_
    refine Gv (V_lenS rfl rfl) ?_
    refine Gv (V_sub_i64 rfl rfl rfl (by omega) (by omega)) ?_
    refine Gv (V_idxAddr rfl rfl rfl (SlE.rd (by assumption)) (by omega) (by omega)) ?_
    refine Gv (V_loadAS rfl rfl (SlE.rd (by assumption)) (by assumption) (by simp) (by rfl)) ?_
    (refine G_alloc rfl rfl rfl (.none rfl) ?_; intro b6)
    refine G_storeA rfl rfl rfl rfl (by simp [Value.oneCell']) rfl (.none rfl) (.head _ _ _) rfl ?_
    refine G_end (X_then (G_seq (G_region ?_)))
    refine Gv (V_fieldAddr rfl rfl (by decide)) ?_
    refine Gv (V_load rfl rfl (Cell.own (.tail _ (.head _)) rfl)) ?_
    refine Gv (V_fieldAddr rfl rfl (by decide)) ?_
    refine Gv (V_load rfl rfl (Cell.own (.head _) rfl)) ?_
    refine Gv (V_idxAddr rfl rfl rfl (SlE.rd (by assumption)) (by omega) (by omega)) ?_
    refine Gv (V_loadAS rfl rfl (SlE.rd (by assumption)) (by assumption) (by simp) (by rfl)) ?_
    (refine G_alloc rfl rfl rfl (.none rfl) ?_; intro b7)
    refine G_storeA rfl rfl rfl rfl (by simp [Value.oneCell']) rfl (.none rfl) (.head _ _ _) rfl ?_
    refine G_end (X_then (G_seq (G_seq (G_region ?_))))
    refine Gv (V_fieldAddr rfl rfl (by decide)) ?_
    refine Gv (V_load rfl rfl (Cell.own (.tail _ (.head _)) rfl)) ?_
    refine Gv (V_fieldAddr rfl rfl (by decide)) ?_
    refine Gv (V_load rfl rfl (Cell.own (.head _) rfl)) ?_
    refine Gv (V_lenS rfl rfl) ?_
    refine Gv (V_eql rfl rfl rfl) ?_
    refine G_end (X_then ?_)
    refine G_cond_t rfl (decide_eq_true (by omega)) ?_
    refine G_seq ?_
    refine G_draw mixed (by kernel_rfl) ?_
    refine Q_val (V_fieldAddr rfl rfl (by decide)) rfl rfl (.none rfl) ?_
    refine Q_val (V_load rfl rfl (Cell.own (.head _) rfl)) rfl rfl (.none rfl) ?_
    refine Q_val (V_assign rfl rfl) rfl rfl (.none rfl) ?_
    refine Q_val (V_assign rfl rfl) rfl rfl (.none rfl) ?_
    refine Q_end ?_
    refine X_then (G_ret (X_then_ret ?_))
    refine G_leaveS (.drop _ (.drop _ (.drop _ (.nil _)))) (by exact (.cons (.tmp rfl) (.cons (.tmp rfl) (.nil)))) rfl ?_ ?_
    · exact (.refl _)
    exact ⟨rfl, rfl⟩
  · obtain ⟨v, hv⟩ : ∃ v, rows[k].2.2.2[d]? = some v := ⟨_, List.getElem?_eq_getElem (l := rows[k].2.2.2) (i := d) (by omega)⟩
    have x5 := i64s_get hv
    rw [hv]
    simp only
    by_cases h16 : 16 ≤ v
    · rw [if_pos h16]
      refine CallS.toV (CallS.intro (l := [_, _]) _ Tryz.func52 rfl Tryz.ntmps52 rfl ?_)
      refine G_seq (G_region ?_)
      (refine G_boxA rfl rfl rfl rfl (.none rfl) ?_; intro b2)
      refine Ga ?_
      refine Ga ?_
      refine G_end (X_then (G_seq (G_seq (G_region ?_))))
      refine Gm ?_
      refine Gv (V_lenS rfl rfl) ?_
      refine Gv (V_eql rfl rfl rfl) ?_
      refine G_end (X_then ?_)
      refine G_cond_f rfl (decide_eq_false (by omega)) ?_
      refine G_skip (X_then (G_seq (G_region ?_)))
      refine Gm ?_
      refine Gm ?_
      refine Gv (V_lenS rfl rfl) ?_
      refine Gv (V_sub_i64 rfl rfl rfl (by omega) (by omega)) ?_
      refine Gv (V_idxAddr rfl rfl rfl (SlE.rd (by assumption)) (by omega) (by omega)) ?_
      refine Gv (V_loadAS rfl rfl (SlE.rd (by assumption)) (by assumption) (by simp) (by rfl)) ?_
      (refine G_alloc rfl rfl rfl (.none rfl) ?_; intro b6)
      refine G_storeA rfl rfl rfl rfl (by simp [Value.oneCell']) rfl (.none rfl) (.head _ _ _) rfl ?_
      refine G_end (X_then (G_seq (G_region ?_)))
      refine Gv (V_fieldAddr rfl rfl (by decide)) ?_
      refine Gv (V_load rfl rfl (Cell.own (.tail _ (.head _)) rfl)) ?_
      refine Gv (V_fieldAddr rfl rfl (by decide)) ?_
      refine Gv (V_load rfl rfl (Cell.own (.head _) rfl)) ?_
      refine Gv (V_idxAddr rfl rfl rfl (SlE.rd (by assumption)) (by omega) (by omega)) ?_
      refine Gv (V_loadAS rfl rfl (SlE.rd (by assumption)) (by assumption) (by simp) (by rfl)) ?_
      (refine G_alloc rfl rfl rfl (.none rfl) ?_; intro b7)
      refine G_storeA rfl rfl rfl rfl (by simp [Value.oneCell']) rfl (.none rfl) (.head _ _ _) rfl ?_
      refine G_end (X_then (G_seq (G_seq (G_region ?_))))
      refine Gv (V_fieldAddr rfl rfl (by decide)) ?_
      refine Gv (V_load rfl rfl (Cell.own (.tail _ (.head _)) rfl)) ?_
      refine Gv (V_fieldAddr rfl rfl (by decide)) ?_
      refine Gv (V_load rfl rfl (Cell.own (.head _) rfl)) ?_
      refine Gv (V_lenS rfl rfl) ?_
      refine Gv (V_eql rfl rfl rfl) ?_
      refine G_end (X_then ?_)
      refine G_cond_f rfl (decide_eq_false (by omega)) ?_
      refine G_skip (X_then (G_seq (G_region ?_)))
      refine Gv (V_fieldAddr rfl rfl (by decide)) ?_
      refine Gv (V_load rfl rfl (Cell.own (.head _) rfl)) ?_
      refine Gv (V_fieldAddr rfl rfl (by decide)) ?_
      refine Gv (V_load rfl rfl (Cell.own (.tail _ (.head _)) rfl)) ?_
      refine Gv (V_idxAddr rfl rfl rfl (SlE.rd (by assumption)) (by omega) (by omega)) ?_
      refine Gv (V_loadS rfl rfl (SlE.rd (by assumption)) (by assumption) (by simp)) ?_
      refine Ga ?_
      refine G_end (X_then (G_seq (G_seq (G_region ?_))))
      refine Gm ?_
      refine Gv (V_geq rfl rfl rfl) ?_
      refine G_end (X_then ?_)
      refine G_cond_t rfl (decide_eq_true (by omega)) ?_
      refine G_seq (G_region ?_)
      refine Gm ?_
      refine Ga ?_
      refine Ga ?_
      refine G_end (X_then (G_ret (X_then_ret ?_)))
      refine G_leaveS (.drop _ (.drop _ (.drop _ (.nil _)))) (by exact (.cons (.tmp rfl) (.cons (.tmp rfl) (.nil)))) rfl ?_ ?_
      · exact (.refl _)
      exact ⟨rfl, rfl⟩
    · rw [if_neg h16]
      refine CallS.toV (CallS.intro (l := [_, _]) _ Tryz.func52 rfl Tryz.ntmps52 rfl ?_)
      refine G_seq (G_region ?_)
      (refine G_boxA rfl rfl rfl rfl (.none rfl) ?_; intro b2)
      refine Ga ?_
      refine Ga ?_
      refine G_end (X_then (G_seq (G_seq (G_region ?_))))
      refine Gm ?_
      refine Gv (V_lenS rfl rfl) ?_
      refine Gv (V_eql rfl rfl rfl) ?_
      refine G_end (X_then ?_)
      refine G_cond_f rfl (decide_eq_false (by omega)) ?_
      refine G_skip (X_then (G_seq (G_region ?_)))
      refine Gm ?_
      refine Gm ?_
      refine Gv (V_lenS rfl rfl) ?_
      refine Gv (V_sub_i64 rfl rfl rfl (by omega) (by omega)) ?_
      refine Gv (V_idxAddr rfl rfl rfl (SlE.rd (by assumption)) (by omega) (by omega)) ?_
      refine Gv (V_loadAS rfl rfl (SlE.rd (by assumption)) (by assumption) (by simp) (by rfl)) ?_
      (refine G_alloc rfl rfl rfl (.none rfl) ?_; intro b6)
      refine G_storeA rfl rfl rfl rfl (by simp [Value.oneCell']) rfl (.none rfl) (.head _ _ _) rfl ?_
      refine G_end (X_then (G_seq (G_region ?_)))
      refine Gv (V_fieldAddr rfl rfl (by decide)) ?_
      refine Gv (V_load rfl rfl (Cell.own (.tail _ (.head _)) rfl)) ?_
      refine Gv (V_fieldAddr rfl rfl (by decide)) ?_
      refine Gv (V_load rfl rfl (Cell.own (.head _) rfl)) ?_
      refine Gv (V_idxAddr rfl rfl rfl (SlE.rd (by assumption)) (by omega) (by omega)) ?_
      refine Gv (V_loadAS rfl rfl (SlE.rd (by assumption)) (by assumption) (by simp) (by rfl)) ?_
      (refine G_alloc rfl rfl rfl (.none rfl) ?_; intro b7)
      refine G_storeA rfl rfl rfl rfl (by simp [Value.oneCell']) rfl (.none rfl) (.head _ _ _) rfl ?_
      refine G_end (X_then (G_seq (G_seq (G_region ?_))))
      refine Gv (V_fieldAddr rfl rfl (by decide)) ?_
      refine Gv (V_load rfl rfl (Cell.own (.tail _ (.head _)) rfl)) ?_
      refine Gv (V_fieldAddr rfl rfl (by decide)) ?_
      refine Gv (V_load rfl rfl (Cell.own (.head _) rfl)) ?_
      refine Gv (V_lenS rfl rfl) ?_
      refine Gv (V_eql rfl rfl rfl) ?_
      refine G_end (X_then ?_)
      refine G_cond_f rfl (decide_eq_false (by omega)) ?_
      refine G_skip (X_then (G_seq (G_region ?_)))
      refine Gv (V_fieldAddr rfl rfl (by decide)) ?_
      refine Gv (V_load rfl rfl (Cell.own (.head _) rfl)) ?_
      refine Gv (V_fieldAddr rfl rfl (by decide)) ?_
      refine Gv (V_load rfl rfl (Cell.own (.tail _ (.head _)) rfl)) ?_
      refine Gv (V_idxAddr rfl rfl rfl (SlE.rd (by assumption)) (by omega) (by omega)) ?_
      refine Gv (V_loadS rfl rfl (SlE.rd (by assumption)) (by assumption) (by simp)) ?_
      refine Ga ?_
      refine G_end (X_then (G_seq (G_seq (G_region ?_))))
      refine Gm ?_
      refine Gv (V_geq rfl rfl rfl) ?_
      refine G_end (X_then ?_)
      refine G_cond_f rfl (decide_eq_false (by omega)) ?_
      refine G_skip (X_then (G_seq (G_region ?_)))
      refine Gm ?_
      refine Ga ?_
      refine Ga ?_
      refine G_end (X_then (G_ret ?_))
      refine G_leaveS (.drop _ (.drop _ (.drop _ (.nil _)))) (by exact (.cons (.tmp rfl) (.cons (.tmp rfl) (.nil)))) rfl ?_ ?_
      · exact (.refl _)
      exact ⟨rfl, rfl⟩
end
end Go.Proofs.YtimiokmgnclggaaGreat
set_option linter.unusedSimpArgs false
set_option linter.unusedVariables false
set_option maxHeartbeats 2000000
set_option maxRecDepth 20000
namespace Go.Proofs.YtimiokmgnclggaaGreat
open Go.RowKit
/-! stack.Awaits. -/
theorem awS_kind (ps : List Pr) (l : List Spt) : 0 ≤ (awS ps l).1 ∧ (awS ps l).1 ≤ 3 := by
  unfold awS
  split
  · simp
  · split
    · simp
    · split <;> simp
section
variable (E : Env) (L : List Res)
theorem Awaits_call (gv : Value) (g : Gr) (hg : GrE E gv g) (hl : Light g) (p : Option Addr) (n c : Nat) (l : List Spt) (hs : SlE E 2 p n (spC l)) (hn : n ≤ 9223372036854775807) :
    CallV Tryz.prog 26 #[gv, .slice p n c] E L (.tuple #[.int .i64 (awaitM g l).1, .int .i64 (awaitM g l).2.1, .int .i64 (awaitM g l).2.2]) := by
  have hc := fun L0 => SCheck_call E L0 gv g hg hl p n c l hs hn
  have en := hs.nSp
  unfold awaitM
  by_cases h : chkS g l ≠ 0
  · rw [if_pos h]
    generalize chkS g l = r at *
    obtain ⟨tp, tc, np, nc, pp, pc, rfl, ht, hn', _, k1, k2, k3⟩ := hg
    refine CallS.toV (CallS.intro (l := [_, _]) _ Tryz.func26 rfl Tryz.ntmps26 rfl ?_)
    refine G_seq (G_region ?_)
    (refine G_boxA rfl rfl rfl rfl (.none rfl) ?_; intro b2)
    refine Ga ?_
    refine Ga ?_
    refine Ga ?_
    refine G_end (X_then (G_seq (G_seq (G_region ?_))))
    refine Gv (V_loadA rfl rfl (Cells.own (.head _)) rfl) ?_
    refine Gm ?_
    refine G_callv (k := 51) (.mk rfl rfl rfl rfl) rfl rfl (.none rfl) (hc _) ?_
    refine Ga ?_
    refine G_end (X_then (G_seq (G_region ?_)))
    refine Gm ?_
    refine Gv (V_neq rfl rfl rfl) ?_
    refine G_end (X_then ?_)
    refine G_cond_t rfl (decide_eq_true (by omega)) ?_
    refine G_seq (G_region ?_)
    refine Gm ?_
    refine Ga ?_
    refine Ga ?_
    refine Ga ?_
    refine G_end (X_then (G_ret (X_then_ret ?_)))
    refine G_leaveS (.drop _ (.nil _)) (by exact (.cons (.tmp rfl) (.cons (.tmp rfl) (.cons (.tmp rfl) (.nil))))) rfl ?_ ?_
    · exact (.refl _)
    exact ⟨rfl, rfl⟩
  · have h0 : chkS g l = 0 := by omega
    rw [if_neg h]
    have hok := chkS_ok h0
    have ha := fun L0 => awaits_call E L0 gv g hg hl p n c l hs (by omega) (chkS_in h0)
    have hk := awS_kind g.prods l
    rw [h0] at hc
    generalize awS g.prods l = r at *
    obtain ⟨tp, tc, np, nc, pp, pc, rfl, ht, hn', _, k1, k2, k3⟩ := hg
    refine CallS.toV (CallS.intro (l := [_, _]) _ Tryz.func26 rfl Tryz.ntmps26 rfl ?_)
    refine G_seq (G_region ?_)
    (refine G_boxA rfl rfl rfl rfl (.none rfl) ?_; intro b2)
    refine Ga ?_
    refine Ga ?_
    refine Ga ?_
    refine G_end (X_then (G_seq (G_seq (G_region ?_))))
    refine Gv (V_loadA rfl rfl (Cells.own (.head _)) rfl) ?_
    refine Gm ?_
    refine G_callv (k := 51) (.mk rfl rfl rfl rfl) rfl rfl (.none rfl) (hc _) ?_
    refine Ga ?_
    refine G_end (X_then (G_seq (G_region ?_)))
    refine Gm ?_
    refine Gv (V_neq rfl rfl rfl) ?_
    refine G_end (X_then ?_)
    refine G_cond_f rfl (by kernel_rfl) ?_
    refine G_skip (X_then (G_seq (G_region ?_)))
    refine Gv (V_loadA rfl rfl (Cells.own (.head _)) rfl) ?_
    refine Gm ?_
    refine G_callv (k := 52) (.mk rfl rfl rfl rfl) rfl rfl (.none rfl) (ha _) ?_
    refine Gm ?_
    refine Gv (V_extract rfl rfl rfl) ?_
    refine Gv (V_extract rfl rfl rfl) ?_
    refine Ga ?_
    refine Ga ?_
    refine G_end (X_then (G_seq (G_region ?_)))
    refine Gm ?_
    refine G_callv (k := 53) (.mk rfl rfl rfl rfl) rfl rfl (.none rfl) (kind_call _ _ _ (by assumption)) ?_
    refine Gm ?_
    refine Ga ?_
    refine Ga ?_
    refine Ga ?_
    refine G_end (X_then (G_ret ?_))
    refine G_leaveS (.drop _ (.nil _)) (by exact (.cons (.tmp rfl) (.cons (.tmp rfl) (.cons (.tmp rfl) (.nil))))) rfl ?_ ?_
    · exact (.refl _)
    exact ⟨rfl, rfl⟩
end
end Go.Proofs.YtimiokmgnclggaaGreat
