/-
  Rules and contracts, packed: H8, S1, S3, Sep27, Sep28, L1, L2, Sep29, Sep31, Sep32, T0, T1, S13, L3.
-/
import Derived.Lib.Builder
import Derived.Lib.AppendStr
import Derived.Lib.UnsafeStr
import Derived.Lib.Bytealg
import Derived.Laws.Externs
import Derived.Lib.ConvBytes
import Derived.Laws.Runes
import Derived.Laws.CopyRow
import Derived.Laws.IdiomCopy
import Derived.Lib.MakeNoZero
import Derived.Test.YtaibabmladgldaaGreatDoorQ5
set_option maxHeartbeats 1000000
set_option linter.unusedSimpArgs false
set_option linter.unusedVariables false
set_option maxHeartbeats 2000000
set_option maxRecDepth 20000
namespace Go.Proofs.YtaibabmladgldaaGreatDoor
open Go.RowKit
section
variable (E : Env) (L : List Res)
theorem complete1_call (b : Nat) (i : Nat) (hm : .blk b (.cells #[.int .i64 (i : Int)] 3 (0, 0)) ∈ L) (hi : i ≤ 1000) (s : Int) (v : Value) :
    CallV Tryz.prog 70 #[.agg #[.int .i64 s, v], .pointer (some ⟨b, 0, none⟩)] E L (.bool (decide (s = 16 + (i : Int)))) := by
  refine CallS.toV (CallS.intro (l := [_, _]) _ Tryz.func70 rfl Tryz.ntmps70 rfl ?_)
  refine G_seq (G_region ?_)
  (refine G_boxA rfl rfl rfl rfl (.none rfl) ?_; intro b2)
  refine Ga ?_
  refine G_end (X_then (G_seq (G_region ?_)))
  refine Gv (V_fieldAddr rfl rfl (by decide)) ?_
  refine Gv (V_load rfl rfl (Cell.own (.head _) rfl)) ?_
  refine Gv (V_load rfl rfl (Cell.own (.tail _ (by assumption)) rfl)) ?_
  refine Gv (V_add_i64 rfl rfl rfl (by omega) (by omega)) ?_
  refine Gv (V_eql rfl rfl rfl) ?_
  refine Ga ?_
  refine G_end (X_then (G_ret ?_))
  refine G_leaveS (.drop _ (.nil _)) (by exact (.cons (.tmp rfl) (.nil))) rfl ?_ ?_
  · exact (.refl _)
  exact ⟨rfl, rfl⟩
theorem IndexFuncP_call (p : Option Addr) (n c : Nat) (rows : List Row) (hx : SlE E 2 p n (prows rows)) (hn : n ≤ 1000000) (b : Nat) (j : Nat) (hm : .blk b (.cells #[.int .i64 (j : Int)] 3 (0, 0)) ∈ L) (hj : j ≤ 1000) :
    CallS Tryz.prog 87 #[.slice p n c, .func (.func 70) #[] #[.pointer (some ⟨b, 0, none⟩)]] E L (fun r E' L' => ∃ i : Int, r = .int .i64 i ∧ (0 ≤ i ↔ rows.any (fun x => decide (x.2.2.1 = 16 + (j : Int))) = true) ∧ L' = L) := by
  have e1 := hx.nR
  subst e1
  refine CallS.intro (l := [_, _]) _ Tryz.func87 rfl Tryz.ntmps87 rfl ?_
  refine G_seq (G_region ?_)
  refine Ga ?_
  refine G_end (X_then (G_seq (G_seq (G_region ?_))))
  refine Gm ?_
  refine Gv (V_lenS rfl rfl) ?_
  refine Gm ?_
  refine G_end (X_then (G_block ?_))
  refine G_loop (α := Nat) (fun i => [(0, .slice p rows.length c), (1, .func (.func 70) #[] #[.pointer (some ⟨b, 0, none⟩)]), (7, .int .i64 rows.length), (8, .int .i64 i)]) (fun _ => E) (fun i => L)
    (fun i => i ≤ rows.length ∧ ∀ k, k < i → (hk : k < rows.length) → decide (rows[k].2.2.1 = 16 + (j : Int)) = false) (fun i => rows.length - i) 0 ⟨Nat.zero_le _, fun k hk => by cases hk⟩ ⟨rfl, rfl, rfl, rfl, trivial⟩ rfl rfl ?_
  rintro i ⟨hi, hall⟩
  by_cases hlt : i < rows.length
  · have hy := prows_get (List.getElem?_eq_getElem hlt)
    by_cases hb : rows[i].2.2.1 = 16 + (j : Int)
    · have hfin : (0 : Int) ≤ (i : Int) ↔ rows.any (fun x => decide (x.2.2.1 = 16 + (j : Int))) = true := ⟨fun _ => any_of hlt (decide_eq_true hb), fun _ => by omega⟩
      refine G_seq (G_region ?_)
      refine Gv (V_lss rfl rfl rfl) ?_
      refine G_end (X_then (G_seq ?_))
      refine G_cond_t rfl (decide_eq_true (by omega)) ?_
      refine G_skip (X_then (G_seq (G_block (G_seq (G_region ?_)))))
      refine Gm ?_
      refine Ga ?_
      refine G_end (X_then (G_seq (G_region ?_)))
      refine Gm ?_
      refine Gm ?_
      refine Gm ?_
      refine Gv (V_idxAddr rfl rfl rfl (SlE.rd (by assumption)) (by omega) (by omega)) ?_
      refine Gv (V_loadAS rfl rfl (SlE.rd (by assumption)) (by assumption) (by simp) (by rfl)) ?_
      refine G_callv (k := 70) (.mk rfl rfl rfl rfl) rfl rfl (.none rfl) (complete1_call _ _ _ _ (by assumption) (by assumption) _ _) ?_
      refine G_end (X_then ?_)
      refine G_cond_t rfl (decide_eq_true (by omega)) ?_
      refine G_seq (G_region ?_)
      refine Gm ?_
      refine Ga ?_
      refine G_end (X_then (G_ret (X_block_ret (X_then_ret (X_then_ret (X_block_ret (X_then_ret ?_)))))))
      refine G_leaveS (.nil _) (by exact (.cons (.tmp rfl) (.nil))) rfl ?_ ?_
      · exact (.refl _)
      exact ⟨_, ⟨rfl, ⟨(by assumption), rfl⟩⟩⟩
    · refine G_seq ?_
      refine G_region ?_
      refine Gv (V_lss rfl rfl rfl) ?_
      refine G_end (X_then (G_seq ?_))
      refine G_cond_t rfl (decide_eq_true (by omega)) ?_
      refine G_skip (X_then (G_seq (G_block (G_seq (G_region ?_)))))
      refine Gm ?_
      refine Ga ?_
      refine G_end (X_then (G_seq (G_region ?_)))
      refine Gm ?_
      refine Gm ?_
      refine Gm ?_
      refine Gv (V_idxAddr rfl rfl rfl (SlE.rd (by assumption)) (by omega) (by omega)) ?_
      refine Gv (V_loadAS rfl rfl (SlE.rd (by assumption)) (by assumption) (by simp) (by rfl)) ?_
      refine G_callv (k := 70) (.mk rfl rfl rfl rfl) rfl rfl (.none rfl) (complete1_call _ _ _ _ (by assumption) (by assumption) _ _) ?_
      refine G_end (X_then ?_)
      refine G_cond_f rfl (decide_eq_false (by omega)) ?_
      refine G_skip (X_block (X_then (G_region ?_)))
      refine Gv (V_add_i64 rfl rfl rfl (by omega) (by omega)) ?_
      refine Gm ?_
      refine G_end (X_then ?_)
      refine G_again (i + 1) ⟨hlt, ?_⟩ (by omega) ⟨rfl, rfl, rfl, rfl, trivial⟩ rfl rfl
      intro k hk hk2
      by_cases he : k = i
      · subst he; exact decide_eq_false hb
      · exact hall k (by omega) hk2
  · have hfin : (0 : Int) ≤ -1 ↔ rows.any (fun x => decide (x.2.2.1 = 16 + (j : Int))) = true := ⟨fun h => by omega, fun h => by rw [any_none fun k hk => hall k (by omega) hk] at h; cases h⟩
    refine G_seq (G_region ?_)
    refine Gv (V_lss rfl rfl rfl) ?_
    refine G_end (X_then (G_seq ?_))
    refine G_cond_f rfl (decide_eq_false (by omega)) ?_
    refine G_exit (X_then_exit (X_then_exit (X_block_hit (X_then (G_seq (G_region ?_))))))
    refine Ga ?_
    refine G_end (X_then (G_ret ?_))
    refine G_leaveS (.nil _) (by exact (.cons (.tmp rfl) (.nil))) rfl ?_ ?_
    · exact (.refl _)
    exact ⟨_, ⟨rfl, ⟨(by assumption), rfl⟩⟩⟩
theorem ContainsFuncP_call (p : Option Addr) (n c : Nat) (rows : List Row) (hx : SlE E 2 p n (prows rows)) (hn : n ≤ 1000000) (b : Nat) (j : Nat) (hm : .blk b (.cells #[.int .i64 (j : Int)] 3 (0, 0)) ∈ L) (hj : j ≤ 1000) :
    CallV Tryz.prog 69 #[.slice p n c, .func (.func 70) #[] #[.pointer (some ⟨b, 0, none⟩)]] E L (.bool (rows.any (fun x => decide (x.2.2.1 = 16 + (j : Int))))) := by
  refine CallS.toV (CallS.intro (l := [_, _]) _ Tryz.func69 rfl Tryz.ntmps69 rfl ?_)
  refine G_seq (G_region ?_)
  refine Ga ?_
  refine G_end (X_then (G_seq (G_region ?_)))
  refine Gm ?_
  refine Gm ?_
  refine G_call (k := 87) (.mk rfl rfl rfl rfl) rfl rfl (.none rfl) (IndexFuncP_call _ _ _ _ _ _ (by assumption) (by assumption) _ _ (by assumption) (by assumption)) ?_
  rintro r1 E2 L3 hE4 ⟨z5, ⟨rfl, ⟨Z6, rfl⟩⟩⟩
  replace hx := hx.mono hE4
  refine Gv (V_geq rfl rfl rfl) ?_
  refine Ga ?_
  refine G_end (X_then (G_ret ?_))
  refine G_leaveS (.nil _) (by exact (.cons (.tmp rfl) (.nil))) rfl ?_ ?_
  · exact hE4
  rw [show decide (0 ≤ z5) = _ from Bool.eq_iff_iff.2 (decide_eq_true_iff.trans Z6)]
  exact ⟨rfl, rfl⟩
theorem complete_call (gv : Value) (g : Gr) (hg : GrE E gv g) (hl : Light g) : CallV Tryz.prog 51 #[gv] E L (.int .i64 (if compB g = true then 0 else 7)) := by
  have hg0 := hg
  obtain ⟨tp, tc, np, nc, pp, pc, rfl, ht, hn, ⟨rows, hrows, hps, hre⟩, k1, k2, k3⟩ := hg
  have hlen : g.prods.length = rows.length := by rw [← hrows]; simp
  have q1 := hl.t; have q2 := hl.n; have q3 := hl.p
  have e : compB g = (List.range g.names.length).all fun i => rows.any fun x => decide (x.2.2.1 = 16 + (i : Int)) := by
    rw [compB, ← hrows]; simp only [List.any_map]; rfl
  rw [e]
  refine CallS.toV (CallS.intro (l := [_]) _ Tryz.func51 rfl Tryz.ntmps51 rfl ?_)
  refine G_seq (G_region ?_)
  (refine G_boxA rfl rfl rfl rfl (.none rfl) ?_; intro b1)
  refine Ga ?_
  refine G_end (X_then (G_seq (G_seq (G_region ?_))))
  refine Gv (V_fieldAddr rfl rfl (by decide)) ?_
  refine Gv (V_load rfl rfl (Cell.own (.head _) rfl)) ?_
  refine Gv (V_lenS rfl rfl) ?_
  refine Gm ?_
  refine G_end (X_then (G_block ?_))
  refine G_loop (α := Nat) (fun i => [(1, .pointer (some ⟨b1, 0, none⟩)), (6, .int .i64 g.names.length), (7, .int .i64 i)]) (fun _ => E) (fun i => GB b1 g tp tc np nc pp pc :: L)
    (fun i => i ≤ g.names.length ∧ ∀ k, k < i → (rows.any fun x => decide (x.2.2.1 = 16 + (k : Int))) = true) (fun i => g.names.length - i) 0 ⟨Nat.zero_le _, fun k hk => by cases hk⟩ ⟨rfl, rfl, rfl, trivial⟩ rfl rfl ?_
  rintro i ⟨hi, hall⟩
  by_cases hlt : i < g.names.length
  · cases hb : (rows.any fun x => decide (x.2.2.1 = 16 + (i : Int))) with
    | true =>
      refine G_seq (G_region ?_)
      refine Gv (V_lss rfl rfl rfl) ?_
      refine G_end (X_then (G_seq ?_))
      refine G_cond_t rfl (decide_eq_true (by omega)) ?_
      refine G_skip (X_then (G_seq (G_block (G_seq (G_region ?_)))))
      refine Gm ?_
      (refine G_alloc rfl rfl rfl (.none rfl) ?_; intro b3)
      refine G_store1 rfl rfl rfl rfl rfl rfl (.none rfl) (.head _ _ _) ?_
      refine G_end (X_then (G_seq (G_region ?_)))
      refine Gv (V_fieldAddr rfl rfl (by decide)) ?_
      refine Gv (V_load rfl rfl (Cell.own (.tail _ (.head _)) rfl)) ?_
      refine Gv (V_makeFunc rfl rfl rfl) ?_
      refine G_callv (k := 69) (.mk rfl rfl rfl rfl) rfl rfl (.none rfl) (ContainsFuncP_call _ _ _ _ _ _ (by assumption) (by omega) _ _ (by exact .head _) (by omega)) ?_
      refine Gv (V_not rfl rfl) ?_
      refine G_end (X_then ?_)
      refine G_cond_f rfl (by simp [*]; done) ?_
      refine G_skip (X_block (X_then (G_region ?_)))
      refine Gv (V_add_i64 rfl rfl rfl (by omega) (by omega)) ?_
      refine Gm ?_
      refine G_end (X_then ?_)
      refine G.drop ?_
      refine G_again (i + 1) ⟨hlt, ?_⟩ (by omega) ⟨rfl, rfl, rfl, trivial⟩ rfl rfl
      intro k hk
      by_cases he : k = i
      · subst he; exact hb
      · exact hall k (by omega)
    | false =>
      rw [range_not hlt hb]
      refine G_seq (G_region ?_)
      refine Gv (V_lss rfl rfl rfl) ?_
      refine G_end (X_then (G_seq ?_))
      refine G_cond_t rfl (decide_eq_true (by omega)) ?_
      refine G_skip (X_then (G_seq (G_block (G_seq (G_region ?_)))))
      refine Gm ?_
      (refine G_alloc rfl rfl rfl (.none rfl) ?_; intro b3)
      refine G_store1 rfl rfl rfl rfl rfl rfl (.none rfl) (.head _ _ _) ?_
      refine G_end (X_then (G_seq (G_region ?_)))
      refine Gv (V_fieldAddr rfl rfl (by decide)) ?_
      refine Gv (V_load rfl rfl (Cell.own (.tail _ (.head _)) rfl)) ?_
      refine Gv (V_makeFunc rfl rfl rfl) ?_
      refine G_callv (k := 69) (.mk rfl rfl rfl rfl) rfl rfl (.none rfl) (ContainsFuncP_call _ _ _ _ _ _ (by assumption) (by omega) _ _ (by exact .head _) (by omega)) ?_
      refine Gv (V_not rfl rfl) ?_
      refine G_end (X_then ?_)
      refine G_cond_t rfl (by simp [*]; done) ?_
      refine G_seq (G_region ?_)
      refine Ga ?_
      refine G_end (X_then (G_ret (X_block_ret (X_then_ret (X_then_ret (X_block_ret (X_then_ret ?_)))))))
      refine G_leaveS (.drop _ (.drop _ (.nil _))) (by exact (.cons (.tmp rfl) (.nil))) rfl ?_ ?_
      · exact (.refl _)
      exact ⟨(by kernel_rfl), rfl⟩
  · rw [range_all fun k hk => hall k (by omega)]
    refine G_seq (G_region ?_)
    refine Gv (V_lss rfl rfl rfl) ?_
    refine G_end (X_then (G_seq ?_))
    refine G_cond_f rfl (decide_eq_false (by omega)) ?_
    refine G_exit (X_then_exit (X_then_exit (X_block_hit (X_then (G_seq (G_region ?_))))))
    refine Ga ?_
    refine G_end (X_then (G_ret ?_))
    refine G_leaveS (.drop _ (.nil _)) (by exact (.cons (.tmp rfl) (.nil))) rfl ?_ ?_
    · exact (.refl _)
    exact ⟨(by kernel_rfl), rfl⟩
/-! The whole check. -/
def gc5 (g : Gr) : Int := if compB g = true then 0 else 7
def gc4 (g : Gr) : Int := if ordsB g.prods = true then gc5 g else 9
def gc3 (g : Gr) : Int := if symB g = true then gc4 g else 14
def gc2 (g : Gr) : Int := if dupB (g.toks ++ [g.sep] ++ g.names) = true then 8 else gc3 g
def gc1 (g : Gr) : Int := if shortB g = true then 5 else if smallsB g = true then gc2 g else 12
def gc0 (g : Gr) : Int := if fullB g = true then 6 else gc1 g
def gcheck (g : Gr) : Int := if g.k < 1 ∨ 4 < g.k then 2 else gc0 g
def gcr (g : Gr) : Nat → Int
  | 0 => gc0 g
  | 1 => gc1 g
  | 2 => gc2 g
  | 3 => gc3 g
  | 4 => gc4 g
  | 5 => gc5 g
  | _ => 0
theorem GCheck_call (gv : Value) (g : Gr) (hg : GrE E gv g) (hl : Light g) : CallV Tryz.prog 37 #[gv] E L (.int .i64 (gcheck g)) := by
  have hg0 := hg
  obtain ⟨tp, tc, np, nc, pp, pc, rfl, ht, hn, ⟨rows, hrows, hps, hre⟩, k1, k2, k3⟩ := hg
  refine CallS.toV (CallS.intro (l := [_]) _ Tryz.func37 rfl Tryz.ntmps37 rfl ?_)
  by_cases hk : g.k < 1 ∨ 4 < g.k
  · rw [gcheck, if_pos hk]
    refine G_seq (G_region ?_)
    (refine G_boxA rfl rfl rfl rfl (.none rfl) ?_; intro b1)
    refine Ga ?_
    refine G_end (X_then (G_scope (G_seq (G_seq (G_region ?_)))))
    refine Gv (V_fieldAddr rfl rfl (by decide)) ?_
    refine Gv (V_load rfl rfl (Cell.own (.head _) rfl)) ?_
    refine Gv (V_lss rfl rfl rfl) ?_
    refine Gm ?_
    apply G_joinOr 4 8 12 rfl
    · intro H1
      dsimp only [List.take]
      simp only [Bool.and_eq_true, Bool.or_eq_true, Bool.not_eq_true', Bool.not_eq_false', Bool.and_eq_false_iff, Bool.or_eq_false_iff, Bool.not_not, decide_eq_true_eq, decide_eq_false_iff_not, ne_eq, Decidable.not_not, Bool.decide_eq_true] at H1
      refine Gn ?_
      refine Gn ?_
      refine Gn ?_
      refine Gv (V_pick_t rfl rfl rfl) ?_
      refine G_end ?_
      exact JQ_end 4 rfl rfl (by kernel_rfl)
    · intro H2
      dsimp only [List.take]
      simp only [Bool.and_eq_true, Bool.or_eq_true, Bool.not_eq_true', Bool.not_eq_false', Bool.and_eq_false_iff, Bool.or_eq_false_iff, Bool.not_not, decide_eq_true_eq, decide_eq_false_iff_not, ne_eq, Decidable.not_not, Bool.decide_eq_true] at H2
      refine Gy (V_fieldAddr rfl rfl (by decide)) ?_
      refine Gy (V_load rfl rfl (Cell.own (.head _) rfl)) ?_
      refine Gy (V_gtr rfl rfl rfl) ?_
      refine Gv (V_pick_f rfl rfl rfl) ?_
      refine G_end ?_
      exact JQ_end 4 rfl rfl (by kernel_rfl)
    dsimp only [List.drop]
    refine G_end (X_then ?_)
    refine G_cond_t rfl (by simp [*]; done) ?_
    refine G_seq (G_region ?_)
    refine Ga ?_
    refine G_end (X_then (G_ret (X_then_ret ?_)))
    refine X_ng_ret ?_
    refine G_leaveS (.drop _ (.nil _)) (by exact (.cons (.tmp rfl) (.nil))) rfl ?_ ?_
    · exact (.refl _)
    exact ⟨(by kernel_rfl), rfl⟩
  rw [gcheck, if_neg hk]
  refine G_seq (G_region ?_)
  (refine G_boxA rfl rfl rfl rfl (.none rfl) ?_; intro b1)
  refine Ga ?_
  refine G_end (X_then (G_scope (G_seq (G_seq (G_region ?_)))))
  refine Gv (V_fieldAddr rfl rfl (by decide)) ?_
  refine Gv (V_load rfl rfl (Cell.own (.head _) rfl)) ?_
  refine Gv (V_lss rfl rfl rfl) ?_
  refine Gm ?_
  refine G.bool_f 8 rfl (decide_eq_false (by omega)) ?_
  refine Gy (V_fieldAddr rfl rfl (by decide)) ?_
  refine Gy (V_load rfl rfl (Cell.own (.head _) rfl)) ?_
  refine Gy (V_gtr rfl rfl rfl) ?_
  refine Gv (V_pick_f rfl rfl rfl) ?_
  refine G_end (X_then ?_)
  refine G_cond_f rfl (decide_eq_false (by omega)) ?_
  refine G_skip (X_then (G_seq (G_label (X_then (G_seq (G_seq (G_region ?_)))))))
  (refine G_lit rfl rfl (by decide) (by simp [fillS, zeros, setLs, setL, Value.cells, List.range, List.range.loop]; rfl) rfl rfl (.none rfl) ?_; intro b13)
  refine Gv (V_lenS rfl rfl) ?_
  refine Gm ?_
  refine G_end (X_then (G_block ?_))
  refine G_loop (α := Nat) (fun i => [(1, .pointer (some ⟨b1, 0, none⟩)), (2, .int .i64 0), (13, .slice (some ⟨b13, 0, none⟩) 6 6), (14, .int .i64 ((6 : Nat) : Int)), (15, .int .i64 i)]) (fun _ => E)
    (fun i => .blk b13 (.cells #[.func (.func 46) #[] #[], .func (.func 47) #[] #[], .func (.func 48) #[] #[], .func (.func 49) #[] #[], .func (.func 50) #[] #[], .func (.func 51) #[] #[]] 77 (0, 0)) :: GB b1 g tp tc np nc pp pc :: L)
    (fun i => i ≤ 6 ∧ gcr g i = gc0 g) (fun i => 6 - i) 0 ⟨Nat.zero_le _, rfl⟩ ⟨rfl, rfl, rfl, rfl, rfl, trivial⟩ rfl rfl ?_
  rintro i ⟨hi, hall⟩
  rw [← hall]
  have hcase : i = 0 ∨ i = 1 ∨ i = 2 ∨ i = 3 ∨ i = 4 ∨ i = 5 ∨ i = 6 := by omega
  rcases hcase with rfl | rfl | rfl | rfl | rfl | rfl | rfl
  · have e : gcr g 0 = if fullB g = true then 6 else gcr g 1 := rfl
    rw [e] at hall ⊢
    by_cases hb : fullB g = true
    · rw [if_pos hb] at hall ⊢
      have v : (if fullB g = true then (6 : Int) else 0) = 6 := if_pos hb
      refine G_seq (G_region ?_)
      refine Gv (V_lss rfl rfl rfl) ?_
      refine G_end (X_then (G_seq ?_))
      refine G_cond_t rfl (by kernel_rfl) ?_
      refine G_skip (X_then (G_seq (G_block (G_seq (G_region ?_)))))
      refine Gv (V_idxB1n rfl rfl rfl (by omega)) ?_
      refine Gv (V_load rfl rfl (Cell.own (.head _) rfl)) ?_
      refine Ga ?_
      refine G_end (X_then (G_seq (G_region ?_)))
      refine Gm ?_
      refine Gv (V_loadA rfl rfl (Cells.own (.tail _ (.head _))) rfl) ?_
      refine G_callv (k := 46) (.mk rfl rfl rfl rfl) rfl rfl (.none rfl) (many_call _ _ _ _ (by assumption) (by assumption)) ?_
      refine Ga ?_
      refine G_end (X_then (G_seq (G_region ?_)))
      refine Gm ?_
      refine Gv (V_neq rfl rfl rfl) ?_
      refine G_end (X_then ?_)
      refine G_cond_t rfl (decide_eq_true (by omega)) ?_
      refine G_exit ?_
      refine X_block_miss rfl ?_
      refine X_then_exit (X_then_exit (X_block_hit (X_then (G_seq (G_region ?_)))))
      refine Gm ?_
      refine Ga ?_
      refine G_end (X_then (G_ret ?_))
      refine X_ng_ret ?_
      refine G_leaveS (.drop _ (.drop _ (.nil _))) (by exact (.cons (.tmp rfl) (.nil))) rfl ?_ ?_
      · exact (.refl _)
      exact ⟨(by (simp (discharger := omega) only [resVal, if_pos, if_neg]; first | done | rfl)), (by rfl)⟩
    · rw [if_neg hb] at hall ⊢
      have v : (if fullB g = true then (6 : Int) else 0) = 0 := if_neg hb
      refine G_seq (G_region ?_)
      refine Gv (V_lss rfl rfl rfl) ?_
      refine G_end (X_then (G_seq ?_))
      refine G_cond_t rfl (by kernel_rfl) ?_
      refine G_skip (X_then (G_seq (G_block (G_seq (G_region ?_)))))
      refine Gv (V_idxB1n rfl rfl rfl (by omega)) ?_
      refine Gv (V_load rfl rfl (Cell.own (.head _) rfl)) ?_
      refine Ga ?_
      refine G_end (X_then (G_seq (G_region ?_)))
      refine Gm ?_
      refine Gv (V_loadA rfl rfl (Cells.own (.tail _ (.head _))) rfl) ?_
      refine G_callv (k := 46) (.mk rfl rfl rfl rfl) rfl rfl (.none rfl) (many_call _ _ _ _ (by assumption) (by assumption)) ?_
      refine Ga ?_
      refine G_end (X_then (G_seq (G_region ?_)))
      refine Gm ?_
      refine Gv (V_neq rfl rfl rfl) ?_
      refine G_end (X_then ?_)
      refine G_cond_f rfl (decide_eq_false (by omega)) ?_
      refine G_skip (X_block (X_then (G_region ?_)))
      refine Gv (V_add_i64 rfl rfl rfl (by omega) (by omega)) ?_
      refine Gm ?_
      refine G_end (X_then ?_)
      rw [v]
      exact G_again 1 ⟨by omega, rfl⟩ (by omega) ⟨rfl, rfl, rfl, rfl, rfl, trivial⟩ rfl rfl
  · have e : gcr g 1 = if shortB g = true then 5 else if smallsB g = true then gcr g 2 else 12 := rfl
    rw [e] at hall ⊢
    by_cases hb : shortB g = true
    · rw [if_pos hb] at hall ⊢
      have v : (if shortB g = true then (5 : Int) else if smallsB g = true then 0 else 12) = 5 := if_pos hb
      refine G_seq (G_region ?_)
      refine Gv (V_lss rfl rfl rfl) ?_
      refine G_end (X_then (G_seq ?_))
      refine G_cond_t rfl (by kernel_rfl) ?_
      refine G_skip (X_then (G_seq (G_block (G_seq (G_region ?_)))))
      refine Gv (V_idxB1n rfl rfl rfl (by omega)) ?_
      refine Gv (V_load rfl rfl (Cell.own (.head _) rfl)) ?_
      refine Ga ?_
      refine G_end (X_then (G_seq (G_region ?_)))
      refine Gm ?_
      refine Gv (V_loadA rfl rfl (Cells.own (.tail _ (.head _))) rfl) ?_
      refine G_callv (k := 47) (.mk rfl rfl rfl rfl) rfl rfl (.none rfl) (named_call _ _ _ _ (by assumption) (by assumption)) ?_
      refine Ga ?_
      refine G_end (X_then (G_seq (G_region ?_)))
      refine Gm ?_
      refine Gv (V_neq rfl rfl rfl) ?_
      refine G_end (X_then ?_)
      refine G_cond_t rfl (decide_eq_true (by omega)) ?_
      refine G_exit ?_
      refine X_block_miss rfl ?_
      refine X_then_exit (X_then_exit (X_block_hit (X_then (G_seq (G_region ?_)))))
      refine Gm ?_
      refine Ga ?_
      refine G_end (X_then (G_ret ?_))
      refine X_ng_ret ?_
      refine G_leaveS (.drop _ (.drop _ (.nil _))) (by exact (.cons (.tmp rfl) (.nil))) rfl ?_ ?_
      · exact (.refl _)
      exact ⟨(by (simp (discharger := omega) only [resVal, if_pos, if_neg]; first | done | rfl)), (by rfl)⟩
    · rw [if_neg hb] at hall ⊢
      by_cases hc : smallsB g = true
      · rw [if_pos hc] at hall ⊢
        have v : (if shortB g = true then (5 : Int) else if smallsB g = true then 0 else 12) = 0 := by rw [if_neg hb, if_pos hc]
        refine G_seq (G_region ?_)
        refine Gv (V_lss rfl rfl rfl) ?_
        refine G_end (X_then (G_seq ?_))
        refine G_cond_t rfl (by kernel_rfl) ?_
        refine G_skip (X_then (G_seq (G_block (G_seq (G_region ?_)))))
        refine Gv (V_idxB1n rfl rfl rfl (by omega)) ?_
        refine Gv (V_load rfl rfl (Cell.own (.head _) rfl)) ?_
        refine Ga ?_
        refine G_end (X_then (G_seq (G_region ?_)))
        refine Gm ?_
        refine Gv (V_loadA rfl rfl (Cells.own (.tail _ (.head _))) rfl) ?_
        refine G_callv (k := 47) (.mk rfl rfl rfl rfl) rfl rfl (.none rfl) (named_call _ _ _ _ (by assumption) (by assumption)) ?_
        refine Ga ?_
        refine G_end (X_then (G_seq (G_region ?_)))
        refine Gm ?_
        refine Gv (V_neq rfl rfl rfl) ?_
        refine G_end (X_then ?_)
        refine G_cond_f rfl (decide_eq_false (by omega)) ?_
        refine G_skip (X_block (X_then (G_region ?_)))
        refine Gv (V_add_i64 rfl rfl rfl (by omega) (by omega)) ?_
        refine Gm ?_
        refine G_end (X_then ?_)
        rw [v]
        exact G_again 2 ⟨by omega, rfl⟩ (by omega) ⟨rfl, rfl, rfl, rfl, rfl, trivial⟩ rfl rfl
      · rw [if_neg hc] at hall ⊢
        have v : (if shortB g = true then (5 : Int) else if smallsB g = true then 0 else 12) = 12 := by rw [if_neg hb, if_neg hc]
        refine G_seq (G_region ?_)
        refine Gv (V_lss rfl rfl rfl) ?_
        refine G_end (X_then (G_seq ?_))
        refine G_cond_t rfl (by kernel_rfl) ?_
        refine G_skip (X_then (G_seq (G_block (G_seq (G_region ?_)))))
        refine Gv (V_idxB1n rfl rfl rfl (by omega)) ?_
        refine Gv (V_load rfl rfl (Cell.own (.head _) rfl)) ?_
        refine Ga ?_
        refine G_end (X_then (G_seq (G_region ?_)))
        refine Gm ?_
        refine Gv (V_loadA rfl rfl (Cells.own (.tail _ (.head _))) rfl) ?_
        refine G_callv (k := 47) (.mk rfl rfl rfl rfl) rfl rfl (.none rfl) (named_call _ _ _ _ (by assumption) (by assumption)) ?_
        refine Ga ?_
        refine G_end (X_then (G_seq (G_region ?_)))
        refine Gm ?_
        refine Gv (V_neq rfl rfl rfl) ?_
        refine G_end (X_then ?_)
        refine G_cond_t rfl (decide_eq_true (by omega)) ?_
        refine G_exit ?_
        refine X_block_miss rfl ?_
        refine X_then_exit (X_then_exit (X_block_hit (X_then (G_seq (G_region ?_)))))
        refine Gm ?_
        refine Ga ?_
        refine G_end (X_then (G_ret ?_))
        refine X_ng_ret ?_
        refine G_leaveS (.drop _ (.drop _ (.nil _))) (by exact (.cons (.tmp rfl) (.nil))) rfl ?_ ?_
        · exact (.refl _)
        exact ⟨(by (simp (discharger := omega) only [resVal, if_pos, if_neg]; first | done | rfl)), (by rfl)⟩
  · have e : gcr g 2 = if dupB (g.toks ++ [g.sep] ++ g.names) = true then 8 else gcr g 3 := rfl
    rw [e] at hall ⊢
    by_cases hb : dupB (g.toks ++ [g.sep] ++ g.names) = true
    · rw [if_pos hb] at hall ⊢
      have v : (if dupB (g.toks ++ [g.sep] ++ g.names) = true then (8 : Int) else 0) = 8 := if_pos hb
      refine G_seq (G_region ?_)
      refine Gv (V_lss rfl rfl rfl) ?_
      refine G_end (X_then (G_seq ?_))
      refine G_cond_t rfl (by kernel_rfl) ?_
      refine G_skip (X_then (G_seq (G_block (G_seq (G_region ?_)))))
      refine Gv (V_idxB1n rfl rfl rfl (by omega)) ?_
      refine Gv (V_load rfl rfl (Cell.own (.head _) rfl)) ?_
      refine Ga ?_
      refine G_end (X_then (G_seq (G_region ?_)))
      refine Gm ?_
      refine Gv (V_loadA rfl rfl (Cells.own (.tail _ (.head _))) rfl) ?_
      refine G_callv (k := 48) (.mk rfl rfl rfl rfl) rfl rfl (.none rfl) (different_call _ _ _ _ (by assumption) (by assumption)) ?_
      refine Ga ?_
      refine G_end (X_then (G_seq (G_region ?_)))
      refine Gm ?_
      refine Gv (V_neq rfl rfl rfl) ?_
      refine G_end (X_then ?_)
      refine G_cond_t rfl (decide_eq_true (by omega)) ?_
      refine G_exit ?_
      refine X_block_miss rfl ?_
      refine X_then_exit (X_then_exit (X_block_hit (X_then (G_seq (G_region ?_)))))
      refine Gm ?_
      refine Ga ?_
      refine G_end (X_then (G_ret ?_))
      refine X_ng_ret ?_
      refine G_leaveS (.drop _ (.drop _ (.nil _))) (by exact (.cons (.tmp rfl) (.nil))) rfl ?_ ?_
      · exact (.refl _)
      exact ⟨(by (simp (discharger := omega) only [resVal, if_pos, if_neg]; first | done | rfl)), (by rfl)⟩
    · rw [if_neg hb] at hall ⊢
      have v : (if dupB (g.toks ++ [g.sep] ++ g.names) = true then (8 : Int) else 0) = 0 := if_neg hb
      refine G_seq (G_region ?_)
      refine Gv (V_lss rfl rfl rfl) ?_
      refine G_end (X_then (G_seq ?_))
      refine G_cond_t rfl (by kernel_rfl) ?_
      refine G_skip (X_then (G_seq (G_block (G_seq (G_region ?_)))))
      refine Gv (V_idxB1n rfl rfl rfl (by omega)) ?_
      refine Gv (V_load rfl rfl (Cell.own (.head _) rfl)) ?_
      refine Ga ?_
      refine G_end (X_then (G_seq (G_region ?_)))
      refine Gm ?_
      refine Gv (V_loadA rfl rfl (Cells.own (.tail _ (.head _))) rfl) ?_
      refine G_callv (k := 48) (.mk rfl rfl rfl rfl) rfl rfl (.none rfl) (different_call _ _ _ _ (by assumption) (by assumption)) ?_
      refine Ga ?_
      refine G_end (X_then (G_seq (G_region ?_)))
      refine Gm ?_
      refine Gv (V_neq rfl rfl rfl) ?_
      refine G_end (X_then ?_)
      refine G_cond_f rfl (decide_eq_false (by omega)) ?_
      refine G_skip (X_block (X_then (G_region ?_)))
      refine Gv (V_add_i64 rfl rfl rfl (by omega) (by omega)) ?_
      refine Gm ?_
      refine G_end (X_then ?_)
      rw [v]
      exact G_again 3 ⟨by omega, rfl⟩ (by omega) ⟨rfl, rfl, rfl, rfl, rfl, trivial⟩ rfl rfl
  · have e : gcr g 3 = if symB g = true then gcr g 4 else 14 := rfl
    rw [e] at hall ⊢
    by_cases hb : symB g = true
    · rw [if_pos hb] at hall ⊢
      have v : (if symB g = true then (0 : Int) else 14) = 0 := if_pos hb
      refine G_seq (G_region ?_)
      refine Gv (V_lss rfl rfl rfl) ?_
      refine G_end (X_then (G_seq ?_))
      refine G_cond_t rfl (by kernel_rfl) ?_
      refine G_skip (X_then (G_seq (G_block (G_seq (G_region ?_)))))
      refine Gv (V_idxB1n rfl rfl rfl (by omega)) ?_
      refine Gv (V_load rfl rfl (Cell.own (.head _) rfl)) ?_
      refine Ga ?_
      refine G_end (X_then (G_seq (G_region ?_)))
      refine Gm ?_
      refine Gv (V_loadA rfl rfl (Cells.own (.tail _ (.head _))) rfl) ?_
      refine G_callv (k := 49) (.mk rfl rfl rfl rfl) rfl rfl (.none rfl) (symbols_call _ _ _ _ (by assumption) (by assumption)) ?_
      refine Ga ?_
      refine G_end (X_then (G_seq (G_region ?_)))
      refine Gm ?_
      refine Gv (V_neq rfl rfl rfl) ?_
      refine G_end (X_then ?_)
      refine G_cond_f rfl (decide_eq_false (by omega)) ?_
      refine G_skip (X_block (X_then (G_region ?_)))
      refine Gv (V_add_i64 rfl rfl rfl (by omega) (by omega)) ?_
      refine Gm ?_
      refine G_end (X_then ?_)
      rw [v]
      exact G_again 4 ⟨by omega, rfl⟩ (by omega) ⟨rfl, rfl, rfl, rfl, rfl, trivial⟩ rfl rfl
    · rw [if_neg hb] at hall ⊢
      have v : (if symB g = true then (0 : Int) else 14) = 14 := if_neg hb
      refine G_seq (G_region ?_)
      refine Gv (V_lss rfl rfl rfl) ?_
      refine G_end (X_then (G_seq ?_))
      refine G_cond_t rfl (by kernel_rfl) ?_
      refine G_skip (X_then (G_seq (G_block (G_seq (G_region ?_)))))
      refine Gv (V_idxB1n rfl rfl rfl (by omega)) ?_
      refine Gv (V_load rfl rfl (Cell.own (.head _) rfl)) ?_
      refine Ga ?_
      refine G_end (X_then (G_seq (G_region ?_)))
      refine Gm ?_
      refine Gv (V_loadA rfl rfl (Cells.own (.tail _ (.head _))) rfl) ?_
      refine G_callv (k := 49) (.mk rfl rfl rfl rfl) rfl rfl (.none rfl) (symbols_call _ _ _ _ (by assumption) (by assumption)) ?_
      refine Ga ?_
      refine G_end (X_then (G_seq (G_region ?_)))
      refine Gm ?_
      refine Gv (V_neq rfl rfl rfl) ?_
      refine G_end (X_then ?_)
      refine G_cond_t rfl (decide_eq_true (by omega)) ?_
      refine G_exit ?_
      refine X_block_miss rfl ?_
      refine X_then_exit (X_then_exit (X_block_hit (X_then (G_seq (G_region ?_)))))
      refine Gm ?_
      refine Ga ?_
      refine G_end (X_then (G_ret ?_))
      refine X_ng_ret ?_
      refine G_leaveS (.drop _ (.drop _ (.nil _))) (by exact (.cons (.tmp rfl) (.nil))) rfl ?_ ?_
      · exact (.refl _)
      exact ⟨(by (simp (discharger := omega) only [resVal, if_pos, if_neg]; first | done | rfl)), (by rfl)⟩
  · have e : gcr g 4 = if ordsB g.prods = true then gcr g 5 else 9 := rfl
    rw [e] at hall ⊢
    by_cases hb : ordsB g.prods = true
    · rw [if_pos hb] at hall ⊢
      have v : (if ordsB g.prods = true then (0 : Int) else 9) = 0 := if_pos hb
      refine G_seq (G_region ?_)
      refine Gv (V_lss rfl rfl rfl) ?_
      refine G_end (X_then (G_seq ?_))
      refine G_cond_t rfl (by kernel_rfl) ?_
      refine G_skip (X_then (G_seq (G_block (G_seq (G_region ?_)))))
      refine Gv (V_idxB1n rfl rfl rfl (by omega)) ?_
      refine Gv (V_load rfl rfl (Cell.own (.head _) rfl)) ?_
      refine Ga ?_
      refine G_end (X_then (G_seq (G_region ?_)))
      refine Gm ?_
      refine Gv (V_loadA rfl rfl (Cells.own (.tail _ (.head _))) rfl) ?_
      refine G_callv (k := 50) (.mk rfl rfl rfl rfl) rfl rfl (.none rfl) (ordered_call _ _ _ _ (by assumption) (by assumption)) ?_
      refine Ga ?_
      refine G_end (X_then (G_seq (G_region ?_)))
      refine Gm ?_
      refine Gv (V_neq rfl rfl rfl) ?_
      refine G_end (X_then ?_)
      refine G_cond_f rfl (decide_eq_false (by omega)) ?_
      refine G_skip (X_block (X_then (G_region ?_)))
      refine Gv (V_add_i64 rfl rfl rfl (by omega) (by omega)) ?_
      refine Gm ?_
      refine G_end (X_then ?_)
      rw [v]
      exact G_again 5 ⟨by omega, rfl⟩ (by omega) ⟨rfl, rfl, rfl, rfl, rfl, trivial⟩ rfl rfl
    · rw [if_neg hb] at hall ⊢
      have v : (if ordsB g.prods = true then (0 : Int) else 9) = 9 := if_neg hb
      refine G_seq (G_region ?_)
      refine Gv (V_lss rfl rfl rfl) ?_
      refine G_end (X_then (G_seq ?_))
      refine G_cond_t rfl (by kernel_rfl) ?_
      refine G_skip (X_then (G_seq (G_block (G_seq (G_region ?_)))))
      refine Gv (V_idxB1n rfl rfl rfl (by omega)) ?_
      refine Gv (V_load rfl rfl (Cell.own (.head _) rfl)) ?_
      refine Ga ?_
      refine G_end (X_then (G_seq (G_region ?_)))
      refine Gm ?_
      refine Gv (V_loadA rfl rfl (Cells.own (.tail _ (.head _))) rfl) ?_
      refine G_callv (k := 50) (.mk rfl rfl rfl rfl) rfl rfl (.none rfl) (ordered_call _ _ _ _ (by assumption) (by assumption)) ?_
      refine Ga ?_
      refine G_end (X_then (G_seq (G_region ?_)))
      refine Gm ?_
      refine Gv (V_neq rfl rfl rfl) ?_
      refine G_end (X_then ?_)
      refine G_cond_t rfl (decide_eq_true (by omega)) ?_
      refine G_exit ?_
      refine X_block_miss rfl ?_
      refine X_then_exit (X_then_exit (X_block_hit (X_then (G_seq (G_region ?_)))))
      refine Gm ?_
      refine Ga ?_
      refine G_end (X_then (G_ret ?_))
      refine X_ng_ret ?_
      refine G_leaveS (.drop _ (.drop _ (.nil _))) (by exact (.cons (.tmp rfl) (.nil))) rfl ?_ ?_
      · exact (.refl _)
      exact ⟨(by (simp (discharger := omega) only [resVal, if_pos, if_neg]; first | done | rfl)), (by rfl)⟩
  · have e : gcr g 5 = if compB g = true then (0 : Int) else 7 := rfl
    rw [e] at hall ⊢
    by_cases hb : compB g = true
    · rw [if_pos hb] at hall ⊢
      have v : (if compB g = true then (0 : Int) else 7) = 0 := if_pos hb
      refine G_seq (G_region ?_)
      refine Gv (V_lss rfl rfl rfl) ?_
      refine G_end (X_then (G_seq ?_))
      refine G_cond_t rfl (by kernel_rfl) ?_
      refine G_skip (X_then (G_seq (G_block (G_seq (G_region ?_)))))
      refine Gv (V_idxB1n rfl rfl rfl (by omega)) ?_
      refine Gv (V_load rfl rfl (Cell.own (.head _) rfl)) ?_
      refine Ga ?_
      refine G_end (X_then (G_seq (G_region ?_)))
      refine Gm ?_
      refine Gv (V_loadA rfl rfl (Cells.own (.tail _ (.head _))) rfl) ?_
      refine G_callv (k := 51) (.mk rfl rfl rfl rfl) rfl rfl (.none rfl) (complete_call _ _ _ _ (by assumption) (by assumption)) ?_
      refine Ga ?_
      refine G_end (X_then (G_seq (G_region ?_)))
      refine Gm ?_
      refine Gv (V_neq rfl rfl rfl) ?_
      refine G_end (X_then ?_)
      refine G_cond_f rfl (decide_eq_false (by omega)) ?_
      refine G_skip (X_block (X_then (G_region ?_)))
      refine Gv (V_add_i64 rfl rfl rfl (by omega) (by omega)) ?_
      refine Gm ?_
      refine G_end (X_then ?_)
      rw [v]
      exact G_again 6 ⟨by omega, rfl⟩ (by omega) ⟨rfl, rfl, rfl, rfl, rfl, trivial⟩ rfl rfl
    · rw [if_neg hb] at hall ⊢
      have v : (if compB g = true then (0 : Int) else 7) = 7 := if_neg hb
      refine G_seq (G_region ?_)
      refine Gv (V_lss rfl rfl rfl) ?_
      refine G_end (X_then (G_seq ?_))
      refine G_cond_t rfl (by kernel_rfl) ?_
      refine G_skip (X_then (G_seq (G_block (G_seq (G_region ?_)))))
      refine Gv (V_idxB1n rfl rfl rfl (by omega)) ?_
      refine Gv (V_load rfl rfl (Cell.own (.head _) rfl)) ?_
      refine Ga ?_
      refine G_end (X_then (G_seq (G_region ?_)))
      refine Gm ?_
      refine Gv (V_loadA rfl rfl (Cells.own (.tail _ (.head _))) rfl) ?_
      refine G_callv (k := 51) (.mk rfl rfl rfl rfl) rfl rfl (.none rfl) (complete_call _ _ _ _ (by assumption) (by assumption)) ?_
      refine Ga ?_
      refine G_end (X_then (G_seq (G_region ?_)))
      refine Gm ?_
      refine Gv (V_neq rfl rfl rfl) ?_
      refine G_end (X_then ?_)
      refine G_cond_t rfl (decide_eq_true (by omega)) ?_
      refine G_exit ?_
      refine X_block_miss rfl ?_
      refine X_then_exit (X_then_exit (X_block_hit (X_then (G_seq (G_region ?_)))))
      refine Gm ?_
      refine Ga ?_
      refine G_end (X_then (G_ret ?_))
      refine X_ng_ret ?_
      refine G_leaveS (.drop _ (.drop _ (.nil _))) (by exact (.cons (.tmp rfl) (.nil))) rfl ?_ ?_
      · exact (.refl _)
      exact ⟨(by (simp (discharger := omega) only [resVal, if_pos, if_neg]; first | done | rfl)), (by rfl)⟩
  · refine G_seq ?_
    refine G_region ?_
    refine Gv (V_lss rfl rfl rfl) ?_
    refine G_end (X_then (G_seq ?_))
    refine G_cond_f rfl (by kernel_rfl) ?_
    refine G_exit (X_then_exit (X_then_exit (X_block_hit (X_then (G_seq (G_region ?_))))))
    refine Gm ?_
    refine Ga ?_
    refine G_end (X_then (G_ret ?_))
    refine X_ng_ret ?_
    refine G_leaveS (.drop _ (.drop _ (.nil _))) (by exact (.cons (.tmp rfl) (.nil))) rfl ?_ ?_
    · exact (.refl _)
    exact ⟨rfl, rfl⟩
end
end Go.Proofs.YtaibabmladgldaaGreatDoor
set_option linter.unusedSimpArgs false
set_option linter.unusedVariables false
set_option maxHeartbeats 2000000
set_option maxRecDepth 20000
namespace Go.Proofs.YtaibabmladgldaaGreatDoor
open Go.RowKit
/-! Stacks as plain data: what they are right for, what they await, the steps. -/
abbrev Spt := Int × Int
def spC (l : List Spt) : List Value := l.flatMap fun s => [.int .i64 s.1, .int .i64 s.2]
theorem spC_len (l : List Spt) : (spC l).length = l.length * 2 := by
  induction l with
  | nil => rfl
  | cons s l ih => simp only [spC, List.flatMap_cons, List.length_append, List.length_cons, List.length_nil] at *; omega
theorem spC_append (a b : List Spt) : spC (a ++ b) = spC a ++ spC b := List.flatMap_append
theorem spC_one (l : List Spt) : ∀ v, v ∈ spC l → v.oneCell' = true := by
  intro v hv
  simp only [spC, List.mem_flatMap, List.mem_cons, List.not_mem_nil, or_false] at hv
  obtain ⟨s, _, h⟩ := hv
  rcases h with rfl | rfl <;> rfl
theorem spC_drop : ∀ (l : List Spt) (k : Nat), (spC l).drop (k * 2) = spC (l.drop k) := by
  intro l
  induction l with
  | nil => intro k; simp [spC]
  | cons t l ih =>
    intro k
    cases k with
    | zero => simp
    | succ k =>
      have e : (k + 1) * 2 = k * 2 + 1 + 1 := by omega
      rw [e]
      show (Value.int .i64 t.1 :: .int .i64 t.2 :: spC l : List Value).drop (k * 2 + 1 + 1) = _
      simp only [List.drop_succ_cons, ih k]
theorem spC_get {l : List Spt} {k : Nat} {s : Spt} (h : l[k]? = some s) : ((spC l).drop (k * 2)).take 2 = [.int .i64 s.1, .int .i64 s.2] := by
  rw [spC_drop, List.drop_eq_getElem_cons (List.getElem?_eq_some_iff.1 h).1]
  have := (List.getElem?_eq_some_iff.1 h).2
  rw [this]
  simp [spC]
def leftP (ps : List Pr) (p : Int) : Int := ((ps[p.toNat]?).map (·.1)).getD 0
def rightP (ps : List Pr) (p : Int) : List Int := ((ps[p.toNat]?).map (·.2)).getD []
/-- what must begin the Spot above -/
def nextS (ps : List Pr) (s : Spt) : Int := if 0 < s.2 then ((rightP ps s.1)[(s.2 - 1).toNat]?).getD 0 else -1
abbrev outS (ps : List Pr) (s : Spt) : Prop := s.1 < 0 ∨ (ps.length : Int) ≤ s.1 ∨ s.2 < 0 ∨ ((rightP ps s.1).length : Int) < s.2
def stk (ps : List Pr) : Int → List Spt → Int
  | _, [] => 0
  | want, s :: l => if outS ps s then 2 else if leftP ps s.1 ≠ want then 9 else stk ps (nextS ps s) l
def chkS (g : Gr) (l : List Spt) : Int := if gcheck g ≠ 0 then gcheck g else if 64 < l.length then 21 else stk g.prods g.start l
/-- what is awaited: the kind and the symbol -/
def awS (ps : List Pr) (l : List Spt) : Int × Int := match l.getLast? with
  | none => (0, 0)
  | some s => match (rightP ps s.1)[s.2.toNat]? with
    | none => (3, leftP ps s.1)
    | some x => if 16 ≤ x then (2, x) else (1, x)
def awaitM (g : Gr) (l : List Spt) : Int × Int × Int := if chkS g l ≠ 0 then (0, 0, chkS g l) else ((awS g.prods l).1, (awS g.prods l).2, 0)
/-- the top dot one place further -/
def bump (l : List Spt) : List Spt := match l.getLast? with
  | none => []
  | some s => l.dropLast ++ [(s.1, s.2 + 1)]
def pushM (g : Gr) (l : List Spt) (p : Int) : List Spt × Int :=
  if chkS g l ≠ 0 then ([], chkS g l) else if p < 0 ∨ (g.prods.length : Int) ≤ p then ([], 2)
  else if (awS g.prods l).1 = 1 ∨ (awS g.prods l).1 = 3 ∨ leftP g.prods p ≠ (if (awS g.prods l).1 = 0 then g.start else (awS g.prods l).2) then ([], 11)
  else if l.length = 64 then ([], 21) else (bump l ++ [(p, 0)], 0)
def moveM (g : Gr) (l : List Spt) : List Spt × Int := if chkS g l ≠ 0 then ([], chkS g l) else if (awS g.prods l).1 ≠ 1 then ([], 10) else (bump l, 0)
def popM (g : Gr) (l : List Spt) : List Spt × Int := if chkS g l ≠ 0 then ([], chkS g l) else if (awS g.prods l).1 ≠ 3 then ([], 10) else (l.dropLast, 0)
theorem stk_in {ps : List Pr} : ∀ (l : List Spt) (w : Int), stk ps w l = 0 → ∀ s, s ∈ l → ¬ outS ps s := by
  intro l
  induction l with
  | nil => intro w _ s h; cases h
  | cons t l ih =>
    intro w h s hs
    simp only [stk] at h
    split at h
    · omega
    · rename_i h1
      split at h
      · omega
      · rcases List.mem_cons.1 hs with rfl | hs
        · exact h1
        · exact ih _ h s hs
theorem chkS_ok {g : Gr} {l : List Spt} (h : chkS g l = 0) : gcheck g = 0 ∧ l.length ≤ 64 ∧ stk g.prods g.start l = 0 := by
  unfold chkS at h
  split at h
  · rename_i h1; exact absurd h h1
  · rename_i h1
    split at h
    · omega
    · exact ⟨by omega, by omega, h⟩
theorem chkS_in {g : Gr} {l : List Spt} (h : chkS g l = 0) : ∀ s, s ∈ l → ¬ outS g.prods s := stk_in l _ (chkS_ok h).2.2
theorem leftP_eq {ps : List Pr} {k : Nat} {p : Pr} (h : ps[k]? = some p) : leftP ps (k : Int) = p.1 := by
  unfold leftP
  rw [Int.toNat_natCast, h]
  rfl
theorem rightP_eq {ps : List Pr} {k : Nat} {p : Pr} (h : ps[k]? = some p) : rightP ps (k : Int) = p.2 := by
  unfold rightP
  rw [Int.toNat_natCast, h]
  rfl
end Go.Proofs.YtaibabmladgldaaGreatDoor
set_option linter.unusedSimpArgs false
set_option linter.unusedVariables false
set_option maxHeartbeats 2000000
set_option maxRecDepth 20000
namespace Go.Proofs.YtaibabmladgldaaGreatDoor
open Go.RowKit
/-! The Spots of a stack, one after the other. -/
abbrev spEnc (x : Spt × Nat) : List Value := [.int .i64 (x.2 : Int), .agg #[.int .i64 x.1.1, .int .i64 x.1.2]]
theorem SlE.nSp {E : Env} {a : Option Addr} {n : Nat} {l : List Spt} (h : SlE E 2 a n (spC l)) : n = l.length := by have := h.1; rw [spC_len] at this; omega
section
variable (E : Env) (L : List Res)
theorem iter_spots (c : Nat) (p : Option Addr) (n cc : Nat) (l : List Spt) (hl : SlE E 2 p n (spC l)) (hn : n ≤ 1000) :
    Iter Tryz.prog 45 #[.pointer (some ⟨c, 0, none⟩)] (fun x => (spEnc x).toArray) l.zipIdx E [.blk c (.cells #[.slice p n cc] 23 (0, 0))] := by
  have e1 := hl.nSp
  subst e1
  intro y E0 L0 Inv InvX hE0 h0 hy
  replace hl := hl.mono hE0
  refine CallS.intro (L := .blk c (.cells #[.slice p l.length cc] 23 (0, 0)) :: L0) (l := [.func (.yield y) #[] #[], .pointer (some ⟨c, 0, none⟩)]) _ Tryz.func45 rfl Tryz.ntmps45 rfl ?_
  refine G_seq (G_region ?_)
  refine Gv (V_load rfl rfl (Cell.own1 (.head _))) ?_
  refine Gv (V_lenS rfl rfl) ?_
  refine Gm ?_
  refine G_end (X_then (G_block ?_))
  refine G_loop (α := Nat × Env × List Res) (fun x => [(0, .func (.yield y) #[] #[]), (5, .slice p l.length cc), (6, .int .i64 l.length), (7, .int .i64 x.1)]) (fun x => x.2.1) (fun x => .blk c (.cells #[.slice p l.length cc] 23 (0, 0)) :: x.2.2)
    (fun x => E0.Le x.2.1 ∧ x.1 ≤ l.length ∧ Inv (l.zipIdx.take x.1) x.2.1 x.2.2) (fun x => l.length - x.1) (0, E0, L0)
    ⟨.refl _, Nat.zero_le _, h0⟩ ⟨rfl, rfl, rfl, rfl, trivial⟩ rfl rfl ?_
  rintro ⟨k, E, L⟩ ⟨hE, hk, hI⟩
  simp only at hE hk hI ⊢
  replace hl := hl.mono hE
  by_cases hlt : k < l.length
  · have hx := spC_get (List.getElem?_eq_getElem hlt)
    have hz : l.zipIdx.take (k + 1) = l.zipIdx.take k ++ [(l[k], k)] := by
      rw [List.take_succ_eq_append_getElem (by simpa using hlt)]; simp
    have hpre : l.zipIdx.take k ++ [(l[k], k)] <+: l.zipIdx := by rw [← hz]; exact List.take_prefix _ _
    refine G_seq (G_region ?_)
    refine Gv (V_lss rfl rfl rfl) ?_
    refine G_end (X_then (G_seq ?_))
    refine G_cond_t rfl (decide_eq_true (by omega)) ?_
    refine G_skip (X_then (G_seq (G_block (G_seq (G_region ?_)))))
    refine Gm ?_
    refine Gv (V_idxAddr rfl rfl rfl (SlE.rd (by assumption)) (by omega) (by omega)) ?_
    refine Gv (V_loadAS rfl rfl (SlE.rd (by assumption)) (by assumption) (by simp) (by rfl)) ?_
    (refine G_alloc rfl rfl rfl (.none rfl) ?_; intro b4)
    refine Ga ?_
    refine G_storeA rfl rfl rfl rfl (by simp [Value.oneCell']) rfl (.none rfl) (.head _ _ _) rfl ?_
    refine G_end (X_then (G_seq (G_region ?_)))
    refine Gm ?_
    refine Gm ?_
    refine Gv (V_loadA rfl rfl (Cells.own (.head _)) rfl) ?_
    refine G.drop ?_
    refine G_yield (.mk rfl rfl rfl rfl) rfl rfl (.none rfl) (hy _ (l[k], k) E L [_] hE hpre hI) ?_
    rintro r E' L' hE' ⟨L3, rfl, (⟨rfl, hI'⟩ | ⟨rfl, hI'⟩)⟩
    · refine Gv (V_not rfl rfl) ?_
      refine G_end (X_then ?_)
      refine G_cond_f rfl (by kernel_rfl) ?_
      refine G_skip (X_block (X_then (G_region ?_)))
      refine Gv (V_add_i64 rfl rfl rfl (by omega) (by omega)) ?_
      refine Gm ?_
      refine G_end (X_then ?_)
      exact G_again (k + 1, E', L3) ⟨hE.trans hE', by simp only; omega, by rw [hz]; exact hI'⟩ (by simp only; omega) ⟨rfl, rfl, rfl, rfl, trivial⟩ rfl rfl
    · refine Gv (V_not rfl rfl) ?_
      refine G_end (X_then ?_)
      refine G_cond_t rfl (by kernel_rfl) ?_
      refine G_ret (X_block_ret (X_then_ret (X_then_ret (X_block_ret ?_))))
      exact G_leave_n 0 .nil rfl (hE.trans hE') ⟨[_], L3, rfl, .inr ⟨_, hpre, hI'⟩⟩
  · have hke : k = l.length := by omega
    subst hke
    rw [List.take_of_length_le (by simp)] at hI
    refine G_seq (G_region ?_)
    refine Gv (V_lss rfl rfl rfl) ?_
    refine G_end (X_then (G_seq ?_))
    refine G_cond_f rfl (decide_eq_false (by omega)) ?_
    refine G_exit (X_then_exit (X_then_exit (X_block_hit ?_)))
    exact G_leave_n 0 .nil rfl hE ⟨[_], L, rfl, .inl hI⟩
theorem spots_call (p : Option Addr) (n c : Nat) : CallS Tryz.prog 35 #[.slice p n c] E L (fun r E' L' => ∃ b, r = .func (.func 45) #[] #[.pointer (some ⟨b, 0, none⟩)] ∧ E = E' ∧ L' = .blk b (.cells #[.slice p n c] 23 (0, 0)) :: L) := by
  refine CallS.intro (l := [.slice p n c]) _ Tryz.func35 rfl Tryz.ntmps35 rfl ?_
  refine G_seq (G_region ?_)
  (refine G_box1 rfl rfl rfl rfl rfl (.none rfl) ?_; intro b1)
  refine Ga ?_
  refine G_end (X_then (G_seq (G_region ?_)))
  refine Gv (V_makeFunc rfl rfl rfl) ?_
  refine Ga ?_
  refine G_end (X_then (G_ret ?_))
  refine G_leaveS (.keep _ (.nil _)) (by exact (.cons (.tmp rfl) (.nil))) rfl ?_ ?_
  · exact (.refl _)
  exact ⟨_, ⟨rfl, ⟨rfl, rfl⟩⟩⟩
end
end Go.Proofs.YtaibabmladgldaaGreatDoor
namespace Go.Proofs.YtaibabmladgldaaGreatDoor
open Go.RowKit

/-- Two pieces as one. -/
def Res.both (r1 r2 : Res) : Res := ⟨r1.ids ++ r2.ids, fun h => r1.ok h ∧ r2.ok h, fun h h' e ⟨k1, k2⟩ =>
  ⟨r1.loc h h' (fun b hb => e b (List.mem_append.2 (.inl hb))) k1, r2.loc h h' (fun b hb => e b (List.mem_append.2 (.inr hb))) k2⟩⟩
theorem St.both {E : Env} {L : List Res} {r1 r2 : Res} {w : World} : St E (.both r1 r2 :: L) w ↔ St E (r1 :: r2 :: L) w := by
  constructor <;> intro h <;> refine ⟨h.env, fun r hr => ?_, ?_, fun b hb => ?_, h.os, h.out, h.tape⟩
  · rcases List.mem_cons.1 hr with rfl | hr
    · exact (h.own (.both r r2) (.head _)).1
    · rcases List.mem_cons.1 hr with rfl | hr
      · exact (h.own (.both r1 r) (.head _)).2
      · exact h.own r (.tail _ hr)
  · have := h.nodup
    simpa [Res.both] using this
  · refine h.apart b ?_
    simpa [Res.both] using hb
  · rcases List.mem_cons.1 hr with rfl | hr
    · exact ⟨h.own r1 (.head _), h.own r2 (.tail _ (.head _))⟩
    · exact h.own r (.tail _ (.tail _ hr))
  · have := h.nodup
    simpa [Res.both] using this
  · refine h.apart b ?_
    simpa [Res.both] using hb

section rules
variable {P : Program} {ro : Option Nat} {n : Nat} {ds : List Deferred} {fs : List (Nat × Value)} {E : Env} {L : List Res} {ops : Array Oper} {Q : Exit → Act → World → Prop} {rest : List Oper} {o : Oper}
theorem G.both {X : Act → World → Prop} {r1 r2 : Res} (h : G n ds fs E (.both r1 r2 :: L) X) : G n ds fs E (r1 :: r2 :: L) X := fun a w ha hw => h a w ha (St.both.2 hw)
theorem CallS.both {k : FuncId} {args : Array Value} {r1 r2 : Res} {Post : Value → Env → List Res → Prop} (h : CallS P k args E (r1 :: r2 :: L) Post) : CallS P k args E (.both r1 r2 :: L) Post := fun w hw => h w (St.both.1 hw)
theorem CallV.both {k : FuncId} {args : Array Value} {r1 r2 : Res} {v : Value} (h : CallV P k args E (r1 :: r2 :: L) v) : CallV P k args E (.both r1 r2 :: L) v := fun w hw => (h w (St.both.1 hw)).mono fun _ _ ⟨h1, h2⟩ => ⟨h1, St.both.2 h2⟩

/-! ### A string's bytes appended -/
theorem run_append_str {w : World} {t u ty e : TypeId} {z : Value} {bytes : Nat} (ht : P.underlying t = some (.slice e)) (hu : P.underlying u = some .string) (hi : Inf P e z 1 bytes) (hz : z = .int .u8 0)
    {a : Option Addr} {k cap : Nat} {xs : List Value} (hok : slOk e 1 a k cap xs (fun b => w.heap[b]?)) (s : List UInt8) (hby : bytes = 1) (hb : k + s.length ≤ 140737488355328) :
    ∃ a' c' w', (Builtin.append_ #[t, u] ty #[.slice a k cap, .string (S s)]).run P w = .ok (.slice a' (k + s.length) c') w' ∧ slOk e 1 a' (k + s.length) c' (xs ++ u8s s) (fun b => w'.heap[b]?) ∧
      w.heap.size ≤ w'.heap.size ∧ w'.os = w.os ∧ w'.output = w.output ∧ w'.tape = w.tape ∧ (∀ b, some b ≠ a.map (·.block) → b < w.heap.size → w'.heap[b]? = w.heap[b]?) ∧
      (∀ p', a' = some p' → (some p'.block = a.map (·.block)) ∨ w.heap.size = p'.block) ∧ (s = [] → a' = a ∧ c' = cap) := by
  obtain ⟨i, hi1, hi2, hs1, rfl, hi5⟩ := hi.inf
  subst hz
  have hsz : (S s).size = s.length := rfl
  have hsc : Lib.strCells (S s) = u8s s := rfl
  have h63 : k + s.length ≤ maxLen := by simp only [maxLen]; omega
  have hlen : (xs ++ u8s s).length = (k + s.length) * 1 := by rw [List.length_append, hok.1, u8s, List.length_map]; omega
  have hul : (u8s s).length = s.length := List.length_map _
  have fresh : ∀ old, old < k + s.length → slOk e 1 (some ⟨w.heap.size, 0, none⟩) (k + s.length) (grownCap w (k + s.length) old e) (xs ++ u8s s)
      (fun b => (w.drew.alloc (.cells (xs.toArray ++ (u8s s).toArray ++ Builtin.zeroCells (Value.int .u8 0).cells (grownCap w (k + s.length) old e - (k + s.length))) e)).heap[b]?) := fun old _ => by
    have hge := grownCap_ge w (k + s.length) old e
    refine ⟨hlen, .inr ⟨w.heap.size, _, rfl, World.alloc_heap_new w.drew _, hge, grownCap_le_maxLen w (k + s.length) old e h63, ?_, ?_⟩⟩
    · have hz1 : (Value.int IntKind.u8 0).cells.size = 1 := rfl
      have := hok.1
      simp only [Array.size_append, List.size_toArray, size_zeroCells, hz1, hul]
      omega
    · simp only [Array.toList_append, List.append_assoc]
      rw [← List.append_assoc, ← hlen]
      exact List.take_left
  have keep : ∀ (o : Obj) (b : Nat), b < w.heap.size → (w.drew.alloc o).heap[b]? = w.heap[b]? := fun o b hb => Below.heap_alloc w.drew o b hb
  rcases hok.2 with ⟨rfl, rfl, rfl⟩ | ⟨g, cur, rfl, hg, hnc, hcm, hcs, htake⟩
  · have hx : xs = [] := List.eq_nil_of_length_eq_zero (by simpa using hok.1)
    subst hx
    by_cases hm : s.length = 0
    · have hn : s = [] := List.eq_nil_of_length_eq_zero hm
      subst hn
      refine ⟨none, 0, w, ?_, ⟨by simp [u8s], .inl ⟨rfl, rfl, rfl⟩⟩, Nat.le_refl _, rfl, rfl, rfl, fun _ _ _ => rfl, (fun p' h => by cases h), fun _ => ⟨rfl, rfl⟩⟩
      have hf := Lib.run_firstCells_string (P := P) w 1 (S [])
      have h0 : (S []).size = 0 := rfl
      rw [h0] at hf
      simp [Builtin.append_, run_underlying ht, run_underlying hu, sizeOf, typeInfo, hi1, hs1, Builtin.lenOf, h0, hf, List.length_nil]
    · have hr := run_append_nil_string (P := P) w t u ty e i (.int .u8 0) ht hu hi1 hi2 (S s) (by rw [hsz]; omega) (by rw [hsz]; omega) (by rw [hby, hsz]; omega)
      have hf := fresh 0 (by omega)
      simp only [Nat.zero_add, List.nil_append, Array.empty_append] at hf ⊢
      have e1 : ((S s).data.map fun b => Value.int .u8 b.toNat) = (u8s s).toArray := by
        apply Array.ext'
        simp [u8s, S]
      rw [e1, hsz] at hr
      exact ⟨_, _, _, hr, hf, by simp, rfl, rfl, rfl, fun b _ hb => keep _ b hb, (fun p' h => by cases h; exact .inr rfl), fun h => absurd (by rw [h]; rfl) hm⟩
  · by_cases hroom : k + s.length ≤ cap
    · have hr := Lib.run_append_room_string (P := P) w t u ty e i ht hu hi1 hs1 g k cap cur hg (S s) (by rw [hsz]; omega) (by rw [hsz]; omega)
      rw [hsz, hsc] at hr
      refine ⟨_, _, _, hr, ⟨hlen, .inr ⟨g, _, rfl, setRow_heap w g cur _ e _ hg, hroom, hcm, ?_, ?_⟩⟩, by simp, rfl, rfl, rfl, fun b hne _ => setRow_other w g b _ (fun e => hne (by simp [e])), (fun p' h => by cases h; exact .inl rfl), fun _ => ⟨rfl, rfl⟩⟩
      · simp only [List.size_toArray, List.length_append, List.length_take, List.length_drop, Array.length_toList, hul]
        omega
      · have ht' : cur.toList.take k = xs := by simpa using htake
        rw [ht', ← hlen]
        exact List.take_left
    · have holds : ∀ j u, xs[j]? = some u → w.cell? ((⟨g, 0, none⟩ : Addr).add j) = some u := hok.owns.cells (g := g) rfl
      have hr := Lib.run_append_grow_string (P := P) w t u ty e i (.int .u8 0) ht hu hi1 hi2 ⟨g, 0, none⟩ k cap xs (by rw [hs1]; exact hok.1) holds (S s) (by rw [hsz]; omega) (by rw [hsz]; omega) (by rw [hby, hsz]; exact growslice_fits (by omega) (by omega))
      rw [hsz, hsc] at hr
      exact ⟨_, _, _, hr, fresh cap (by omega), by simp, rfl, rfl, rfl, fun b _ hb => keep _ b hb, (fun p' h => by cases h; exact .inr rfl), fun h => absurd (by have := hok.2; rw [h]; simp only [List.length_nil]; omega) hroom⟩

/-- 'append(b, s...)', b bytes of the call's own, s a string. -/
theorem G_appendStr {s x : Operand} {t u e : TypeId} {d : Nat} {sz' szu : Nat} {ag' agu : Bool} [ht : Ty P t (.slice e) sz' ag'] [hu : Ty P u .string szu agu] [hi : Inf P e (.int .u8 0) 1 1] {a : Option Addr} {k cap : Nat} {xs : List Value} {l : List UInt8} {L' : Option Addr → Nat → List Res}
    (ho : o.op = .call { callee := .builtin .append, args := #[s, x], argTypes := #[t, u] }) (hs : ev fs s = some (.slice a k cap)) (hx : ev fs x = some (.string (S l)))
    (hb : k + l.length ≤ 140737488355328) (hd : o.dst = some d) (hn : Nat.blt d n = true) (hg : Goes ops fs o)
    (up : ∀ a' c', Upd L (.sl e 1 a k cap xs) (.sl e 1 a' (k + l.length) c' (xs ++ u8s l)) (L' a' c'))
    (h : ∀ a' c', (l = [] → a' = a ∧ c' = cap) → G n ds ((d, .slice a' (k + l.length) c') :: fs) E (L' a' c') (wpListIn (Wd ro) 0 P ops Q rest)) : G n ds fs E L (wpListIn (Wd ro) 0 P ops Q (o :: rest)) :=
  G_any hg (by rw [ho]; intro c h; cases h) fun a0 w ha hw => by
    have hok : slOk e 1 a k cap xs (fun b => w.heap[b]?) := hw.own _ (up none 0).mem
    obtain ⟨a', c', w', hrun, hok', hsz, hos, hout, htape, hkeep, hnew, hnil⟩ := run_append_str (ty := o.type) ht.und hu.und hi rfl hok l rfl hb
    have e1 : (execOp a0.eval o).run P w = .ok (.value (.slice a' (k + l.length) c')) w' := by
      simp [execOp, ho, resolve, invoke, builtin, ha.eval hs, ha.eval hx, hrun, Result.andThen]
    rw [e1]
    simp only [Oper.uponIn_value, hd]
    refine h a' c' hnil _ _ (ha.put hn _) (hw.update (up a' c') hsz (fun b hb' hlt => hkeep b (fun he => hb' ?_) hlt) hok' (fun b hb' => ?_) ?_ hos hout htape)
    · cases a with
      | none => simp at he
      | some p => simp at he; subst he; simp [Res.sl]
    · cases a' with
      | none => simp [Res.sl] at hb'
      | some p' =>
        simp [Res.sl] at hb'
        subst hb'
        have hlt : p'.block < w'.heap.size := by
          rcases hok'.2 with ⟨h, _⟩ | ⟨g, cur, h, hg', _⟩
          · cases h
          · cases h; exact (Array.getElem?_eq_some_iff.1 hg').1
        rcases hnew _ rfl with h' | h'
        · left
          cases a with
          | none => simp at h'
          | some p => simp at h'; exact ⟨by simp [Res.sl, h'], hlt⟩
        · exact .inr ⟨by omega, hlt⟩
    · cases a' <;> simp [Res.sl]

/-! ### Entries without a body -/
theorem V_extern {k : FuncId} {fn : Func} {e : Array Value → Sem Value} {args : Array Value} {v : Value} (hf : P.funcs[k]? = some fn) (hname : (fn.name == "runtime.NumGoroutine") = false) (hb : fn.body.isNone = true) (hn : Extern.findNext fn = none) (he : Extern.find fn = some e)
    (hrun : ∀ w, (e args).run P w = .ok v w) (ht : Goesto fs o k args) : Val P o fs E L v := by
  obtain ⟨f, xs, ts, vs, cap, ho, hfv, hx, rfl⟩ := ht
  refine ⟨(by rw [ho]; intro c h; cases h), fun n ds a w ha _ => ?_⟩
  have e1 := evs_args ha hx
  simp only [Array.toArray_toList] at e1
  have e2 := ha.eval hfv
  simp only [execOp, ho, resolve, e2, Deferred.ofValue, e1]
  simp [invoke, run_callFunc_extern hf hname hb hn he, hrun, Result.andThen]
/-- The first place of a byte. -/
def idxB (s : List UInt8) (c : UInt8) : Int := Lib.indexByte s c

/-! ### Pointers -/
theorem V_peqN {t u te : TypeId} {sz : Nat} {ag : Bool} [ht : Ty P t (.pointer te) sz ag] {x y : Operand} {p : Option Addr} (ho : o.op = .binOp .eql t x y u) (hx : ev fs x = some (.pointer p)) (hy : ev fs y = some (.pointer none)) : Val P o fs E L (.bool p.isNone) :=
  V_bin ho hx hy fun w => ⟨by simp [eqGuard], by
    have h : ∀ d : Nat, (Op.equalIn (d + 1) t (.pointer p) (.pointer none)).run P w = .ok p.isNone w := fun d => by
      cases p <;> simp [Op.equalIn, ht.run, sameAddr]
    simp only [binOp]
    simp [Op.equal, Op.maxDepth, h 9999]⟩
theorem V_pneqS {t u te : TypeId} {sz sz2 : Nat} {ag : Bool} {z : Value} {bytes : Nat} [ht : Ty P t (.pointer te) sz ag] [hi : Inf P te z sz2 bytes] {x y : Operand} {p : Addr} (ho : o.op = .binOp .neq t x y u) (hx : ev fs x = some (.pointer (some p))) (hy : ev fs y = some (.pointer (some p))) : Val P o fs E L (.bool false) := by
  obtain ⟨i, hi1, _⟩ := hi.inf
  exact V_bin ho hx hy fun w => ⟨by simp [eqGuard], Lib.run_neq_ptr_same w p ht.und hi1⟩
theorem V_toUnsafe {src dst te : TypeId} {sz sz' sz2 : Nat} {ag ag' : Bool} {z : Value} {bytes : Nat} [hs : Ty P src (.pointer te) sz ag] [hd : Ty P dst .unsafePointer sz' ag'] [hi : Inf P te z sz2 bytes] {x : Operand} {b off : Nat} {cs : Array Value} {T : TypeId} {fz : Nat × Nat}
    (ho : o.op = .convert src dst x) (hx : ev fs x = some (.pointer (some ⟨b, off, none⟩))) (hm : Res.blk b (.cells cs T fz) ∈ L) (hoff : off < cs.size) (h0 : sz2 ≠ 0) : Val P o fs E L (.pointer (some ⟨b, off, none⟩)) := by
  obtain ⟨i, hi1, _, hi3, _⟩ := hi.inf
  refine ⟨(by rw [ho]; intro c h; cases h), fun n ds a w ha hw => ?_⟩
  have hb : w.heap[b]? = some (.cells cs T fz) := hw.own _ hm
  have := Lib.run_to_unsafe (P := P) w (src := src) (dst := dst) (e := T) (cells := cs.size) ⟨b, off, none⟩ hs.und hd.und hi1 (by omega) (by simp [World.shape?, hb]) hoff
  simp [execOp, ho, ha.eval hx, Result.andThen, this]
theorem V_fromUnsafe {src dst te : TypeId} {sz sz' sz2 : Nat} {ag ag' : Bool} {z : Value} {bytes : Nat} [hs : Ty P src .unsafePointer sz ag] [hd : Ty P dst (.pointer te) sz' ag'] [hi : Inf P te z sz2 bytes] {x : Operand} {b off : Nat} {cs : Array Value} {T : TypeId} {fz : Nat × Nat}
    (ho : o.op = .convert src dst x) (hx : ev fs x = some (.pointer (some ⟨b, off, none⟩))) (hm : Res.blk b (.cells cs T fz) ∈ L) (hl : liesAt P P.depth T (cs.size / P.cellsOf T) off te 1 = true) : Val P o fs E L (.pointer (some ⟨b, off, none⟩)) := by
  obtain ⟨i, hi1, _⟩ := hi.inf
  refine ⟨(by rw [ho]; intro c h; cases h), fun n ds a w ha hw => ?_⟩
  have hb : w.heap[b]? = some (.cells cs T fz) := hw.own _ hm
  have := Lib.run_from_unsafe (P := P) w (src := src) (dst := dst) (e := T) (cells := cs.size) ⟨b, off, none⟩ hs.und hd.und hi1 (by simp [World.shape?, hb]) hl
  simp [execOp, ho, ha.eval hx, Result.andThen, this]
end rules
end Go.Proofs.YtaibabmladgldaaGreatDoor
namespace Go.Proofs.YtaibabmladgldaaGreatDoor
open Go.RowKit

section rules
variable {P : Program} {ro : Option Nat} {n : Nat} {ds : List Deferred} {fs : List (Nat × Value)} {E : Env} {L : List Res} {ops : Array Oper} {Q : Exit → Act → World → Prop} {rest : List Oper} {o : Oper}
/-- '[]byte(s)', shut at once. -/
theorem G_s2b {src dst e : TypeId} {sz sz' sze : Nat} {ag ag' age : Bool} [hs : Ty P src .string sz ag] [ht : Ty P dst (.slice e) sz' ag'] [he : Ty P e (.int .u8) sze age] {x : Operand} {l : List UInt8} {d : Nat}
    (ho : o.op = .convert src dst x) (hx : ev fs x = some (.string (S l))) (hd : o.dst = some d) (hn : Nat.blt d n = true) (hg : Goes ops fs o)
    (h : ∀ b c E', E.Le E' → SlE E' 1 (some ⟨b, 0, none⟩) l.length (u8s l) → G n ds ((d, .slice (some ⟨b, 0, none⟩) l.length c) :: fs) E' L (wpListIn (Wd ro) 0 P ops Q rest)) : G n ds fs E L (wpListIn (Wd ro) 0 P ops Q (o :: rest)) :=
  G_any hg (by rw [ho]; intro c h; cases h) fun a w ha hw => by
    have hrun := Lib.run_convert_string_bytes (P := P) w src dst e (S l) hs.und ht.und he.und
    have e1 : (execOp a.eval o).run P w = .ok (.value (.slice (some ⟨w.heap.size, 0, none⟩) l.length (grownCap w l.length 0 e))) (Lib.bytesWorld w e (S l)) := by
      simp [execOp, ho, ha.eval hx, Result.andThen, hrun, S_size]
    rw [e1]
    simp only [Oper.uponIn_value, hd]
    have hnew := Lib.bytesWorld_at_new w e (S l)
    have hE : E.heap w.heap.size = none := by
      cases hE : E.heap w.heap.size with
      | none => rfl
      | some o' => have := (Array.getElem?_eq_some_iff.1 (hw.env _ _ hE)).1; omega
    have hlt : ∀ b, b ∈ L.flatMap Res.ids → b < w.heap.size := fun b hb => (hw.apart b hb).2
    have hst : St E (.blk w.heap.size (.cells (Lib.bytesCells w e (S l)) e ((Lib.bytesCells w e (S l)).size, (Lib.bytesCells w e (S l)).size + 1)) :: L) (Lib.bytesWorld w e (S l)) := by
      refine ⟨fun b o' hb => ?_, fun r hr => ?_, ?_, fun b hb => ?_, hw.os, hw.out, hw.tape⟩
      · have h1 := hw.env b o' hb
        have h2 := (Array.getElem?_eq_some_iff.1 h1).1
        rw [Lib.bytesWorld_at_old w e _ b h2]; exact h1
      · rcases List.mem_cons.1 hr with rfl | hr
        · exact hnew
        · exact r.loc _ _ (fun b hb => (Lib.bytesWorld_at_old w e _ b (hlt b (List.mem_flatMap.2 ⟨r, hr, hb⟩))).symm) (hw.own r hr)
      · simp only [List.flatMap_cons, Res.blk, List.singleton_append, List.nodup_cons]
        exact ⟨fun hm => by have := hlt _ hm; omega, hw.nodup⟩
      · simp only [List.flatMap_cons, Res.blk, List.singleton_append, List.mem_cons] at hb
        have hsz := Lib.bytesWorld_size w e (S l)
        rcases hb with rfl | hb
        · exact ⟨hE, by omega⟩
        · exact ⟨(hw.apart b hb).1, by have := hlt b hb; omega⟩
    refine h _ _ _ (Env.blk_le hE) ?_ _ _ (ha.put hn _) ((St.shut hE).1 hst)
    have hul : (u8s l).length = l.length := List.length_map _
    have hcl : Lib.bytesCells w e (S l) = (u8s l).toArray ++ Array.replicate (grownCap w l.length 0 e - l.length) (.int .u8 0) := by
      unfold Lib.bytesCells
      congr 1
      apply Array.ext'
      simp [u8s, S]
    refine SlE.pre (l := u8s l) (r := List.replicate (grownCap w l.length 0 e - l.length) (.int .u8 0)) (T := e) (fz := ((Lib.bytesCells w e (S l)).size, (Lib.bytesCells w e (S l)).size + 1)) ?_ (by rw [hul, Nat.mul_one])
    show (E.blk _ _).heap w.heap.size = some _
    simp only [Env.blk, if_true]
    rw [hcl]
    simp

/-! ### unsafe.SliceData, unsafe.String -/
theorem V_sliceData {x : Operand} {ts : Array TypeId} {a : Option Addr} {m c : Nat} (ho : o.op = .call { callee := .builtin .unsafeSliceData, args := #[x], argTypes := ts }) (hx : ev fs x = some (.slice a m c)) (hc : a = none ∨ c ≠ 0) : Val P o fs E L (.pointer a) :=
  ⟨(by rw [ho]; intro c h; cases h), fun n ds a0 w ha _ => by
    have e : (Builtin.unsafeSliceData_ ts o.type #[.slice a m c]).run P w = .ok (.pointer a) w := by
      cases a with
      | none => rfl
      | some p => exact Lib.run_unsafeSliceData_row _ _ _ _ _ _ (hc.resolve_left (fun h => by cases h))
    simp [execOp, ho, resolve, invoke, builtin, ha.eval hx, Result.andThen, e]⟩
/-- unsafe.String over bytes of the call's own: they are given away. -/
theorem G_unsafeString {x y : Operand} {pt it e : TypeId} {d szp : Nat} {agp : Bool} [hp : Ty P pt (.pointer e) szp agp] {a : Option Addr} {c : Nat} {l : List UInt8} {L' : List Res}
    (ho : o.op = .call { callee := .builtin .unsafeString, args := #[x, y], argTypes := #[pt, it] }) (hx : ev fs x = some (.pointer a)) (hy : ev fs y = some (.int .i64 l.length)) (hl : l.length ≤ 9223372036854775807) (hce : P.cellsOf e = 1)
    (hd : o.dst = some d) (hn : Nat.blt d n = true) (hg : Goes ops fs o) (hdel : Del L (.sl e 1 a l.length c (u8s l)) L')
    (h : G n ds ((d, .string (S l)) :: fs) E L' (wpListIn (Wd ro) 0 P ops Q rest)) : G n ds fs E L (wpListIn (Wd ro) 0 P ops Q (o :: rest)) :=
  G_any hg (by rw [ho]; intro c h; cases h) fun a0 w ha hw => by
    have hw1 := hw.perm hdel.perm
    have hok : slOk e 1 a l.length c (u8s l) (fun b => w.heap[b]?) := hw1.own _ (.head _)
    have fin : ∀ w', (Builtin.unsafeString_ #[pt, it] o.type #[.pointer a, .int .i64 l.length]).run P w = .ok (.string (S l)) w' → St E L' w' → o.uponIn (Wd ro) 0 P a0 (wpListIn (Wd ro) 0 P ops Q rest) Q ((execOp a0.eval o).run P w) := fun w' hrun hw' => by
      have e1 : (execOp a0.eval o).run P w = .ok (.value (.string (S l))) w' := by
        simp [execOp, ho, resolve, invoke, builtin, ha.eval hx, ha.eval hy, hrun, Result.andThen]
      rw [e1]
      simp only [Oper.uponIn_value, hd]
      exact h _ _ (ha.put hn _) hw'
    by_cases h0 : l = []
    · subst h0
      exact fin w (Lib.run_unsafeString_none (P := P) w pt it o.type a) hw1.drop
    · rcases hok.2 with ⟨_, _, h1⟩ | ⟨g, cur, rfl, hgb, hnc, hcm, hcs, htake⟩
      · exact absurd (List.eq_nil_of_length_eq_zero h1) h0
      · have hcell := hok.owns.cells (g := g) rfl
        have hus := Lib.run_unsafeString_row (P := P) w pt it o.type e hp.und hce g cur.size (by simp [World.shape?, hgb]) l h0 (by omega) hl (fun j x hx => hcell j (.int .u8 x.toNat) (by simp [u8s, hx]))
        refine fin _ hus ?_
        refine St.drop (r := .blk g (.cells cur e (0, 0 + l.length))) (hw1.update (r := .sl e 1 (some ⟨g, 0, none⟩) l.length c (u8s l)) (.head _ _ _) ?_ (fun b hb _ => ?_) ?_ (fun b hb => ?_) (by simp [Res.blk]) ?_ ?_ ?_)
        · unfold World.freeze; split <;> simp
        · have : b ≠ g := fun e => hb (by subst e; simp [Res.sl])
          unfold World.freeze
          split
          · rfl
          · simp [Array.getElem?_modify, Ne.symm this]
        · show (w.freeze ⟨g, 0, none⟩ l.length).heap[g]? = _
          unfold World.freeze
          rw [if_neg (by simpa using h0)]
          simp only [Array.getElem?_modify, if_true]
          have hgb' : w.heap[g]? = some (.cells cur e (0, 0)) := hgb
          rw [hgb']
          rfl
        · simp only [Res.blk, List.mem_singleton] at hb
          subst hb
          refine .inl ⟨by simp [Res.sl], ?_⟩
          have hlt := (Array.getElem?_eq_some_iff.1 hgb).1
          unfold World.freeze
          split <;> simpa using hlt
        · unfold World.freeze; split <;> rfl
        · unfold World.freeze; split <;> rfl
        · unfold World.freeze; split <;> rfl
end rules
end Go.Proofs.YtaibabmladgldaaGreatDoor
set_option linter.unusedSimpArgs false
set_option linter.unusedVariables false
set_option maxHeartbeats 2000000
set_option maxRecDepth 20000
namespace Go.Proofs.YtaibabmladgldaaGreatDoor
open Go.RowKit

/-- What a strings.Builder holds: whether it was used, its buffer's place and room, its bytes. -/
structure Bld where
  used : Bool
  a : Option Addr
  c : Nat
  xs : List UInt8
  some' : a = none ∨ c ≠ 0
def Bld.new : Bld := ⟨false, none, 0, [], .inl rfl⟩
def Bld.obj (b : Nat) (u : Bool) (a : Option Addr) (n c : Nat) : Obj := .cells #[.pointer (if u then some ⟨b, 0, none⟩ else none), .slice a n c] 91 (0, 0)
/-- A strings.Builder of the call's own. -/
def Res.bld (b : Nat) (s : Bld) : Res := .both (.blk b (Bld.obj b s.used s.a s.xs.length s.c)) (.sl 5 1 s.a s.xs.length s.c (u8s s.xs))

section
variable {n : Nat} {ds : List Deferred} {fs : List (Nat × Value)} (E : Env) (L : List Res)
theorem G.bldNew {E : Env} {L : List Res} {X : Act → World → Prop} {b : Nat} (h : G n ds fs E (.bld b Bld.new :: L) X) : G n ds fs E (.blk b (.cells #[.pointer none, .slice none 0 0] 91 (0, 0)) :: L) X := by
  refine G.nilSl 5 1 ?_
  refine G.front (.tail _ (.head _ _)) ?_
  exact G.both h

theorem NoEscape_val {fs : List (Nat × Value)} {E : Env} {L : List Res} {o : Oper} {p : Option Addr} (ht : Goesto fs o 92 #[.pointer p]) : Val Tryz.prog o fs E L (.pointer p) :=
  V_extern Tryz.func92 (by kernel_rfl) (by kernel_rfl) (by kernel_rfl) (e := Extern.AbiNoEscape.same) (by kernel_rfl) (fun w => Lib.run_noEscape w (.pointer p)) ht

theorem copyCheck_call (b : Nat) (u : Bool) (a : Option Addr) (k c : Nat) :
    CallS Tryz.prog 72 #[.pointer (some ⟨b, 0, none⟩)] E (.blk b (Bld.obj b u a k c) :: L) (fun r E' L' => r = .tuple #[] ∧ E' = E ∧ L' = .blk b (Bld.obj b true a k c) :: L) := by
  refine CallS.intro (l := [_]) _ Tryz.func72 rfl Tryz.ntmps72 rfl ?_
  cases u with
  | true =>
    simp only [Bld.obj, if_true]
    refine G_seq (G_region ?_)
    refine Gm ?_
    refine Gv (V_nilCheck rfl rfl) ?_
    refine Gv (V_fieldAddr rfl rfl (by decide)) ?_
    refine Gv (V_load rfl rfl (Cell.own (.head _) rfl)) ?_
    refine Gv (V_peqN rfl rfl rfl) ?_
    refine G_end (X_then ?_)
    refine G_cond_f rfl (by simp [*]; done) ?_
    refine G_seq (G_region ?_)
    refine Gm ?_
    refine Gv (V_nilCheck rfl rfl) ?_
    refine Gv (V_fieldAddr rfl rfl (by decide)) ?_
    refine Gv (V_load rfl rfl (Cell.own (.head _) rfl)) ?_
    refine Gm ?_
    refine Gv (V_pneqS rfl rfl rfl) ?_
    refine G_end (X_then ?_)
    refine G_cond_f rfl rfl ?_
    refine G_skip ?_
    refine G_leaveS_n (.keep _ (.nil _)) (by exact (.nil)) rfl ?_ ?_
    · exact (.refl _)
    exact ⟨(by kernel_rfl), ⟨rfl, rfl⟩⟩
  | false =>
    simp only [Bld.obj, if_true, Bool.false_eq_true, if_false]
    refine G_seq (G_region ?_)
    refine Gm ?_
    refine Gv (V_nilCheck rfl rfl) ?_
    refine Gv (V_fieldAddr rfl rfl (by decide)) ?_
    refine Gv (V_load rfl rfl (Cell.own (.head _) rfl)) ?_
    refine Gv (V_peqN rfl rfl rfl) ?_
    refine G_end (X_then ?_)
    refine G_cond_t rfl (by kernel_rfl) ?_
    refine G_region ?_
    refine Gm ?_
    refine Gm ?_
    refine Gv (V_toUnsafe rfl rfl (.head _) (Nat.le_of_ble_eq_true rfl) (by decide)) ?_
    refine Gv (NoEscape_val (.mk rfl rfl rfl rfl)) ?_
    refine Gv (V_fromUnsafe rfl rfl (.head _) (by kernel_rfl)) ?_
    refine Gv (V_nilCheck rfl rfl) ?_
    refine Gv (V_fieldAddr rfl rfl (by decide)) ?_
    refine G_storeAt rfl rfl rfl rfl rfl rfl (.none rfl) (.head _ _ _) (Nat.le_of_ble_eq_true rfl) (by simp only [putAll, Nat.zero_add, Nat.reduceAdd, List.setIfInBounds_toArray, List.set_cons_succ, List.set_cons_zero]; rfl) ?_
    refine G_end ?_
    refine G_leaveS_n (.keep _ (.nil _)) (by exact (.nil)) rfl ?_ ?_
    · exact (.refl _)
    exact ⟨(by kernel_rfl), ⟨rfl, rfl⟩⟩
theorem IndexByteString_val {fs : List (Nat × Value)} {E : Env} {L : List Res} {o : Oper} {s : List UInt8} {c : Nat} (ht : Goesto fs o 94 #[.string (S s), .int .u8 c]) : Val Tryz.prog o fs E L (.int .i64 (idxB s c.toUInt8)) :=
  V_extern Tryz.func94 (by kernel_rfl) (by kernel_rfl) (by kernel_rfl) (e := Extern.BytealgIndexByte.indexByte) (by kernel_rfl) (fun w => Lib.run_indexByteString (P := Tryz.prog) (S s) c w) ht
end
end Go.Proofs.YtaibabmladgldaaGreatDoor
set_option linter.unusedSimpArgs false
set_option linter.unusedVariables false
set_option maxHeartbeats 2000000
set_option maxRecDepth 20000
namespace Go.Proofs.YtaibabmladgldaaGreatDoor
open Go.RowKit
theorem u8s_app (a b : List UInt8) : u8s (a ++ b) = u8s a ++ u8s b := List.map_append
section
variable (E : Env) (L : List Res)
theorem WriteString_parts (b : Nat) (u : Bool) (a : Option Addr) (c : Nat) (xs x : List UInt8) (h : xs.length + x.length ≤ 140737488355328) :
    CallS Tryz.prog 54 #[.pointer (some ⟨b, 0, none⟩), .string (S x)] E (.blk b (Bld.obj b u a xs.length c) :: .sl 5 1 a xs.length c (u8s xs) :: L)
      (fun r E' L' => ∃ a' c', r = .tuple #[.int .i64 x.length, .nilIface] ∧ E' = E ∧ (x = [] → a' = a ∧ c' = c) ∧ L' = .blk b (Bld.obj b true a' (xs.length + x.length) c') :: .sl 5 1 a' (xs.length + x.length) c' (u8s xs ++ u8s x) :: L) := by
  refine CallS.intro (l := [_, _]) _ Tryz.func54 rfl Tryz.ntmps54 rfl ?_
  refine G_seq (G_region ?_)
  refine Ga ?_
  refine Ga ?_
  refine G_end (X_then (G_seq (G_region ?_)))
  refine Gm ?_
  refine G_call (k := 72) (.mk rfl rfl rfl rfl) rfl rfl (.none rfl) (copyCheck_call _ _ _ _ _ _ _) ?_
  rintro r1 E2 L3 hE4 ⟨rfl, ⟨rfl, rfl⟩⟩
  refine G_end (X_then (G_seq (G_region ?_)))
  refine Gm ?_
  refine Gm ?_
  refine Gv (V_nilCheck rfl rfl) ?_
  refine Gv (V_fieldAddr rfl rfl (by decide)) ?_
  refine Gv (V_load rfl rfl (Cell.own (.head _) rfl)) ?_
  refine Gm ?_
  (refine G_appendStr rfl rfl rfl (by omega) rfl rfl (.none rfl) (fun _ _ => (.tail _ (.head _ _ _))) ?_; intro a14 c14 ha14)
  refine Gv (V_nilCheck rfl rfl) ?_
  refine Gv (V_fieldAddr rfl rfl (by decide)) ?_
  refine G_storeAt rfl rfl rfl rfl rfl rfl (.none rfl) (.head _ _ _) (Nat.le_of_ble_eq_true rfl) (by simp only [putAll, Nat.zero_add, Nat.reduceAdd, List.setIfInBounds_toArray, List.set_cons_succ, List.set_cons_zero]; rfl) ?_
  refine G_end (X_then (G_seq (G_region ?_)))
  refine Gm ?_
  refine Gv (V_len rfl rfl) ?_
  refine Ga ?_
  refine Ga ?_
  refine G_end (X_then (G_ret ?_))
  refine G_leaveS (.keep _ (.keep _ (.nil _))) (by exact (.cons (.tmp rfl) (.cons (.tmp rfl) (.nil)))) rfl ?_ ?_
  · exact (.refl _)
  exact ⟨_, ⟨_, ⟨rfl, ⟨rfl, ⟨(by assumption), rfl⟩⟩⟩⟩⟩
theorem WriteString_call (b : Nat) (s : Bld) (x : List UInt8) (h : s.xs.length + x.length ≤ 140737488355328) :
    CallS Tryz.prog 54 #[.pointer (some ⟨b, 0, none⟩), .string (S x)] E (.bld b s :: L) (fun r E' L' => ∃ t, r = .tuple #[.int .i64 x.length, .nilIface] ∧ E' = E ∧ t.xs = s.xs ++ x ∧ t.xs.length = s.xs.length + x.length ∧ L' = .bld b t :: L) := fun w hw =>
  (WriteString_parts E L b s.used s.a s.c s.xs x h w (St.both.1 hw)).mono fun e w' ⟨r, E', L', he, hE, hs, a', c', hr, hE', hn, hL⟩ => by
    subst hL
    have hok : slOk _ 1 a' (s.xs.length + x.length) c' (u8s s.xs ++ u8s x) _ := hs.own _ (.tail _ (.head _))
    refine ⟨r, E', _, he, hE, St.both.2 hs, ⟨true, a', c', s.xs ++ x, ?_⟩, hr, hE', rfl, List.length_append, ?_⟩
    · by_cases h0 : x = []
      · obtain ⟨h1, h2⟩ := hn h0
        rw [h1, h2]
        exact s.some'
      · rcases hok.2 with ⟨h1, _⟩ | ⟨_, _, _, _, h1, _⟩
        · exact .inl h1
        · have := List.length_pos_iff.2 h0
          exact .inr (by omega)
    · simp only [Res.bld, List.length_append, u8s_app, Bld.obj, if_true]
theorem BString_parts (b : Nat) (u : Bool) (a : Option Addr) (c : Nat) (xs : List UInt8) (h : xs.length ≤ 9223372036854775807) (hc : a = none ∨ c ≠ 0) :
    CallS Tryz.prog 55 #[.pointer (some ⟨b, 0, none⟩)] E (.blk b (Bld.obj b u a xs.length c) :: .sl 5 1 a xs.length c (u8s xs) :: L)
      (fun r E' L' => r = .string (S xs) ∧ E' = E ∧ L' = L) := by
  refine CallS.intro (l := [_]) _ Tryz.func55 rfl Tryz.ntmps55 rfl ?_
  simp only [Bld.obj]
  refine G_seq (G_region ?_)
  refine Ga ?_
  refine G_end (X_then (G_seq ?_))
  refine G_drawT 10 mixed (by kernel_rfl) ?_; dsimp only [List.take, List.drop]
  refine Q_val (V_move rfl rfl) rfl rfl (.none rfl) ?_
  refine Q_val (V_nilCheck rfl rfl) rfl rfl (.none rfl) ?_
  refine Q_val (V_fieldAddr rfl rfl (by decide)) rfl rfl (.none rfl) ?_
  refine Q_val (V_load rfl rfl (Cell.own (.head _) rfl)) rfl rfl (.none rfl) ?_
  refine Q_val (V_sliceData rfl rfl (by assumption)) rfl rfl (.none rfl) ?_
  refine Q_val (V_move rfl rfl) rfl rfl (.none rfl) ?_
  refine Q_val (V_nilCheck rfl rfl) rfl rfl (.none rfl) ?_
  refine Q_val (V_fieldAddr rfl rfl (by decide)) rfl rfl (.none rfl) ?_
  refine Q_val (V_load rfl rfl (Cell.own (.head _) rfl)) rfl rfl (.none rfl) ?_
  refine Q_val (V_lenS rfl rfl) rfl rfl (.none rfl) ?_
  refine Q_endT ?_
  refine G_unsafeString rfl rfl rfl h (by kernel_rfl) rfl rfl (.none rfl) (.tail _ (.head _ _)) ?_
  refine Ga ?_
  refine G_end (X_then (G_ret ?_))
  refine G_leaveS (.drop _ (.nil _)) (by exact (.cons (.tmp rfl) (.nil))) rfl ?_ ?_
  · exact (.refl _)
  exact ⟨rfl, ⟨rfl, rfl⟩⟩
theorem BString_call (b : Nat) (s : Bld) (h : s.xs.length ≤ 9223372036854775807) :
    CallS Tryz.prog 55 #[.pointer (some ⟨b, 0, none⟩)] E (.bld b s :: L) (fun r E' L' => r = .string (S s.xs) ∧ E' = E ∧ L' = L) := fun w hw => by
  exact BString_parts E L b s.used s.a s.c s.xs h s.some' w (St.both.1 hw)
end
end Go.Proofs.YtaibabmladgldaaGreatDoor
namespace Go.Proofs.YtaibabmladgldaaGreatDoor
open Go.RowKit

section rules
variable {P : Program} {ro : Option Nat} {n : Nat} {ds : List Deferred} {fs : List (Nat × Value)} {E : Env} {L : List Res} {ops : Array Oper} {Q : Exit → Act → World → Prop} {rest : List Oper} {o : Oper}
theorem Rd.more {sz m : Nat} {a : Option Addr} {vals : List Value} (r : Res) (h : Rd E L sz a m vals) : Rd E (r :: L) sz a m vals := ⟨h.1, fun w hw => h.2 w hw.drop⟩
theorem Rd.env {E' : Env} {sz m : Nat} {a : Option Addr} {vals : List Value} (h : Rd E L sz a m vals) (hE : E.Le E') : Rd E' L sz a m vals := ⟨h.1, fun w hw => h.2 w (hw.weaken hE)⟩
theorem V_cap {t e : TypeId} {sz : Nat} {ag : Bool} [ht : Ty P t (.slice e) sz ag] {x : Operand} {a : Option Addr} {m c : Nat} (ho : o.op = .call { callee := .builtin .cap, args := #[x], argTypes := #[t] }) (hx : ev fs x = some (.slice a m c)) : Val P o fs E L (.int .i64 c) :=
  ⟨(by rw [ho]; intro c h; cases h), fun n ds a' w ha _ => by simp [execOp, ho, ha.eval hx, resolve, invoke, builtin, Builtin.cap_, ht.run, goInt]⟩
end rules
end Go.Proofs.YtaibabmladgldaaGreatDoor
namespace Go.Proofs.YtaibabmladgldaaGreatDoor
open Go.RowKit
section rules
variable {P : Program} {ro : Option Nat} {n : Nat} {ds : List Deferred} {fs : List (Nat × Value)} {E : Env} {L : List Res} {ops : Array Oper} {Q : Exit → Act → World → Prop} {rest : List Oper} {o : Oper}
variable {T : Act → Fam → Prop} {J : Nat → World → Prop} {π : List (Nat × Nat)} {i : Nat}
end rules
end Go.Proofs.YtaibabmladgldaaGreatDoor
namespace Go.Proofs.YtaibabmladgldaaGreatDoor
open Go.RowKit
section rules
variable {P : Program} {n : Nat} {ds : List Deferred} {fs : List (Nat × Value)} {E : Env} {L : List Res} {o : Oper}
theorem V_copy0 {x y : Operand} {t u e : TypeId} {sz' : Nat} {ag' : Bool} {z : Value} {bytes : Nat} [ht : Ty P t (.slice e) sz' ag'] [hi : Inf P e z 1 bytes] {p a : Option Addr} {dl dc m c : Nat}
    (ho : o.op = .call { callee := .builtin .copy, args := #[x, y], argTypes := #[t, u] }) (hx : ev fs x = some (.slice p dl dc)) (hy : ev fs y = some (.slice a m c)) (h0 : min m dl = 0) : Val P o fs E L (.int .i64 0) :=
  ⟨(by rw [ho]; intro c h; cases h), fun n ds a' w ha _ => by
    obtain ⟨i, hi1, _, hs1, _⟩ := hi.inf
    have hs : (P.info? e).map (·.size) = some 1 := by rw [hi1]; simp [hs1]
    have hrun := run_copy_none (P := P) w t u o.type e p a dl dc m c ht.und hs h0
    simp only [execOp, ho, resolve, invoke, builtin, Sem.run_bind, Sem.run_pure, Result.andThen_ok, List.map_toArray, List.map_cons, List.map_nil, ha.eval hx, ha.eval hy, hrun]; rfl⟩
variable {ops : Array Oper} {T : Act → Fam → Prop} {J : Nat → World → Prop} {π : List (Nat × Nat)} {i : Nat}
theorem F_makeNoZero {k : FuncId} {fn : Func} {t e : TypeId} {ps : Array TypeId} {m d : Nat} (hf : P.funcs[k]? = some fn) (hname : (fn.name == "runtime.NumGoroutine") = false) (hb : fn.body.isNone = true) (hfn : Extern.findNext fn = none)
    (he : Extern.find fn = some (Extern.BytealgMakeNoZero.makeNoZero ps #[t])) (hte : P.underlying t = some (.slice e)) (h0 : ops[i]? = some o) (ht : Goesto fs o k #[.int .i64 m]) (hm : m ≤ 140737488355328) (hd : o.dst = some d) (hn : Nat.blt d n = true) (hg : Goes ops fs o)
    (h : ∀ b c, m ≤ c → GF n ds ((d, .slice (some ⟨b, 0, none⟩) m c) :: fs) E (.sl e 1 (some ⟨b, 0, none⟩) 0 c [] :: L) (wpF P ops T J π)) : GF n ds fs E L (wpF P ops T J ((i, 3) :: π)) := fun a ha =>
  ⟨o, h0, by
    rw [if_pos (hg.wanted ha)]
    intro M w hw
    unfold Steps
    obtain ⟨f, xs, ts, vs, cap, ho, hfv, hx, hargs⟩ := ht
    have e1 := evs_args ha hx
    simp only [Array.toArray_toList] at e1
    have e2 := ha.eval hfv
    obtain ⟨cs, hrun, hc1, hc2⟩ := Lib.run_makeNoZero (P := P) w ps t e hte m (by omega)
    have e3 : (execOp a.eval o).run P w = .ok (.value (.slice (some ⟨w.heap.size, 0, none⟩) m cs.size)) (w.drew.drew.alloc (.cells cs e)) := by
      simp only [execOp, ho, resolve, e2, Deferred.ofValue, e1]
      simp [invoke, ← hargs, run_callFunc_extern hf hname hb hfn he, hrun, Result.andThen]
    rw [e3]
    have hst := ((hw.drew (w.drawn + 1)).drew (w.drawn + 2)).alloc (.cells cs e)
    have hst2 : St E (.blk w.heap.size (.cells cs e) :: (M ++ L)) (w.drew.drew.alloc (.cells cs e)) := hst
    have s2 : St E (.sl e 1 (some ⟨w.heap.size, 0, none⟩) 0 cs.size [] :: (M ++ L)) (w.drew.drew.alloc (.cells cs e)) := by
      refine hst2.conv (r' := .sl e 1 (some ⟨w.heap.size, 0, none⟩) 0 cs.size []) (by simp [Res.sl, Res.blk]) ?_
      exact ⟨rfl, .inr ⟨w.heap.size, cs, rfl, hst2.own _ (.head _), Nat.zero_le _, hc2 (by simp only [maxLen]; omega), by simp, by simp⟩⟩
    refine ⟨Fam.st E (.sl e 1 (some ⟨w.heap.size, 0, none⟩) 0 cs.size [] :: L), fun w' ⟨M', h'⟩ => ⟨M' ++ [_], by show St E ((M' ++ [_]) ++ L) w'; rw [List.append_assoc]; exact h'⟩, s2.perm List.perm_middle.symm, ?_⟩
    rw [hd]
    exact h _ _ hc1 _ (ha.put hn _)⟩
end rules
end Go.Proofs.YtaibabmladgldaaGreatDoor
set_option linter.unusedSimpArgs false
set_option linter.unusedVariables false
set_option maxHeartbeats 2000000
set_option maxRecDepth 20000
namespace Go.Proofs.YtaibabmladgldaaGreatDoor
open Go.RowKit
/-! strings.Builder's Grow, for texts that do without the looks. -/
section
variable (E : Env) (L : List Res)
theorem grow_parts (b : Nat) (n : Nat) (hn : n ≤ 1000000) (u : Bool) :
    CallS Tryz.prog 73 #[.pointer (some ⟨b, 0, none⟩), .int .i64 n] E (.blk b (Bld.obj b u none 0 0) :: L)
      (fun r E' L' => ∃ a c, n ≤ c ∧ r = .tuple #[] ∧ E = E' ∧ L' = .blk b (Bld.obj b u (some ⟨a, 0, none⟩) 0 c) :: .sl 5 1 (some ⟨a, 0, none⟩) 0 c [] :: L) := by
  refine CallS.intro (l := [_, _]) _ Tryz.func73 rfl Tryz.ntmps73 rfl ?_
  simp only [Bld.obj]
  refine G_seq ?_
  refine G_drawX 16 [(0, 0), (1, 0), (2, 0), (3, 1), (4, 0), (5, 0), (6, 0), (7, 0), (9, 0), (10, 0), (11, 0), (12, 1), (8, 3), (13, 0), (14, 0), (15, 0)] mixed (by kernel_rfl) ?_
  refine F_pure rfl (fun _ _ => V_move rfl rfl) rfl rfl (.none rfl) ?_
  refine F_pure rfl (fun _ _ => V_nilCheck rfl rfl) rfl rfl (.none rfl) ?_
  refine F_pure rfl (fun _ _ => V_fieldAddr rfl rfl (by decide)) rfl rfl (.none rfl) ?_
  refine F_load rfl (.head _) (V_load rfl rfl (Cell.own (.head _) rfl)) rfl rfl (.none rfl) ?_
  refine F_pure rfl (fun _ _ => V_cap rfl rfl) rfl rfl (.none rfl) ?_
  refine F_pure rfl (fun _ _ => V_mul_i64 rfl rfl rfl (by omega) (by omega)) rfl rfl (.none rfl) ?_
  refine F_pure rfl (fun _ _ => V_move rfl rfl) rfl rfl (.none rfl) ?_
  refine F_pure rfl (fun _ _ => V_add_i64 rfl rfl rfl (by omega) (by omega)) rfl rfl (.none rfl) ?_
  refine F_pure rfl (fun _ _ => V_move rfl rfl) rfl rfl (.none rfl) ?_
  refine F_pure rfl (fun _ _ => V_nilCheck rfl rfl) rfl rfl (.none rfl) ?_
  refine F_pure rfl (fun _ _ => V_fieldAddr rfl rfl (by decide)) rfl rfl (.none rfl) ?_
  refine F_load rfl (.head _) (V_load rfl rfl (Cell.own (.head _) rfl)) rfl rfl (.none rfl) ?_
  have e12 : (2 * ((0 : Nat) : Int) + (n : Int)) = ((n : Nat) : Int) := by omega
  rw [e12]
  refine F_makeNoZero (t := 75) (e := 5) (ps := #[3]) Tryz.func93 (by kernel_rfl) (by kernel_rfl) (by kernel_rfl) (by kernel_rfl) Tryz.underlying75 rfl (.mk rfl rfl rfl rfl) (by omega) rfl rfl (.none rfl) ?_
  intro a13 c13 hc13
  refine F_pure rfl (fun _ _ => V_lenS rfl rfl) rfl rfl (.none rfl) ?_
  refine F_pure rfl (fun _ _ => V_slHead rfl rfl rfl (by omega) (by omega)) rfl rfl (.none rfl) ?_
  refine F_pure rfl (fun _ _ => V_assign rfl rfl) rfl rfl (.none rfl) ?_
  (refine F_end (.nil _) ?_; dsimp only [List.drop])
  refine G_end (X_then (G_seq (G_region ?_)))
  refine Gm ?_
  refine Gm ?_
  refine Gv (V_nilCheck rfl rfl) ?_
  refine Gv (V_fieldAddr rfl rfl (by decide)) ?_
  refine Gv (V_load rfl rfl (Cell.own (.tail _ (.head _)) rfl)) ?_
  refine Gv (V_copy0 rfl rfl rfl rfl) ?_
  refine G.front (.tail _ (.head _ _)) ?_
  refine G_end (X_then (G_region ?_))
  refine Gm ?_
  refine Gm ?_
  refine Gv (V_nilCheck rfl rfl) ?_
  refine Gv (V_fieldAddr rfl rfl (by decide)) ?_
  refine G_storeAt rfl rfl rfl rfl rfl rfl (.none rfl) (.head _ _ _) (Nat.le_of_ble_eq_true rfl) (by simp only [putAll, Nat.zero_add, Nat.reduceAdd, List.setIfInBounds_toArray, List.set_cons_succ, List.set_cons_zero]; rfl) ?_
  refine G_end ?_
  refine G_leaveS_n (.keep _ (.keep _ (.nil _))) (by exact (.nil)) rfl ?_ ?_
  · exact (.refl _)
  exact ⟨_, ⟨_, ⟨(by assumption), ⟨(by kernel_rfl), ⟨rfl, rfl⟩⟩⟩⟩⟩
theorem Grow_parts (b : Nat) (n : Nat) (hn : n ≤ 1000000) (h1 : 1 ≤ n) :
    CallS Tryz.prog 53 #[.pointer (some ⟨b, 0, none⟩), .int .i64 n] E (.blk b (Bld.obj b false none 0 0) :: L)
      (fun r E' L' => ∃ a c, n ≤ c ∧ r = .tuple #[] ∧ E = E' ∧ L' = .blk b (Bld.obj b true (some ⟨a, 0, none⟩) 0 c) :: .sl 5 1 (some ⟨a, 0, none⟩) 0 c [] :: L) := by
  refine CallS.intro (l := [_, _]) _ Tryz.func53 rfl Tryz.ntmps53 rfl ?_
  refine G_seq (G_region ?_)
  refine Gm ?_
  refine G_call (k := 72) (.mk rfl rfl rfl rfl) rfl rfl (.none rfl) (copyCheck_call _ _ b false none 0 0) ?_
  rintro r1 E1 L1 hE1 ⟨rfl, rfl, rfl⟩
  simp only [Bld.obj]
  refine G_end (X_then (G_seq (G_seq (G_region ?_))))
  refine Gm ?_
  refine Gv (V_lss rfl rfl rfl) ?_
  refine G_end (X_then ?_)
  refine G_cond_f rfl (decide_eq_false (by omega)) ?_
  refine G_skip (X_then (G_seq ?_))
  refine G_draw mixed (by kernel_rfl) ?_
  refine Q_val (V_move rfl rfl) rfl rfl (.none rfl) ?_
  refine Q_val (V_nilCheck rfl rfl) rfl rfl (.none rfl) ?_
  refine Q_val (V_fieldAddr rfl rfl (by decide)) rfl rfl (.none rfl) ?_
  refine Q_val (V_load rfl rfl (Cell.own (.head _) rfl)) rfl rfl (.none rfl) ?_
  refine Q_val (V_cap rfl rfl) rfl rfl (.none rfl) ?_
  refine Q_val (V_move rfl rfl) rfl rfl (.none rfl) ?_
  refine Q_val (V_nilCheck rfl rfl) rfl rfl (.none rfl) ?_
  refine Q_val (V_fieldAddr rfl rfl (by decide)) rfl rfl (.none rfl) ?_
  refine Q_val (V_load rfl rfl (Cell.own (.head _) rfl)) rfl rfl (.none rfl) ?_
  refine Q_val (V_lenS rfl rfl) rfl rfl (.none rfl) ?_
  refine Q_val (V_sub_i64 rfl rfl rfl (by omega) (by omega)) rfl rfl (.none rfl) ?_
  refine Q_val (V_move rfl rfl) rfl rfl (.none rfl) ?_
  refine Q_val (V_lss rfl rfl rfl) rfl rfl (.none rfl) ?_
  refine Q_end ?_
  refine X_then ?_
  refine G_cond_t rfl (decide_eq_true (by omega)) ?_
  refine G_region ?_
  refine Gm ?_
  refine Gm ?_
  refine G_call (k := 73) (.mk rfl rfl rfl rfl) rfl rfl (.none rfl) (grow_parts _ _ b n hn true) ?_
  rintro r2 E2 L2 hE2 ⟨a, c, hc, rfl, rfl, rfl⟩
  refine G_end ?_
  refine G_leaveS_n (.keep _ (.keep _ (.nil _))) (by exact (.nil)) rfl ?_ ?_
  · exact (.refl _)
  exact ⟨_, ⟨_, ⟨(by assumption), ⟨(by kernel_rfl), ⟨rfl, rfl⟩⟩⟩⟩⟩
theorem Grow_call (b : Nat) (n : Nat) (hn : n ≤ 1000000) (h1 : 1 ≤ n) :
    CallS Tryz.prog 53 #[.pointer (some ⟨b, 0, none⟩), .int .i64 n] E (.bld b Bld.new :: L)
      (fun r E' L' => ∃ t, r = .tuple #[] ∧ E = E' ∧ t.xs = [] ∧ t.xs.length = 0 ∧ L' = .bld b t :: L) := fun w hw => by
  have hw2 := St.both.1 hw
  have hw3 : St E (.blk b (Bld.obj b false none 0 0) :: .sl 5 1 none 0 0 [] :: L) w := hw2
  have hw4 := (hw3.perm (List.Perm.swap _ _ _)).drop
  refine (Grow_parts E L b n hn h1 w hw4).mono ?_
  rintro e w' ⟨r, E', L', he, hE, hs, a', c', hc, hr, hE', hL⟩
  subst hL
  exact ⟨r, E', .bld b ⟨true, some ⟨a', 0, none⟩, c', [], .inr (by omega)⟩ :: L, he, hE, St.both.2 hs, _, hr, hE', rfl, rfl, rfl⟩
end
end Go.Proofs.YtaibabmladgldaaGreatDoor
set_option linter.unusedSimpArgs false
set_option linter.unusedVariables false
set_option maxHeartbeats 2000000
set_option maxRecDepth 20000
namespace Go.Proofs.YtaibabmladgldaaGreatDoor
open Go.RowKit
/-! strings.Join with one blank, any texts. -/
def jnS : List (List UInt8) → List UInt8
  | [] => []
  | x :: l => x ++ l.flatMap fun y => 32 :: y
theorem jnS_snoc (xs : List (List UInt8)) (v : List UInt8) (h : xs ≠ []) : jnS (xs ++ [v]) = (jnS xs ++ [32]) ++ v := by
  rcases xs with _ | ⟨x, xs⟩
  · exact absurd rfl h
  · simp [jnS]
/-- The bytes of the first texts. -/
def sumL (xs : List (List UInt8)) (i : Nat) : Nat := ((xs.take i).map List.length).sum
theorem sumL_succ {xs : List (List UInt8)} {i : Nat} (h : i < xs.length) : sumL xs (i + 1) = sumL xs i + xs[i].length := by
  rw [sumL, List.take_succ_eq_append_getElem h, List.map_append, List.sum_append]
  simp [sumL]
theorem sumL_le {xs : List (List UInt8)} (h1 : ∀ i (h : i < xs.length), xs[i].length ≤ 1000) : ∀ i, i ≤ xs.length → sumL xs i ≤ 1000 * i
  | 0, _ => by simp [sumL]
  | i + 1, h => by rw [sumL_succ h]; have := sumL_le h1 i (by omega); have := h1 i h; omega
section
variable (E : Env) (L : List Res)
theorem Join1_call (p : Option Addr) (c : Nat) (x : List UInt8) (hx : SlE E 1 p 1 (strs [x])) : CallV Tryz.prog 40 #[.slice p 1 c, .string (S [32])] E L (.string (S x)) := by
  have h0 := strs_get (l := [x]) (k := 0) (s := x) rfl
  refine CallS.toV (CallS.intro (l := [_, _]) _ Tryz.func40 rfl Tryz.ntmps40 rfl ?_)
  refine G_seq (G_region ?_)
  refine Ga ?_
  refine G_end (X_then (G_seq (G_seq (G_region ?_))))
  refine Gm ?_
  refine Gv (V_lenS rfl rfl) ?_
  refine G_end (X_then (G_block (G_seq (G_region ?_))))
  refine Gv (V_eql rfl rfl rfl) ?_
  refine Ga ?_
  refine G_end (X_then ?_)
  refine G_cond_f rfl (by kernel_rfl) ?_
  refine G_seq (G_region ?_)
  refine Gv (V_eql rfl rfl rfl) ?_
  refine Ga ?_
  refine G_end (X_then ?_)
  refine G_cond_t rfl (by kernel_rfl) ?_
  refine G_seq (G_region ?_)
  refine Gm ?_
  refine Gv (V_idxAddr rfl rfl rfl (SlE.rd (by assumption)) (by omega) (by omega)) ?_
  refine Gv (V_loadS rfl rfl (SlE.rd (by assumption)) (by assumption) (by simp)) ?_
  refine Ga ?_
  refine G_end (X_then (G_ret (X_block_ret (X_then_ret ?_))))
  refine G_leaveS (.nil _) (by exact (.cons (.tmp rfl) (.nil))) rfl ?_ ?_
  · exact (.refl _)
  exact ⟨rfl, rfl⟩
theorem JoinN_call (p : Option Addr) (n c : Nat) (xs : List (List UInt8)) (hx : SlE E 1 p n (strs xs)) (hc : n ≤ c) (h2 : 2 ≤ n) (h64 : n ≤ 64) (h1 : ∀ i (h : i < xs.length), xs[i].length ≤ 1000) : CallV Tryz.prog 40 #[.slice p n c, .string (S [32])] E L (.string (S (jnS xs))) := by
  have e := hx.nS
  subst e
  have hq : ¬ (IntKind.i64.wrap ((9223372036854775807 : Int).tdiv (xs.length - 1)) ≤ ((([32] : List UInt8).length : Nat) : Int)) := by
    have h5 : (9223372036854775807 : Int).tdiv ((xs.length : Int) - 1) = 9223372036854775807 / ((xs.length : Int) - 1) := Int.tdiv_eq_ediv_of_nonneg (by omega)
    have h6 : (100 : Int) ≤ 9223372036854775807 / ((xs.length : Int) - 1) := (Int.le_ediv_iff_mul_le (by omega)).2 (by omega)
    have h7 : 9223372036854775807 / ((xs.length : Int) - 1) ≤ 9223372036854775807 := Int.ediv_le_self _ (by omega)
    rw [h5, wrap_i64 (by omega) h7]
    simp only [List.length_singleton]
    omega
  have e5 : IntKind.i64.wrap (0 + IntKind.i64.wrap (((([32] : List UInt8).length : Nat) : Int) * (xs.length - 1))) = ((xs.length - 1 + sumL xs 0 : Nat) : Int) := by
    have h8 : ((([32] : List UInt8).length : Nat) : Int) * ((xs.length : Int) - 1) = (xs.length : Int) - 1 := by simp
    have h9 : sumL xs 0 = 0 := rfl
    rw [h8, h9, wrap_i64 (a := (xs.length : Int) - 1) (by omega) (by omega), wrap_i64 (by omega) (by omega)]
    omega
  refine CallS.toV (CallS.intro (l := [_, _]) _ Tryz.func40 rfl Tryz.ntmps40 rfl ?_)
  refine G_seq (G_region ?_)
  refine Ga ?_
  refine G_end (X_then (G_seq (G_seq (G_region ?_))))
  refine Gm ?_
  refine Gv (V_lenS rfl rfl) ?_
  refine G_end (X_then (G_block (G_seq (G_region ?_))))
  refine Gv (V_eql rfl rfl rfl) ?_
  refine Ga ?_
  refine G_end (X_then ?_)
  refine G_cond_f rfl (decide_eq_false (by omega)) ?_
  refine G_seq (G_region ?_)
  refine Gv (V_eql rfl rfl rfl) ?_
  refine Ga ?_
  refine G_end (X_then ?_)
  refine G_cond_f rfl (decide_eq_false (by omega)) ?_
  refine G_skip (X_block (X_then (G_seq (G_region ?_))))
  refine Ga ?_
  refine G_end (X_then (G_seq (G_seq (G_region ?_))))
  refine Gm ?_
  refine Gv (V_len rfl rfl) ?_
  refine Gv (V_gtr rfl rfl rfl) ?_
  refine G_end (X_then ?_)
  refine G_cond_t rfl (by kernel_rfl) ?_
  refine G_seq (G_seq (G_region ?_))
  refine Gm ?_
  refine Gv (V_len rfl rfl) ?_
  refine Gm ?_
  refine Gv (V_lenS rfl rfl) ?_
  refine Gv (V_sub_i64 rfl rfl rfl (by omega) (by omega)) ?_
  refine Gv (V_quo rfl rfl rfl (by omega)) ?_
  refine Gv (V_geq rfl rfl rfl) ?_
  refine G_end (X_then ?_)
  refine G_cond_f rfl (decide_eq_false (by omega)) ?_
  refine G_skip (X_then (G_region ?_))
  refine Gm ?_
  refine Gm ?_
  refine Gv (V_len rfl rfl) ?_
  refine Gm ?_
  refine Gv (V_lenS rfl rfl) ?_
  refine Gv (V_sub_i64 rfl rfl rfl (by omega) (by omega)) ?_
  refine Gv (V_mul rfl rfl rfl) ?_
  refine Gv (V_add rfl rfl rfl) ?_
  refine Ga ?_
  refine G_end (X_then (G_seq (G_seq (G_region ?_))))
  refine Gm ?_
  refine Gv (V_lenS rfl rfl) ?_
  refine Gm ?_
  refine G_end (X_then (G_block ?_))
  rw [e5]
  refine G_loop (α := Nat) (fun i => [(0, .slice p xs.length c), (1, .string (S [32])), (5, .int .i64 ((xs.length - 1 + sumL xs i : Nat) : Int)), (39, .slice p xs.length c), (40, .int .i64 xs.length), (41, .int .i64 (i : Nat))]) (fun _ => E) (fun _ => L)
    (fun i => i ≤ xs.length) (fun i => xs.length - i) 0 (Nat.zero_le _) ⟨rfl, rfl, rfl, rfl, rfl, rfl, trivial⟩ rfl rfl ?_
  rintro i hi
  have hsi := sumL_le h1 i hi
  by_cases hlt : i < xs.length
  · have h0 := strs_get (List.getElem?_eq_getElem hlt)
    have h5 := h1 i hlt
    refine G_seq (G_region ?_)
    refine Gv (V_lss rfl rfl rfl) ?_
    refine G_end (X_then (G_seq ?_))
    refine G_cond_t rfl (decide_eq_true (by omega)) ?_
    refine G_skip (X_then (G_seq (G_block (G_seq (G_region ?_)))))
    refine Gv (V_idxAddr rfl rfl rfl (SlE.rd (by assumption)) (by omega) (by omega)) ?_
    refine Gv (V_loadS rfl rfl (SlE.rd (by assumption)) (by assumption) (by simp)) ?_
    refine Ga ?_
    refine G_end (X_then (G_seq (G_seq (G_region ?_))))
    refine Gm ?_
    refine Gv (V_len rfl rfl) ?_
    refine Gm ?_
    refine Gv (V_sub_i64 rfl rfl rfl (by omega) (by omega)) ?_
    refine Gv (V_gtr rfl rfl rfl) ?_
    refine G_end (X_then ?_)
    refine G_cond_f rfl (decide_eq_false (by omega)) ?_
    refine G_skip (X_then (G_region ?_))
    refine Gm ?_
    refine Gm ?_
    refine Gv (V_len rfl rfl) ?_
    refine Gv (V_add_i64 rfl rfl rfl (by omega) (by omega)) ?_
    refine Ga ?_
    refine G_end (X_block (X_then (G_region ?_)))
    refine Gv (V_add_i64 rfl rfl rfl (by omega) (by omega)) ?_
    refine Gm ?_
    refine G_end (X_then ?_)
    rw [show ((xs.length - 1 + sumL xs i : Nat) : Int) + (xs[i].length : Nat) = ((xs.length - 1 + sumL xs (i + 1) : Nat) : Int) by rw [sumL_succ hlt]; omega]
    exact G_again (i + 1) hlt (by omega) ⟨rfl, rfl, rfl, rfl, rfl, rfl, trivial⟩ rfl rfl
  · obtain rfl : i = xs.length := by omega
    have h0 := strs_get (List.getElem?_eq_getElem (l := xs) (i := 0) (by omega))
    have h5 := h1 0 (by omega)
    have htl : SlE E 1 (tailAt p 1 c 1) (xs.length - 1) (strs (xs.drop 1)) := by
      have := hx.tail (l := 1) (c := c) (by omega) hc
      simpa [strs] using this
    refine G_seq (G_region ?_)
    refine Gv (V_lss rfl rfl rfl) ?_
    refine G_end (X_then (G_seq ?_))
    refine G_cond_f rfl (decide_eq_false (by omega)) ?_
    refine G_exit (X_then_exit (X_then_exit (X_block_hit (X_then (G_seq (G_region ?_))))))
    (refine G_alloc rfl rfl rfl (.none rfl) ?_; intro b8)
    refine G_end (X_then (G_seq (G_region ?_)))
    refine Gm ?_
    refine G.bldNew ?_
    refine G_call (k := 53) (.mk rfl rfl rfl rfl) rfl rfl (.none rfl) (Grow_call _ _ _ _ (by omega) (by omega)) ?_
    rintro r1 E2 L3 hE4 ⟨z5, ⟨rfl, ⟨rfl, ⟨Z6, ⟨Z7, rfl⟩⟩⟩⟩⟩
    replace hx := hx.mono hE4
    replace htl := htl.mono hE4
    refine G_end (X_then (G_seq (G_region ?_)))
    refine Gm ?_
    refine Gv (V_idxAddr rfl rfl rfl (SlE.rd (by assumption)) (by omega) (by omega)) ?_
    refine Gv (V_loadS rfl rfl (SlE.rd (by assumption)) (by assumption) (by simp)) ?_
    refine G_call (k := 54) (.mk rfl rfl rfl rfl) rfl rfl (.none rfl) (WriteString_call _ _ _ _ _ (by omega)) ?_
    rintro r8 E9 L10 hE11 ⟨z12, ⟨rfl, ⟨rfl, ⟨Z13, ⟨Z14, rfl⟩⟩⟩⟩⟩
    replace hx := hx.mono hE11
    replace htl := htl.mono hE11
    refine G_end (X_then (G_seq (G_seq (G_region ?_))))
    refine Gm ?_
    refine Gv (V_slTail1 rfl rfl rfl (by omega)) ?_
    refine Gv (V_lenS rfl rfl) ?_
    refine Gm ?_
    refine G_end (X_then (G_block ?_))
    have hs1 : jnS (xs.take (0 + 1)) = xs[0] := by
      rw [List.take_succ_eq_append_getElem (by omega)]; simp [jnS]
    rw [Z6, List.nil_append, ← hs1] at Z13
    rw [Z7] at Z14
    refine G_loop (α := Nat × Bld) (fun x => [(1, .string (S [32])), (8, .pointer (some ⟨b8, 0, none⟩)), (63, .slice (tailAt p 1 c 1) (xs.length - 1) (c - 1)), (64, .int .i64 (xs.length - 1 : Nat)), (65, .int .i64 (x.1 : Nat))]) (fun _ => E9)
      (fun x => .bld b8 x.2 :: L) (fun x => x.1 ≤ xs.length - 1 ∧ x.2.xs = jnS (xs.take (x.1 + 1)) ∧ x.2.xs.length ≤ 1001 * x.1 + 1000) (fun x => xs.length - x.1) (0, z12) ⟨Nat.zero_le _, Z13, by show z12.xs.length ≤ _; omega⟩ ⟨rfl, rfl, rfl, rfl, rfl, trivial⟩ rfl rfl ?_
    rintro ⟨j, t⟩ ⟨hj, ht, htl2⟩
    simp only at hj ht htl2 ⊢
    by_cases hltj : j < xs.length - 1
    · have hg : (strs (xs.drop 1))[j]? = some (.string (S (xs[1 + j]'(by omega)))) := strs_get (by rw [List.getElem?_drop, List.getElem?_eq_getElem (by omega)])
      have h6 := h1 (1 + j) (by omega)
      have hsn : jnS (xs.take (j + 1 + 1)) = (jnS (xs.take (j + 1)) ++ [32]) ++ xs[1 + j]'(by omega) := by
        rw [List.take_succ_eq_append_getElem (by omega), jnS_snoc _ _ (fun h => by have := congrArg List.length h; rw [List.length_take, List.length_nil] at this; omega)]
        congr 2
        omega
      have h32 : ([32] : List UInt8).length = 1 := rfl
      clear hx h0
      refine G_seq (G_region ?_)
      refine Gv (V_lss rfl rfl rfl) ?_
      refine G_end (X_then (G_seq ?_))
      refine G_cond_t rfl (decide_eq_true (by omega)) ?_
      refine G_skip (X_then (G_seq (G_block (G_seq (G_region ?_)))))
      refine Gv (V_idxAddr rfl rfl rfl (SlE.rd (by assumption)) (by omega) (by omega)) ?_
      refine Gv (V_loadS rfl rfl (SlE.rd (by assumption)) (by assumption) (by simp)) ?_
      refine Ga ?_
      refine G_end (X_then (G_seq (G_region ?_)))
      refine Gm ?_
      refine G_call (k := 54) (.mk rfl rfl rfl rfl) rfl rfl (.none rfl) (WriteString_call _ _ _ _ _ (by omega)) ?_
      rintro r1 E2 L3 hE5 ⟨z6, ⟨rfl, ⟨rfl, ⟨Z8, ⟨Z9, rfl⟩⟩⟩⟩⟩
      replace htl := htl.mono hE5
      refine G_end (X_then (G_region ?_))
      refine Gm ?_
      refine G_call (k := 54) (.mk rfl rfl rfl rfl) rfl rfl (.none rfl) (WriteString_call _ _ _ _ _ (by omega)) ?_
      rintro r10 E11 L12 hE13 ⟨z14, ⟨rfl, ⟨rfl, ⟨Z15, ⟨Z16, rfl⟩⟩⟩⟩⟩
      replace htl := htl.mono hE13
      refine G_end (X_block (X_then (G_region ?_)))
      refine Gv (V_add_i64 rfl rfl rfl (by omega) (by omega)) ?_
      refine Gm ?_
      refine G_end (X_then ?_)
      exact G_again (j + 1, z14) ⟨by show j + 1 ≤ _; omega, by show z14.xs = _; rw [Z15, Z8, ht, hsn], by show z14.xs.length ≤ 1001 * (j + 1) + 1000; omega⟩ (by show xs.length - (j + 1) < xs.length - j; omega) ⟨rfl, rfl, rfl, rfl, rfl, trivial⟩ rfl rfl
    · obtain rfl : j = xs.length - 1 := by omega
      rw [show xs.length - 1 + 1 = xs.length by omega, List.take_length] at ht
      rw [← ht]
      refine G_seq (G_region ?_)
      refine Gv (V_lss rfl rfl rfl) ?_
      refine G_end (X_then (G_seq ?_))
      refine G_cond_f rfl (decide_eq_false (by omega)) ?_
      refine G_exit (X_then_exit (X_then_exit (X_block_hit (X_then (G_seq (G_region ?_))))))
      refine G_call (k := 55) (.mk rfl rfl rfl rfl) rfl rfl (.none rfl) (BString_call _ _ _ _ (by omega)) ?_
      rintro r1 E2 L3 hE5 ⟨rfl, ⟨rfl, rfl⟩⟩
      replace hx := hx.mono hE5
      replace htl := htl.mono hE5
      refine Ga ?_
      refine G_end (X_then (G_ret ?_))
      refine G_leaveS (.nil _) (by exact (.cons (.tmp rfl) (.nil))) rfl ?_ ?_
      · exact (.refl _)
      exact ⟨rfl, rfl⟩
end
end Go.Proofs.YtaibabmladgldaaGreatDoor
set_option linter.unusedSimpArgs false
set_option linter.unusedVariables false
set_option maxHeartbeats 2000000
set_option maxRecDepth 20000
namespace Go.Proofs.YtaibabmladgldaaGreatDoor
open Go.RowKit
/-! stack.Text. -/
def dgb (x : Int) : UInt8 := UInt8.ofNat (48 + x.toNat)
/-- The digits of a number below 1,000. -/
def dec (x : Int) : List UInt8 := if x < 10 then [dgb x] else if x < 100 then [dgb (x / 10), dgb (x % 10)] else [dgb (x / 100), dgb (x / 10 % 10), dgb (x % 10)]
theorem dec_len (x : Int) : 1 ≤ (dec x).length ∧ (dec x).length ≤ 3 := by unfold dec; split; simp; split <;> simp
def spT (s : Spt) : List UInt8 := (dec s.1 ++ [58]) ++ dec s.2
theorem spT_len (s : Spt) : (spT s).length ≤ 7 := by
  have h1 := dec_len s.1
  have h2 := dec_len s.2
  simp only [spT, List.length_append, List.length_singleton]
  omega
abbrev badT (s : Spt) : Prop := min s.1 s.2 < 0 ∨ 999 < max s.1 s.2
def txtE : List Spt → Int
  | [] => 0
  | s :: l => if badT s then 2 else txtE l
def txtM (l : List Spt) : List UInt8 × Int := if 64 < l.length then ([], 21) else if txtE l ≠ 0 then ([], 2) else if l = [] then ([45], 0) else (jnS (l.map spT), 0)
theorem txtE_drop {l : List Spt} {k : Nat} {s : Spt} (h : l[k]? = some s) : txtE (l.drop k) = if badT s then 2 else txtE (l.drop (k + 1)) := by
  rw [List.drop_eq_getElem_cons (List.getElem?_eq_some_iff.1 h).1, (List.getElem?_eq_some_iff.1 h).2]
  rfl
section
variable (E : Env) (L : List Res)
/-- strconv.Itoa writes this number so. -/
def ItoaOk (E : Env) (x : Int) : Prop := ∀ L0, CallV Tryz.prog 39 #[.int .i64 x] E L0 (.string (S (dec x)))
theorem ItoaO_call (x : Int) (h : ItoaOk E x) : CallV Tryz.prog 39 #[.int .i64 x] E L (.string (S (dec x))) := h L
theorem SText_call (I : Int → Prop) (hI : ∀ (E0 : Env) (x : Int), E.Le E0 → I x → ItoaOk E0 x) (p : Option Addr) (n c : Nat) (l : List Spt) (hs : SlE E 2 p n (spC l)) (hn : n ≤ 9223372036854775807)
    (hi : ∀ s, s ∈ l → ¬ badT s → I s.1 ∧ I s.2) : CallS Tryz.prog 26 #[.slice p n c] E L (fun r E' L' => r = .tuple #[.string (S (txtM l).1), .int .i64 (txtM l).2] ∧ L' = L) := by
  have en := hs.nSp
  subst en
  unfold txtM
  by_cases h64 : 64 < l.length
  · rw [if_pos h64]
    refine CallS.intro (l := [_]) _ Tryz.func26 rfl Tryz.ntmps26 rfl ?_
    refine G_seq (G_region ?_)
    (refine G_alloc rfl rfl rfl (.none rfl) ?_; intro b2)
    (refine G_alloc rfl rfl rfl (.none rfl) ?_; intro b3)
    refine G_end (X_then (G_seq (G_seq (G_region ?_))))
    refine Gm ?_
    refine Gv (V_lenS rfl rfl) ?_
    refine Gv (V_gtr rfl rfl rfl) ?_
    refine G_end (X_then ?_)
    refine G_cond_t rfl (decide_eq_true (by omega)) ?_
    refine G_seq (G_region ?_)
    refine G_store1 rfl rfl rfl rfl rfl rfl (.none rfl) (.tail _ (.head _ _ _)) ?_
    refine G_store1 rfl rfl rfl rfl rfl rfl (.none rfl) (.head _ _ _) ?_
    refine G_end (X_then (G_ret (X_then_ret ?_)))
    refine G_leaveS (.drop _ (.drop _ (.nil _))) (by exact (.cons (.cell1 rfl (Cell.own1 (.tail _ (.head _)))) (.cons (.cell1 rfl (Cell.own1 (.head _))) (.nil)))) rfl ?_ ?_
    · exact (.refl _)
    exact ⟨(by kernel_rfl), rfl⟩
  rw [if_neg h64]
  refine CallS.intro (l := [_]) _ Tryz.func26 rfl Tryz.ntmps26 rfl ?_
  refine G_seq (G_region ?_)
  (refine G_alloc rfl rfl rfl (.none rfl) ?_; intro b2)
  (refine G_alloc rfl rfl rfl (.none rfl) ?_; intro b3)
  refine G_end (X_then (G_seq (G_seq (G_region ?_))))
  refine Gm ?_
  refine Gv (V_lenS rfl rfl) ?_
  refine Gv (V_gtr rfl rfl rfl) ?_
  refine G_end (X_then ?_)
  refine G_cond_f rfl (decide_eq_false (by omega)) ?_
  refine G_skip (X_then (G_seq (G_region ?_)))
  (refine G_alloc rfl rfl rfl (.none rfl) ?_; intro b4)
  refine G_end (X_then (G_seq (G_seq (G_region ?_))))
  refine Gm ?_
  refine G_call (k := 35) (.mk rfl rfl rfl rfl) rfl rfl (.none rfl) (spots_call _ _ _ _ _) ?_
  rintro r1 E2 L3 hE4 ⟨z5, ⟨rfl, ⟨rfl, rfl⟩⟩⟩
  replace hs := hs.mono hE4
  refine G_end (X_then (G_block ?_))
  refine G.nilSl 9 1 ?_
  refine G.front (.tail _ (.head _ _)) ?_
  refine G_rangeI (σ := Env × Option Addr × Nat × List (List UInt8) × Int) (enc := spEnc) rfl (iter_spots E z5 p _ c l hs (by omega)) (fun v => v.1)
    (fun v => .sl 9 1 v.2.1 v.2.2.2.1.length v.2.2.1 (strs v.2.2.2.1) :: .blk b4 (.cells #[.slice v.2.1 v.2.2.2.1.length v.2.2.1] 30 (0, 0)) :: .blk b3 (.cells #[.int .i64 v.2.2.2.2] 24 (0, 0)) :: .blk b2 (.cells #[.string (S [])] 9 (0, 0)) :: L)
    (fun pre v => v.2.2.2.2 = 0 ∧ v.2.2.2.1 = pre.map (fun x => spT x.1) ∧ txtE l = txtE (l.drop pre.length)) (fun q pre v => q = .ret ∧ v.2.2.2.2 = 2 ∧ txtE l = 2) (E, none, 0, [], 0) ⟨rfl, rfl, rfl⟩ rfl (.refl _) rfl (fun _ => rfl) ?_ ?_ ?_
  · rintro y D tm fn M pre ⟨⟨sp, sd⟩, j⟩ ⟨E1, a, ca, ts, e⟩ hpre ⟨rfl, hts, hst⟩ hE
    obtain ⟨hx, hj, hlt⟩ := zip_pre hpre
    simp only at hx hj hst hts hE
    rw [txtE_drop hx] at hst
    simp only [List.cons_append]
    dsimp only [spEnc]
    by_cases hb1 : min sp sd < 0
    · rw [if_pos (by simp only [badT]; omega)] at hst
      refine G_region ?_
      (refine G_alloc rfl rfl rfl (.none rfl) ?_; intro b6)
      refine G_storeA rfl rfl rfl rfl (by simp [Value.oneCell']) rfl (.none rfl) (.head _ _ _) rfl ?_
      refine G_end (X_then ?_)
      refine G_begin (.tail _ (.head _ _ _)) ?_
      refine G_block (G_seq (G_seq (G_region ?_)))
      refine Gv (V_fieldAddr rfl rfl (by decide)) ?_
      refine Gv (V_load rfl rfl (Cell.own (.head _) rfl)) ?_
      refine Gv (V_fieldAddr rfl rfl (by decide)) ?_
      refine Gv (V_load rfl rfl (Cell.own (.head _) rfl)) ?_
      refine Gv (V_min rfl rfl rfl) ?_
      refine Gv (V_lss rfl rfl rfl) ?_
      refine Gm ?_
      refine G.bool_t 20 rfl (decide_eq_true (by omega)) ?_
      refine Gn ?_
      refine Gn ?_
      refine Gn ?_
      refine Gn ?_
      refine Gn ?_
      refine Gn ?_
      refine Gv (V_pick_t rfl rfl rfl) ?_
      refine G_end (X_then ?_)
      refine G_cond_t rfl rfl ?_
      refine G_seq (G_region ?_)
      refine G_store1 rfl rfl rfl rfl rfl rfl (.none rfl) (.tail _ (.tail _ (.tail _ (.tail _ (.tail _ (.tail _ (.head _ _ _))))))) ?_
      refine G_store1 rfl rfl rfl rfl rfl rfl (.none rfl) (.tail _ (.tail _ (.tail _ (.tail _ (.tail _ (.head _ _ _)))))) ?_
      refine G_end (X_then (G_ret (X_then_ret (X_block_ret ?_))))
      refine G.drop ?_
      exact G_rRet (E1, a, ca, ts, 2) ⟨rfl, rfl, hst⟩ rfl (.refl _) rfl
    by_cases hb2 : 999 < max sp sd
    · rw [if_pos (by simp only [badT]; omega)] at hst
      refine G_region ?_
      (refine G_alloc rfl rfl rfl (.none rfl) ?_; intro b6)
      refine G_storeA rfl rfl rfl rfl (by simp [Value.oneCell']) rfl (.none rfl) (.head _ _ _) rfl ?_
      refine G_end (X_then ?_)
      refine G_begin (.tail _ (.head _ _ _)) ?_
      refine G_block (G_seq (G_seq (G_region ?_)))
      refine Gv (V_fieldAddr rfl rfl (by decide)) ?_
      refine Gv (V_load rfl rfl (Cell.own (.head _) rfl)) ?_
      refine Gv (V_fieldAddr rfl rfl (by decide)) ?_
      refine Gv (V_load rfl rfl (Cell.own (.head _) rfl)) ?_
      refine Gv (V_min rfl rfl rfl) ?_
      refine Gv (V_lss rfl rfl rfl) ?_
      refine Gm ?_
      refine G.bool_f 20 rfl (decide_eq_false (by omega)) ?_
      refine Gy (V_fieldAddr rfl rfl (by decide)) ?_
      refine Gy (V_load rfl rfl (Cell.own (.head _) rfl)) ?_
      refine Gy (V_fieldAddr rfl rfl (by decide)) ?_
      refine Gy (V_load rfl rfl (Cell.own (.head _) rfl)) ?_
      refine Gy (V_max rfl rfl rfl) ?_
      refine Gy (V_gtr rfl rfl rfl) ?_
      refine Gv (V_pick_f rfl rfl rfl) ?_
      refine G_end (X_then ?_)
      refine G_cond_t rfl (decide_eq_true (by omega)) ?_
      refine G_seq (G_region ?_)
      refine G_store1 rfl rfl rfl rfl rfl rfl (.none rfl) (.tail _ (.tail _ (.tail _ (.tail _ (.tail _ (.tail _ (.head _ _ _))))))) ?_
      refine G_store1 rfl rfl rfl rfl rfl rfl (.none rfl) (.tail _ (.tail _ (.tail _ (.tail _ (.tail _ (.head _ _ _)))))) ?_
      refine G_end (X_then (G_ret (X_then_ret (X_block_ret ?_))))
      refine G.drop ?_
      exact G_rRet (E1, a, ca, ts, 2) ⟨rfl, rfl, hst⟩ rfl (.refl _) rfl
    have hb : ¬ badT (sp, sd) := by simp only [badT]; omega
    rw [if_neg hb] at hst
    obtain ⟨i1, i2⟩ := hi (sp, sd) (List.mem_of_getElem? hx) hb
    have h1 := hI E1 sp hE i1
    have h2 := hI E1 sd hE i2
    have l1 := dec_len sp
    have l2 := dec_len sd
    have htl : ts.length = pre.length := by rw [hts, List.length_map]
    -- the region's end would let go what stands behind an append
    obtain ⟨LM, hLM⟩ : ∃ X, L ++ M = X := ⟨_, rfl⟩
    rw [hLM]
    refine G_region ?_
    (refine G_alloc rfl rfl rfl (.none rfl) ?_; intro b6)
    refine G_storeA rfl rfl rfl rfl (by simp [Value.oneCell']) rfl (.none rfl) (.head _ _ _) rfl ?_
    refine G_end (X_then ?_)
    refine G_begin (.tail _ (.head _ _ _)) ?_
    refine G_block (G_seq (G_seq (G_region ?_)))
    refine Gv (V_fieldAddr rfl rfl (by decide)) ?_
    refine Gv (V_load rfl rfl (Cell.own (.head _) rfl)) ?_
    refine Gv (V_fieldAddr rfl rfl (by decide)) ?_
    refine Gv (V_load rfl rfl (Cell.own (.head _) rfl)) ?_
    refine Gv (V_min rfl rfl rfl) ?_
    refine Gv (V_lss rfl rfl rfl) ?_
    refine Gm ?_
    refine G.bool_f 20 rfl (decide_eq_false (by omega)) ?_
    refine Gy (V_fieldAddr rfl rfl (by decide)) ?_
    refine Gy (V_load rfl rfl (Cell.own (.head _) rfl)) ?_
    refine Gy (V_fieldAddr rfl rfl (by decide)) ?_
    refine Gy (V_load rfl rfl (Cell.own (.head _) rfl)) ?_
    refine Gy (V_max rfl rfl rfl) ?_
    refine Gy (V_gtr rfl rfl rfl) ?_
    refine Gv (V_pick_f rfl rfl rfl) ?_
    refine G_end (X_then ?_)
    refine G_cond_f rfl (decide_eq_false (by omega)) ?_
    refine G_skip (X_then ?_)
    refine G_drawX 12 [(0, 1), (1, 0), (2, 1), (5, 0), (6, 1), (3, 3), (4, 0), (7, 3), (8, 0), (9, 2), (10, 4), (11, 4)] mixed (by kernel_rfl) ?_
    refine F_load rfl (.tail _ (.tail _ (.tail _ (.tail _ (.head _))))) (V_load rfl rfl (Cell.own1 (.head _))) rfl rfl (.none rfl) ?_
    refine F_pure rfl (fun _ _ => V_fieldAddr rfl rfl (by decide)) rfl rfl (.none rfl) ?_
    refine F_load rfl (.head _) (V_load rfl rfl (Cell.own (.head _) rfl)) rfl rfl (.none rfl) ?_
    refine F_pure rfl (fun _ _ => V_fieldAddr rfl rfl (by decide)) rfl rfl (.none rfl) ?_
    refine F_load rfl (.head _) (V_load rfl rfl (Cell.own (.head _) rfl)) rfl rfl (.none rfl) ?_
    refine F_callv (k := 39) rfl (.mk rfl rfl rfl rfl) rfl rfl (.none rfl) (fun _ => ItoaO_call _ _ _ (by assumption)) ?_
    refine F_pure rfl (fun _ _ => V_cat rfl rfl rfl (by simp; omega)) rfl rfl (.none rfl) ?_
    refine F_callv (k := 39) rfl (.mk rfl rfl rfl rfl) rfl rfl (.none rfl) (fun _ => ItoaO_call _ _ _ (by assumption)) ?_
    refine F_pure rfl (fun _ _ => V_cat rfl rfl rfl (by simp; omega)) rfl rfl (.none rfl) ?_
    (refine F_litZ rfl rfl rfl (by decide) (by simp [fillS, zeros, setLs, setL, Value.cells, List.range, List.range.loop]; rfl) (by rfl) rfl rfl (.none rfl) ?_; intro b37 E37 hE37 hs37)
    (refine F_appendT rfl rfl rfl rfl (by assumption) (by simp [Value.oneCell', strs, i64s]) (by omega) (by omega) rfl rfl (.none rfl) (fun _ _ => (.tail _ (.tail _ (.tail _ (.head _ _ _))))) ?_; intro a38 c38; refine ⟨_, (.drop (by kernel_rfl) (.drop (by kernel_rfl) (.drop (by kernel_rfl) (.nil)))), ?_⟩)
    refine F_store1 rfl rfl rfl rfl rfl rfl rfl (.none rfl) (.tail _ (.tail _ (.tail _ (.tail _ (.head _ _ _))))) (.nil) ?_
    (refine F_end (.nil _) ?_; dsimp only [List.drop])
    refine G_end (X_block ?_)
    refine G.drop ?_
    rw [← hLM]
    have zl : (ts ++ [spT (sp, sd)]).length = ts.length + 1 := by simp
    have zs : strs ts ++ [Value.string (S (dec sp ++ 58 :: dec sd))] = strs (ts ++ [spT (sp, sd)]) := by simp [strs, spT]
    rw [zs, ← zl]
    exact G_rEnd (E37, a38, c38, ts ++ [spT (sp, sd)], 0) ⟨rfl, by simp only [hts, List.map_append, List.map_cons, List.map_nil], by simp only [List.length_append, List.length_singleton]; exact hst⟩ rfl hE37 rfl
  · rintro D ⟨E1, a, ca, ts, e⟩ ⟨rfl, hts, hst⟩ hE
    rw [List.length_zipIdx, List.drop_length] at hst
    simp only at hts hE ⊢
    have hts2 : ts = l.map spT := by rw [hts]; apply List.ext_getElem <;> simp
    have htl : ts.length = l.length := by rw [hts2, List.length_map]
    rw [if_neg (by rw [hst]; simp [txtE])]
    by_cases hl0 : l = []
    · have hl1 : ts.length = 0 := by rw [htl, hl0]; rfl
      rw [if_pos hl0]
      refine X_block (X_then (G_seq (G_seq (G_region ?_))))
      refine Gv (V_load rfl rfl (Cell.own1 (.tail _ (.tail _ (.head _))))) ?_
      refine Gv (V_lenS rfl rfl) ?_
      refine Gv (V_eql rfl rfl rfl) ?_
      refine G_end (X_then ?_)
      refine G_cond_t rfl (decide_eq_true (by omega)) ?_
      refine G_seq (G_region ?_)
      refine G_store1 rfl rfl rfl rfl rfl rfl (.none rfl) (.tail _ (.tail _ (.tail _ (.tail _ (.head _ _ _))))) ?_
      refine G_store1 rfl rfl rfl rfl rfl rfl (.none rfl) (.tail _ (.tail _ (.tail _ (.head _ _ _)))) ?_
      refine G_end (X_then (G_ret (X_then_ret ?_)))
      refine G_leave_ms [D] ?_
      refine G_leaveS (.drop _ (.drop _ (.drop _ (.drop _ (.nil _))))) (by exact (.cons (.cell1 rfl (Cell.own1 (.tail _ (.tail _ (.tail _ (.head _)))))) (.cons (.cell1 rfl (Cell.own1 (.tail _ (.tail _ (.head _))))) (.nil)))) rfl ?_ ?_
      · exact hE
      exact ⟨(by kernel_rfl), rfl⟩
    · rw [if_neg hl0, ← hts2]
      have hlp : 0 < ts.length := by rw [htl]; exact List.length_pos_iff.2 hl0
      refine G.freezeSl (.tail _ (.head _ _)) ?_
      intro E2 hE2 hts3 hca
      have h7 : ∀ i (h : i < ts.length), ts[i].length ≤ 1000 := fun i h => by
        simp only [hts2, List.getElem_map]; have := spT_len (l[i]'(by omega)); omega
      by_cases hl1 : ts.length = 1
      · obtain ⟨x, rfl⟩ := List.length_eq_one_iff.1 hl1
        have hj1 : jnS [x] = x := by simp [jnS]
        rw [hj1]
        refine X_block (X_then (G_seq (G_seq (G_region ?_))))
        refine Gv (V_load rfl rfl (Cell.own1 (.tail _ (.head _)))) ?_
        refine Gv (V_lenS rfl rfl) ?_
        refine Gv (V_eql rfl rfl rfl) ?_
        refine G_end (X_then ?_)
        refine G_cond_f rfl (decide_eq_false (by omega)) ?_
        refine G_skip (X_then (G_seq (G_region ?_)))
        refine Gv (V_load rfl rfl (Cell.own1 (.tail _ (.head _)))) ?_
        refine G_callv (k := 40) (.mk rfl rfl rfl rfl) rfl rfl (.none rfl) (Join1_call _ _ a ca x hts3) ?_
        refine G_store1 rfl rfl rfl rfl rfl rfl (.none rfl) (.tail _ (.tail _ (.tail _ (.head _ _ _)))) ?_
        refine G_store1 rfl rfl rfl rfl rfl rfl (.none rfl) (.tail _ (.tail _ (.head _ _ _))) ?_
        refine G_end (X_then (G_ret ?_))
        refine G_leave_ms [D] ?_
        refine G_leaveS (.drop _ (.drop _ (.drop _ (.nil _)))) (by exact (.cons (.cell1 rfl (Cell.own1 (.tail _ (.tail _ (.head _))))) (.cons (.cell1 rfl (Cell.own1 (.tail _ (.head _)))) (.nil)))) rfl ?_ ?_
        · exact (hE.trans hE2)
        exact ⟨rfl, rfl⟩
      · refine X_block ?_
        refine X_then (G_seq (G_seq (G_region ?_)))
        refine Gv (V_load rfl rfl (Cell.own1 (.tail _ (.head _)))) ?_
        refine Gv (V_lenS rfl rfl) ?_
        refine Gv (V_eql rfl rfl rfl) ?_
        refine G_end (X_then ?_)
        refine G_cond_f rfl (decide_eq_false (by omega)) ?_
        refine G_skip (X_then (G_seq (G_region ?_)))
        refine Gv (V_load rfl rfl (Cell.own1 (.tail _ (.head _)))) ?_
        refine G_callv (k := 40) (.mk rfl rfl rfl rfl) rfl rfl (.none rfl) (JoinN_call _ _ a _ ca ts hts3 hca (by omega) (by omega) h7) ?_
        refine G_store1 rfl rfl rfl rfl rfl rfl (.none rfl) (.tail _ (.tail _ (.tail _ (.head _ _ _)))) ?_
        refine G_store1 rfl rfl rfl rfl rfl rfl (.none rfl) (.tail _ (.tail _ (.head _ _ _))) ?_
        refine G_end (X_then (G_ret ?_))
        refine G_leave_ms [D] ?_
        refine G_leaveS (.drop _ (.drop _ (.drop _ (.nil _)))) (by exact (.cons (.cell1 rfl (Cell.own1 (.tail _ (.tail _ (.head _))))) (.cons (.cell1 rfl (Cell.own1 (.tail _ (.head _)))) (.nil)))) rfl ?_ ?_
        · exact (hE.trans hE2)
        exact ⟨rfl, rfl⟩
  · rintro D q pre ⟨E1, a, ca, ts, e⟩ hpre ⟨rfl, rfl, hst⟩ hE
    simp only at hE ⊢
    refine G_ret (X_block_ret (X_then_ret ?_))
    refine G_leave_ms [D] ?_
    rw [if_pos (by omega)]
    refine G_leaveS (.drop _ (.drop _ (.drop _ (.drop _ (.nil _))))) (by exact (.cons (.cell1 rfl (Cell.own1 (.tail _ (.tail _ (.tail _ (.head _)))))) (.cons (.cell1 rfl (Cell.own1 (.tail _ (.tail _ (.head _))))) (.nil)))) rfl ?_ ?_
    · exact hE
    exact ⟨(by kernel_rfl), rfl⟩
end
end Go.Proofs.YtaibabmladgldaaGreatDoor
set_option linter.unusedSimpArgs false
set_option linter.unusedVariables false
set_option maxHeartbeats 2000000
set_option maxRecDepth 20000
namespace Go.Proofs.YtaibabmladgldaaGreatDoor
open Go.RowKit
/-- A string cut at the first byte c. -/
def cutB (c : UInt8) : List UInt8 → List UInt8 × List UInt8 × Bool
  | [] => ([], [], false)
  | b :: l => if b = c then ([], l, true) else (b :: (cutB c l).1, (cutB c l).2.1, (cutB c l).2.2)
theorem cutB_found {c : UInt8} : ∀ {s : List UInt8}, (cutB c s).2.2 = true → s = (cutB c s).1 ++ c :: (cutB c s).2.1 := by
  intro s
  induction s with
  | nil => intro h; cases h
  | cons b l ih =>
    intro h
    unfold cutB at h ⊢
    split
    · rename_i e; subst e; rfl
    · rename_i e
      rw [if_neg e] at h
      exact congrArg (b :: ·) (ih h)
theorem cutB_none {c : UInt8} : ∀ {s : List UInt8}, (cutB c s).2.2 = false → (cutB c s).1 = s ∧ (cutB c s).2.1 = [] := by
  intro s
  induction s with
  | nil => intro _; exact ⟨rfl, rfl⟩
  | cons b l ih =>
    intro h
    unfold cutB at h ⊢
    split
    · rename_i e; rw [if_pos e] at h; cases h
    · rename_i e
      rw [if_neg e] at h
      exact ⟨congrArg (b :: ·) (ih h).1, (ih h).2⟩
theorem cutB_notin (c : UInt8) : ∀ (s : List UInt8), c ∉ (cutB c s).1 := by
  intro s
  induction s with
  | nil => intro h; cases h
  | cons b l ih =>
    unfold cutB
    split
    · intro h; cases h
    · rename_i e
      intro h
      rcases List.mem_cons.1 h with h | h
      · exact e h.symm
      · exact ih h
theorem cutB_app {c : UInt8} : ∀ {a : List UInt8} {r : List UInt8}, c ∉ a → cutB c (a ++ c :: r) = (a, r, true) := by
  intro a
  induction a with
  | nil => intro r _; simp [cutB]
  | cons b l ih =>
    intro r h
    have h1 : ¬ b = c := fun e => h (e ▸ .head _)
    rw [List.cons_append, cutB, if_neg h1, ih (fun h2 => h (.tail _ h2))]
theorem idxB_eq (c : UInt8) : ∀ (s : List UInt8), idxB s c = if (cutB c s).2.2 = true then ((cutB c s).1.length : Int) else -1 := by
  intro s
  induction s with
  | nil => rfl
  | cons b l ih =>
    unfold idxB Lib.indexByte cutB
    unfold idxB at ih
    by_cases e : b = c
    · simp [e]
    · have e2 : (b == c) = false := by simpa using e
      rw [if_neg e, e2]
      simp only [Bool.false_eq_true, if_false]
      rw [ih]
      cases h : (cutB c l).2.2 with
      | true =>
        have e3 : (((cutB c l).1.length : Int) == -1) = false := by rw [beq_eq_false_iff_ne]; omega
        simp only [if_true, e3, Bool.false_eq_true, if_false, List.length_cons]
        omega
      | false => simp
theorem cutB_le (c : UInt8) (s : List UInt8) : (cutB c s).1.length ≤ s.length := by
  cases h : (cutB c s).2.2 with
  | true => have := congrArg List.length (cutB_found h); simp at this; omega
  | false => rw [(cutB_none h).1]; exact Nat.le_refl _
theorem cutB_lt {c : UInt8} {s : List UInt8} (h : (cutB c s).2.2 = true) : s.length = (cutB c s).1.length + 1 + (cutB c s).2.1.length := by
  have := congrArg List.length (cutB_found h); simp at this; omega
theorem cutB_take (c : UInt8) (s : List UInt8) : s.take (cutB c s).1.length = (cutB c s).1 := by
  cases h : (cutB c s).2.2 with
  | true =>
    have := cutB_found h
    generalize (cutB c s).1 = x at *
    rw [this, List.take_left]
  | false => rw [(cutB_none h).1, List.take_length]
theorem cutB_drop {c : UInt8} {s : List UInt8} (h : (cutB c s).2.2 = true) : s.drop ((cutB c s).1.length + 1) = (cutB c s).2.1 := by
  have := cutB_found h
  generalize (cutB c s).1 = x at *
  generalize (cutB c s).2.1 = y at *
  rw [this, ← List.drop_drop, List.drop_left]
  rfl
section
variable (E : Env) (L : List Res)
theorem slIndexByte_call (s : List UInt8) (c : Nat) : CallV Tryz.prog 75 #[.string (S s), .int .u8 c] E L (.int .i64 (idxB s c.toUInt8)) := by
  refine CallS.toV (CallS.intro (l := [_, _]) _ Tryz.func75 rfl Tryz.ntmps75 rfl ?_)
  refine G_seq (G_region ?_)
  refine Ga ?_
  refine G_end (X_then (G_seq (G_region ?_)))
  refine Gm ?_
  refine Gm ?_
  refine Gv (IndexByteString_val (.mk rfl rfl rfl rfl)) ?_
  refine Ga ?_
  refine G_end (X_then (G_ret ?_))
  refine G_leaveS (.nil _) (by exact (.cons (.tmp rfl) (.nil))) rfl ?_ ?_
  · exact (.refl _)
  exact ⟨rfl, rfl⟩
theorem u8_back (c : UInt8) : (c.toNat).toUInt8 = c := by simp [Nat.toUInt8, UInt8.ofNat_toNat]
theorem slIndex1_call (s : List UInt8) (c : UInt8) (hs : s.length ≤ 9223372036854775807) : CallV Tryz.prog 59 #[.string (S s), .string (S [c])] E L (.int .i64 (idxB s c)) := by
  refine CallS.toV (CallS.intro (l := [_, _]) _ Tryz.func59 rfl Tryz.ntmps59 rfl ?_)
  have hl : [c].length = 1 := rfl
  have h0 : [c][0]? = some c := rfl
  by_cases h : [c] = s
  · have e : idxB s c = 0 := by rw [← h]; simp [idxB, Lib.indexByte]
    rw [e]
    refine G_seq (G_region ?_)
    refine Ga ?_
    refine G_end (X_then (G_seq (G_region ?_)))
    refine Gm ?_
    refine Gv (V_len rfl rfl) ?_
    refine Ga ?_
    refine G_end (X_then (G_seq (G_block (G_seq (G_region ?_)))))
    refine Gm ?_
    refine Gv (V_eql rfl rfl rfl) ?_
    refine Gm ?_
    refine G.bool_f 19 rfl (decide_eq_false (by omega)) ?_
    refine Gy (V_move rfl rfl) ?_
    refine Gy (V_move rfl rfl) ?_
    refine Gy (V_seql rfl rfl rfl) ?_
    refine Gv (V_pick_f rfl rfl rfl) ?_
    refine Ga ?_
    refine G_end (X_then ?_)
    refine G_cond_t rfl (decide_eq_true (by omega)) ?_
    refine G_seq (G_region ?_)
    refine Ga ?_
    refine G_end (X_then (G_ret (X_block_ret (X_then_ret ?_))))
    refine G_leaveS (.nil _) (by exact (.cons (.tmp rfl) (.nil))) rfl ?_ ?_
    · exact (.refl _)
    exact ⟨(by kernel_rfl), rfl⟩
  · have hb := u8_back c
    refine G_seq (G_region ?_)
    refine Ga ?_
    refine G_end (X_then (G_seq (G_region ?_)))
    refine Gm ?_
    refine Gv (V_len rfl rfl) ?_
    refine Ga ?_
    refine G_end (X_then (G_seq (G_block (G_seq (G_region ?_)))))
    refine Gm ?_
    refine Gv (V_eql rfl rfl rfl) ?_
    refine Gm ?_
    refine G.bool_f 19 rfl (decide_eq_false (by omega)) ?_
    refine Gy (V_move rfl rfl) ?_
    refine Gy (V_move rfl rfl) ?_
    refine Gy (V_seql rfl rfl rfl) ?_
    refine Gv (V_pick_f rfl rfl rfl) ?_
    refine Ga ?_
    refine G_end (X_then ?_)
    refine G_cond_f rfl (decide_eq_false (by omega)) ?_
    refine G_seq (G_region ?_)
    refine Gm ?_
    refine Gv (V_eql rfl rfl rfl) ?_
    refine Ga ?_
    refine G_end (X_then ?_)
    refine G_cond_t rfl (decide_eq_true (by omega)) ?_
    refine G_seq (G_region ?_)
    refine Gm ?_
    refine Gm ?_
    refine Gv (V_sidx rfl rfl rfl (by omega) (by assumption)) ?_
    refine G_callv (k := 75) (.mk rfl rfl rfl rfl) rfl rfl (.none rfl) (slIndexByte_call _ _ _ _) ?_
    refine Ga ?_
    refine G_end (X_then (G_ret (X_block_ret (X_then_ret ?_))))
    refine G_leaveS (.nil _) (by exact (.cons (.tmp rfl) (.nil))) rfl ?_ ?_
    · exact (.refl _)
    exact ⟨(by (simp [resVal, *]; done)), (by rfl)⟩
theorem Index1_call (s : List UInt8) (c : UInt8) (hs : s.length ≤ 9223372036854775807) : CallV Tryz.prog 58 #[.string (S s), .string (S [c])] E L (.int .i64 (idxB s c)) := by
  refine CallS.toV (CallS.intro (l := [_, _]) _ Tryz.func58 rfl Tryz.ntmps58 rfl ?_)
  refine G_seq (G_region ?_)
  refine Ga ?_
  refine G_end (X_then (G_seq (G_region ?_)))
  refine Gm ?_
  refine Gm ?_
  refine G_callv (k := 59) (.mk rfl rfl rfl rfl) rfl rfl (.none rfl) (slIndex1_call _ _ _ _ (by assumption)) ?_
  refine Ga ?_
  refine G_end (X_then (G_ret ?_))
  refine G_leaveS (.nil _) (by exact (.cons (.tmp rfl) (.nil))) rfl ?_ ?_
  · exact (.refl _)
  exact ⟨rfl, rfl⟩
theorem slCut1_call (s : List UInt8) (c : UInt8) (hs : s.length ≤ 9223372036854775807) : CallV Tryz.prog 43 #[.string (S s), .string (S [c])] E L (.tuple #[.string (S (cutB c s).1), .string (S (cutB c s).2.1), .bool (cutB c s).2.2]) := by
  refine CallS.toV (CallS.intro (l := [_, _]) _ Tryz.func43 rfl Tryz.ntmps43 rfl ?_)
  have hi := idxB_eq c s
  have hl : [c].length = 1 := rfl
  cases h : (cutB c s).2.2 with
  | true =>
    rw [h, if_pos rfl] at hi
    have hlt := cutB_lt h
    have e1 := cutB_take c s
    have e2 := cutB_drop h
    have e3 : (idxB s c).toNat = (cutB c s).1.length := by omega
    have e4 : (idxB s c + ([c].length : Int)).toNat = (cutB c s).1.length + 1 := by rw [hl]; omega
    refine G_seq (G_region ?_)
    refine Ga ?_
    refine Ga ?_
    refine Ga ?_
    refine G_end (X_then (G_seq (G_seq (G_region ?_))))
    refine Gm ?_
    refine Gm ?_
    refine G_callv (k := 59) (.mk rfl rfl rfl rfl) rfl rfl (.none rfl) (slIndex1_call _ _ _ _ (by assumption)) ?_
    refine Ga ?_
    refine G_end (X_then (G_seq (G_region ?_)))
    refine Gm ?_
    refine Gv (V_geq rfl rfl rfl) ?_
    refine G_end (X_then ?_)
    refine G_cond_t rfl (decide_eq_true (by omega)) ?_
    refine G_seq ?_
    refine G_draw mixed (by kernel_rfl) ?_
    refine Q_val (V_move rfl rfl) rfl rfl (.none rfl) ?_
    refine Q_val (V_move rfl rfl) rfl rfl (.none rfl) ?_
    refine Q_val (V_front rfl rfl rfl (by omega) (by omega)) rfl rfl (.none rfl) ?_
    refine Q_val (V_move rfl rfl) rfl rfl (.none rfl) ?_
    refine Q_val (V_move rfl rfl) rfl rfl (.none rfl) ?_
    refine Q_val (V_move rfl rfl) rfl rfl (.none rfl) ?_
    refine Q_val (V_len rfl rfl) rfl rfl (.none rfl) ?_
    refine Q_val (V_add_i64 rfl rfl rfl (by omega) (by omega)) rfl rfl (.none rfl) ?_
    refine Q_val (V_back rfl rfl rfl (by omega) (by omega)) rfl rfl (.none rfl) ?_
    refine Q_val (V_assign rfl rfl) rfl rfl (.none rfl) ?_
    refine Q_val (V_assign rfl rfl) rfl rfl (.none rfl) ?_
    refine Q_val (V_assign rfl rfl) rfl rfl (.none rfl) ?_
    refine Q_end ?_
    refine X_then (G_ret (X_then_ret ?_))
    refine G_leaveS (.nil _) (by exact (.cons (.tmp rfl) (.cons (.tmp rfl) (.cons (.tmp rfl) (.nil))))) rfl ?_ ?_
    · exact (.refl _)
    exact ⟨(by (simp (discharger := omega) only [resVal, e3, e4, e1, e2, if_pos, if_neg]; first | done | rfl)), (by rfl)⟩
  | false =>
    rw [h, if_neg (by decide)] at hi
    rw [(cutB_none h).1, (cutB_none h).2]
    refine G_seq (G_region ?_)
    refine Ga ?_
    refine Ga ?_
    refine Ga ?_
    refine G_end (X_then (G_seq (G_seq (G_region ?_))))
    refine Gm ?_
    refine Gm ?_
    refine G_callv (k := 59) (.mk rfl rfl rfl rfl) rfl rfl (.none rfl) (slIndex1_call _ _ _ _ (by assumption)) ?_
    refine Ga ?_
    refine G_end (X_then (G_seq (G_region ?_)))
    refine Gm ?_
    refine Gv (V_geq rfl rfl rfl) ?_
    refine G_end (X_then ?_)
    refine G_cond_f rfl (decide_eq_false (by omega)) ?_
    refine G_skip (X_then (G_seq (G_region ?_)))
    refine Gm ?_
    refine Ga ?_
    refine Ga ?_
    refine Ga ?_
    refine G_end (X_then (G_ret ?_))
    refine G_leaveS (.nil _) (by exact (.cons (.tmp rfl) (.cons (.tmp rfl) (.cons (.tmp rfl) (.nil))))) rfl ?_ ?_
    · exact (.refl _)
    exact ⟨rfl, rfl⟩
theorem Cut1_call (s : List UInt8) (c : UInt8) (hs : s.length ≤ 9223372036854775807) : CallV Tryz.prog 29 #[.string (S s), .string (S [c])] E L (.tuple #[.string (S (cutB c s).1), .string (S (cutB c s).2.1), .bool (cutB c s).2.2]) := by
  refine CallS.toV (CallS.intro (l := [_, _]) _ Tryz.func29 rfl Tryz.ntmps29 rfl ?_)
  refine G_seq (G_region ?_)
  refine Ga ?_
  refine Ga ?_
  refine Ga ?_
  refine G_end (X_then (G_seq (G_region ?_)))
  refine Gm ?_
  refine Gm ?_
  refine G_callv (k := 43) (.mk rfl rfl rfl rfl) rfl rfl (.none rfl) (slCut1_call _ _ _ _ (by assumption)) ?_
  refine Gv (V_extract rfl rfl rfl) ?_
  refine Gv (V_extract rfl rfl rfl) ?_
  refine Gv (V_extract rfl rfl rfl) ?_
  refine Ga ?_
  refine Ga ?_
  refine Ga ?_
  refine G_end (X_then (G_ret ?_))
  refine G_leaveS (.nil _) (by exact (.cons (.tmp rfl) (.cons (.tmp rfl) (.cons (.tmp rfl) (.nil))))) rfl ?_ ?_
  · exact (.refl _)
  exact ⟨rfl, rfl⟩
end
end Go.Proofs.YtaibabmladgldaaGreatDoor
