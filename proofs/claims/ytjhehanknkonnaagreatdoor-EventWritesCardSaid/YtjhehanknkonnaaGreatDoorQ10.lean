/-
  Rules and contracts, packed: W12, W13, W14, W17, W26.
-/
import Derived.Test.YtjhehanknkonnaaGreatDoorQ9
set_option maxHeartbeats 1000000
set_option linter.unusedSimpArgs false
set_option linter.unusedVariables false
set_option maxHeartbeats 2000000
set_option maxRecDepth 20000
namespace Go.Proofs.YtjhehanknkonnaaGreatDoor
open Go.RowKit
/-! The reference's symbols and errors of events. -/
/-- The error of an event may be, as the reference asks. -/
def errR (e : Ev) : Bool := if e.k = 6 then decide (e.er = 0 ∨ e.er = 25) else if e.k = 7 then decide (e.er = 4 ∨ e.er = 5 ∨ e.er = 14 ∨ e.er = 26)
  else if e.er = 24 then decide (nontP e.sy) else if e.er = 22 ∨ e.er = 5 then decide (termP e.sy) else decide (e.er = 23 ∧ e.sy = -1)
theorem errR_eq {e : Ev} (h5 : e.k = 5) (h : symP e = true) : errR e = errP e := by
  have k3 : ¬ e.k = 3 := fun h => by rw [h5] at h; cases h
  have k6 : ¬ e.k = 6 := fun h => by rw [h5] at h; cases h
  have k7 : ¬ e.k = 7 := fun h => by rw [h5] at h; cases h
  unfold symP at h
  rw [if_neg k3, if_pos h5, decide_eq_true_iff] at h
  unfold errR errP
  rw [if_neg k6, if_neg k7, if_neg k6, if_neg k7]
  generalize e.sy = y at *
  generalize e.er = r at *
  by_cases h1 : y = -1
  · rw [if_pos h1]
    by_cases h2 : r = 24
    · rw [if_pos h2, decide_eq_false (by simp only [nontP]; omega), decide_eq_false (by omega)]
    · rw [if_neg h2]
      by_cases h3 : r = 22 ∨ r = 5
      · rw [if_pos h3, decide_eq_false (by simp only [termP]; omega), decide_eq_false (by omega)]
      · rw [if_neg h3]
        by_cases h4 : r = 23
        · rw [decide_eq_true ⟨h4, h1⟩, decide_eq_true h4]
        · rw [decide_eq_false (fun h => h4 h.1), decide_eq_false h4]
  · rw [if_neg h1]
    by_cases ht : termP y
    · rw [if_pos ht]
      by_cases h2 : r = 24
      · rw [if_pos h2, decide_eq_false (by simp only [nontP, termP] at *; omega), decide_eq_false (by omega)]
      · rw [if_neg h2]
        by_cases h3 : r = 22 ∨ r = 5
        · rw [if_pos h3, decide_eq_true ht, decide_eq_true h3]
        · rw [if_neg h3, decide_eq_false (fun h => h1 h.2), decide_eq_false h3]
    · rw [if_neg ht]
      have hn : nontP y := by
        rcases h with h | h | h
        · exact absurd h h1
        · exact absurd h ht
        · exact h
      by_cases h2 : r = 24
      · rw [if_pos h2, decide_eq_true hn, decide_eq_true h2]
      · rw [if_neg h2, decide_eq_false h2]
        by_cases h3 : r = 22 ∨ r = 5
        · rw [if_pos h3, decide_eq_false ht]
        · rw [if_neg h3, decide_eq_false (fun h => h1 h.2)]
section
variable (E : Env) (L : List Res)
theorem rcounted_call (n : Int) : CallV Tryz.prog 40 #[.int .i64 n] E L (.bool (decide (cntP n))) := by
  by_cases h : 0 ≤ n
  · by_cases h2 : n ≤ 1099511627776
    · rw [decide_eq_true ⟨h, h2⟩]
      refine CallS.toV (CallS.intro (l := [_]) _ Tryz.func40 rfl Tryz.ntmps40 rfl ?_)
      refine G_seq (G_region ?_)
      refine Ga ?_
      refine G_end (X_then (G_seq (G_region ?_)))
      refine Gm ?_
      refine Gv (V_geq rfl rfl rfl) ?_
      refine Gm ?_
      refine G.bool_t 5 rfl (decide_eq_true (by omega)) ?_
      refine Gy (V_move rfl rfl) ?_
      refine Gy (V_leq rfl rfl rfl) ?_
      refine Gv (V_pick_t rfl rfl rfl) ?_
      refine Ga ?_
      refine G_end (X_then (G_ret ?_))
      refine G_leaveS (.nil _) (by exact (.cons (.tmp rfl) (.nil))) rfl ?_ ?_
      · exact (.refl _)
      exact ⟨(by (simp [resVal, *]; done)), (by rfl)⟩
    · rw [decide_eq_false (by simp only [cntP]; omega)]
      refine CallS.toV (CallS.intro (l := [_]) _ Tryz.func40 rfl Tryz.ntmps40 rfl ?_)
      refine G_seq (G_region ?_)
      refine Ga ?_
      refine G_end (X_then (G_seq (G_region ?_)))
      refine Gm ?_
      refine Gv (V_geq rfl rfl rfl) ?_
      refine Gm ?_
      refine G.bool_t 5 rfl (decide_eq_true (by omega)) ?_
      refine Gy (V_move rfl rfl) ?_
      refine Gy (V_leq rfl rfl rfl) ?_
      refine Gv (V_pick_t rfl rfl rfl) ?_
      refine Ga ?_
      refine G_end (X_then (G_ret ?_))
      refine G_leaveS (.nil _) (by exact (.cons (.tmp rfl) (.nil))) rfl ?_ ?_
      · exact (.refl _)
      exact ⟨(by (simp [resVal, *]; done)), (by rfl)⟩
  · rw [decide_eq_false (by simp only [cntP]; omega)]
    refine CallS.toV (CallS.intro (l := [_]) _ Tryz.func40 rfl Tryz.ntmps40 rfl ?_)
    refine G_seq (G_region ?_)
    refine Ga ?_
    refine G_end (X_then (G_seq (G_region ?_)))
    refine Gm ?_
    refine Gv (V_geq rfl rfl rfl) ?_
    refine Gm ?_
    refine G.bool_f 5 rfl (decide_eq_false (by omega)) ?_
    refine Gn ?_
    refine Gn ?_
    refine Gv (V_pick_f rfl rfl rfl) ?_
    refine Ga ?_
    refine G_end (X_then (G_ret ?_))
    refine G_leaveS (.nil _) (by exact (.cons (.tmp rfl) (.nil))) rfl ?_ ?_
    · exact (.refl _)
    exact ⟨(by kernel_rfl), rfl⟩
theorem rterminal_call (n : Int) : CallV Tryz.prog 76 #[.int .i64 n] E L (.bool (decide (termP n))) := by
  by_cases h : 0 ≤ n
  · by_cases h2 : n < 8
    · rw [decide_eq_true ⟨h, h2⟩]
      refine CallS.toV (CallS.intro (l := [_]) _ Tryz.func76 rfl Tryz.ntmps76 rfl ?_)
      refine G_seq (G_region ?_)
      refine Ga ?_
      refine G_end (X_then (G_seq (G_region ?_)))
      refine Gm ?_
      refine Gv (V_geq rfl rfl rfl) ?_
      refine Gm ?_
      refine G.bool_t 5 rfl (decide_eq_true (by omega)) ?_
      refine Gy (V_move rfl rfl) ?_
      refine Gy (V_lss rfl rfl rfl) ?_
      refine Gv (V_pick_t rfl rfl rfl) ?_
      refine Ga ?_
      refine G_end (X_then (G_ret ?_))
      refine G_leaveS (.nil _) (by exact (.cons (.tmp rfl) (.nil))) rfl ?_ ?_
      · exact (.refl _)
      exact ⟨(by (simp [resVal, *]; done)), (by rfl)⟩
    · rw [decide_eq_false (by simp only [termP]; omega)]
      refine CallS.toV (CallS.intro (l := [_]) _ Tryz.func76 rfl Tryz.ntmps76 rfl ?_)
      refine G_seq (G_region ?_)
      refine Ga ?_
      refine G_end (X_then (G_seq (G_region ?_)))
      refine Gm ?_
      refine Gv (V_geq rfl rfl rfl) ?_
      refine Gm ?_
      refine G.bool_t 5 rfl (decide_eq_true (by omega)) ?_
      refine Gy (V_move rfl rfl) ?_
      refine Gy (V_lss rfl rfl rfl) ?_
      refine Gv (V_pick_t rfl rfl rfl) ?_
      refine Ga ?_
      refine G_end (X_then (G_ret ?_))
      refine G_leaveS (.nil _) (by exact (.cons (.tmp rfl) (.nil))) rfl ?_ ?_
      · exact (.refl _)
      exact ⟨(by (simp [resVal, *]; done)), (by rfl)⟩
  · rw [decide_eq_false (by simp only [termP]; omega)]
    refine CallS.toV (CallS.intro (l := [_]) _ Tryz.func76 rfl Tryz.ntmps76 rfl ?_)
    refine G_seq (G_region ?_)
    refine Ga ?_
    refine G_end (X_then (G_seq (G_region ?_)))
    refine Gm ?_
    refine Gv (V_geq rfl rfl rfl) ?_
    refine Gm ?_
    refine G.bool_f 5 rfl (decide_eq_false (by omega)) ?_
    refine Gn ?_
    refine Gn ?_
    refine Gv (V_pick_f rfl rfl rfl) ?_
    refine Ga ?_
    refine G_end (X_then (G_ret ?_))
    refine G_leaveS (.nil _) (by exact (.cons (.tmp rfl) (.nil))) rfl ?_ ?_
    · exact (.refl _)
    exact ⟨(by kernel_rfl), rfl⟩
theorem rnonterminal_call (n : Int) : CallV Tryz.prog 77 #[.int .i64 n] E L (.bool (decide (nontP n))) := by
  by_cases h : 16 ≤ n
  · by_cases h2 : n < 24
    · rw [decide_eq_true ⟨h, h2⟩]
      refine CallS.toV (CallS.intro (l := [_]) _ Tryz.func77 rfl Tryz.ntmps77 rfl ?_)
      refine G_seq (G_region ?_)
      refine Ga ?_
      refine G_end (X_then (G_seq (G_region ?_)))
      refine Gm ?_
      refine Gv (V_geq rfl rfl rfl) ?_
      refine Gm ?_
      refine G.bool_t 5 rfl (decide_eq_true (by omega)) ?_
      refine Gy (V_move rfl rfl) ?_
      refine Gy (V_lss rfl rfl rfl) ?_
      refine Gv (V_pick_t rfl rfl rfl) ?_
      refine Ga ?_
      refine G_end (X_then (G_ret ?_))
      refine G_leaveS (.nil _) (by exact (.cons (.tmp rfl) (.nil))) rfl ?_ ?_
      · exact (.refl _)
      exact ⟨(by (simp [resVal, *]; done)), (by rfl)⟩
    · rw [decide_eq_false (by simp only [nontP]; omega)]
      refine CallS.toV (CallS.intro (l := [_]) _ Tryz.func77 rfl Tryz.ntmps77 rfl ?_)
      refine G_seq (G_region ?_)
      refine Ga ?_
      refine G_end (X_then (G_seq (G_region ?_)))
      refine Gm ?_
      refine Gv (V_geq rfl rfl rfl) ?_
      refine Gm ?_
      refine G.bool_t 5 rfl (decide_eq_true (by omega)) ?_
      refine Gy (V_move rfl rfl) ?_
      refine Gy (V_lss rfl rfl rfl) ?_
      refine Gv (V_pick_t rfl rfl rfl) ?_
      refine Ga ?_
      refine G_end (X_then (G_ret ?_))
      refine G_leaveS (.nil _) (by exact (.cons (.tmp rfl) (.nil))) rfl ?_ ?_
      · exact (.refl _)
      exact ⟨(by (simp [resVal, *]; done)), (by rfl)⟩
  · rw [decide_eq_false (by simp only [nontP]; omega)]
    refine CallS.toV (CallS.intro (l := [_]) _ Tryz.func77 rfl Tryz.ntmps77 rfl ?_)
    refine G_seq (G_region ?_)
    refine Ga ?_
    refine G_end (X_then (G_seq (G_region ?_)))
    refine Gm ?_
    refine Gv (V_geq rfl rfl rfl) ?_
    refine Gm ?_
    refine G.bool_f 5 rfl (decide_eq_false (by omega)) ?_
    refine Gn ?_
    refine Gn ?_
    refine Gv (V_pick_f rfl rfl rfl) ?_
    refine Ga ?_
    refine G_end (X_then (G_ret ?_))
    refine G_leaveS (.nil _) (by exact (.cons (.tmp rfl) (.nil))) rfl ?_ ?_
    · exact (.refl _)
    exact ⟨(by kernel_rfl), rfl⟩
end
section
variable (E : Env) (L : List Res) (k sy pr rc pl : Int) (tx : List UInt8) (er : Int)
theorem symbolic_call : CallV Tryz.prog 41 #[.agg #[.int .i64 k, .int .i64 sy, .int .i64 pr, .int .i64 rc, .int .i64 pl, .string (S tx), .int .i64 er]] E L (.bool (symP (k, sy, pr, rc, pl, tx, er))) := by
  unfold symP
  by_cases h3 : k = 3
  · rw [if_pos h3]
    refine CallS.toV (CallS.intro (l := [_]) _ Tryz.func41 rfl Tryz.ntmps41 rfl ?_)
    refine G_seq (G_region ?_)
    (refine G_boxA rfl rfl rfl rfl (.none rfl) ?_; intro b1)
    refine Ga ?_
    refine G_end (X_then (G_seq (G_seq (G_region ?_))))
    refine Gv (V_fieldAddr rfl rfl (by decide)) ?_
    refine Gv (V_load rfl rfl (Cell.own (.head _) rfl)) ?_
    refine G_end (X_then (G_block (G_seq (G_region ?_))))
    refine Gv (V_eql rfl rfl rfl) ?_
    refine Ga ?_
    refine G_end (X_then ?_)
    refine G_cond_t rfl (decide_eq_true (by omega)) ?_
    refine G_seq (G_region ?_)
    refine Gv (V_fieldAddr rfl rfl (by decide)) ?_
    refine Gv (V_load rfl rfl (Cell.own (.head _) rfl)) ?_
    refine G_callv (k := 76) (.mk rfl rfl rfl rfl) rfl rfl (.none rfl) (rterminal_call _ _ _) ?_
    refine Ga ?_
    refine G_end (X_then (G_ret (X_block_ret (X_then_ret ?_))))
    refine G_leaveS (.drop _ (.nil _)) (by exact (.cons (.tmp rfl) (.nil))) rfl ?_ ?_
    · exact (.refl _)
    exact ⟨rfl, rfl⟩
  rw [if_neg h3]
  by_cases h5 : k = 5
  · rw [if_pos h5]
    by_cases c1 : sy = -1
    · rw [decide_eq_true (.inl c1)]
      refine CallS.toV (CallS.intro (l := [_]) _ Tryz.func41 rfl Tryz.ntmps41 rfl ?_)
      refine G_seq (G_region ?_)
      (refine G_boxA rfl rfl rfl rfl (.none rfl) ?_; intro b1)
      refine Ga ?_
      refine G_end (X_then (G_seq (G_seq (G_region ?_))))
      refine Gv (V_fieldAddr rfl rfl (by decide)) ?_
      refine Gv (V_load rfl rfl (Cell.own (.head _) rfl)) ?_
      refine G_end (X_then (G_block (G_seq (G_region ?_))))
      refine Gv (V_eql rfl rfl rfl) ?_
      refine Ga ?_
      refine G_end (X_then ?_)
      refine G_cond_f rfl (decide_eq_false (by omega)) ?_
      refine G_seq (G_region ?_)
      refine Gv (V_eql rfl rfl rfl) ?_
      refine Ga ?_
      refine G_end (X_then ?_)
      refine G_cond_t rfl (decide_eq_true (by omega)) ?_
      refine G_seq (G_region ?_)
      refine Gv (V_fieldAddr rfl rfl (by decide)) ?_
      refine Gv (V_load rfl rfl (Cell.own (.head _) rfl)) ?_
      refine Gv (V_eql rfl rfl rfl) ?_
      refine Gm ?_
      refine G.bool_t 15 rfl (decide_eq_true (by omega)) ?_
      refine Gn ?_
      refine Gn ?_
      refine Gn ?_
      refine Gv (V_pick_t rfl rfl rfl) ?_
      refine Gm ?_
      refine Gn ?_
      refine Gn ?_
      refine Gn ?_
      refine Gv (V_pick_t rfl rfl rfl) ?_
      refine Ga ?_
      refine G_end (X_then (G_ret (X_block_ret (X_then_ret ?_))))
      refine G_leaveS (.drop _ (.nil _)) (by exact (.cons (.tmp rfl) (.nil))) rfl ?_ ?_
      · exact (.refl _)
      exact ⟨(by kernel_rfl), rfl⟩
    by_cases c2 : termP sy
    · rw [decide_eq_true (.inr (.inl c2))]
      refine CallS.toV (CallS.intro (l := [_]) _ Tryz.func41 rfl Tryz.ntmps41 rfl ?_)
      refine G_seq (G_region ?_)
      (refine G_boxA rfl rfl rfl rfl (.none rfl) ?_; intro b1)
      refine Ga ?_
      refine G_end (X_then (G_seq (G_seq (G_region ?_))))
      refine Gv (V_fieldAddr rfl rfl (by decide)) ?_
      refine Gv (V_load rfl rfl (Cell.own (.head _) rfl)) ?_
      refine G_end (X_then (G_block (G_seq (G_region ?_))))
      refine Gv (V_eql rfl rfl rfl) ?_
      refine Ga ?_
      refine G_end (X_then ?_)
      refine G_cond_f rfl (decide_eq_false (by omega)) ?_
      refine G_seq (G_region ?_)
      refine Gv (V_eql rfl rfl rfl) ?_
      refine Ga ?_
      refine G_end (X_then ?_)
      refine G_cond_t rfl (decide_eq_true (by omega)) ?_
      refine G_seq (G_region ?_)
      refine Gv (V_fieldAddr rfl rfl (by decide)) ?_
      refine Gv (V_load rfl rfl (Cell.own (.head _) rfl)) ?_
      refine Gv (V_eql rfl rfl rfl) ?_
      refine Gm ?_
      refine G.bool_f 15 rfl (decide_eq_false (by omega)) ?_
      refine Gy (V_fieldAddr rfl rfl (by decide)) ?_
      refine Gy (V_load rfl rfl (Cell.own (.head _) rfl)) ?_
      refine G_callv (k := 76) (.mk rfl rfl rfl rfl) rfl rfl (.yes rfl rfl rfl rfl) (rterminal_call _ _ _) ?_
      refine Gv (V_pick_f rfl rfl rfl) ?_
      refine Gm ?_
      refine G.bool_t 20 rfl (decide_eq_true (by omega)) ?_
      refine Gn ?_
      refine Gn ?_
      refine Gn ?_
      refine Gv (V_pick_t rfl rfl rfl) ?_
      refine Ga ?_
      refine G_end (X_then (G_ret (X_block_ret (X_then_ret ?_))))
      refine G_leaveS (.drop _ (.nil _)) (by exact (.cons (.tmp rfl) (.nil))) rfl ?_ ?_
      · exact (.refl _)
      exact ⟨(by kernel_rfl), rfl⟩
    by_cases c3 : nontP sy
    · rw [decide_eq_true (.inr (.inr c3))]
      refine CallS.toV (CallS.intro (l := [_]) _ Tryz.func41 rfl Tryz.ntmps41 rfl ?_)
      refine G_seq (G_region ?_)
      (refine G_boxA rfl rfl rfl rfl (.none rfl) ?_; intro b1)
      refine Ga ?_
      refine G_end (X_then (G_seq (G_seq (G_region ?_))))
      refine Gv (V_fieldAddr rfl rfl (by decide)) ?_
      refine Gv (V_load rfl rfl (Cell.own (.head _) rfl)) ?_
      refine G_end (X_then (G_block (G_seq (G_region ?_))))
      refine Gv (V_eql rfl rfl rfl) ?_
      refine Ga ?_
      refine G_end (X_then ?_)
      refine G_cond_f rfl (decide_eq_false (by omega)) ?_
      refine G_seq (G_region ?_)
      refine Gv (V_eql rfl rfl rfl) ?_
      refine Ga ?_
      refine G_end (X_then ?_)
      refine G_cond_t rfl (decide_eq_true (by omega)) ?_
      refine G_seq (G_region ?_)
      refine Gv (V_fieldAddr rfl rfl (by decide)) ?_
      refine Gv (V_load rfl rfl (Cell.own (.head _) rfl)) ?_
      refine Gv (V_eql rfl rfl rfl) ?_
      refine Gm ?_
      refine G.bool_f 15 rfl (decide_eq_false (by omega)) ?_
      refine Gy (V_fieldAddr rfl rfl (by decide)) ?_
      refine Gy (V_load rfl rfl (Cell.own (.head _) rfl)) ?_
      refine G_callv (k := 76) (.mk rfl rfl rfl rfl) rfl rfl (.yes rfl rfl rfl rfl) (rterminal_call _ _ _) ?_
      refine Gv (V_pick_f rfl rfl rfl) ?_
      refine Gm ?_
      refine G.bool_f 20 rfl (decide_eq_false (by omega)) ?_
      refine Gy (V_fieldAddr rfl rfl (by decide)) ?_
      refine Gy (V_load rfl rfl (Cell.own (.head _) rfl)) ?_
      refine G_callv (k := 77) (.mk rfl rfl rfl rfl) rfl rfl (.yes rfl rfl rfl rfl) (rnonterminal_call _ _ _) ?_
      refine Gv (V_pick_f rfl rfl rfl) ?_
      refine Ga ?_
      refine G_end (X_then (G_ret (X_block_ret (X_then_ret ?_))))
      refine G_leaveS (.drop _ (.nil _)) (by exact (.cons (.tmp rfl) (.nil))) rfl ?_ ?_
      · exact (.refl _)
      exact ⟨(by (simp [resVal, *]; done)), (by rfl)⟩
    · rw [decide_eq_false (fun h => by rcases h with h | h | h; exact c1 h; exact c2 h; exact c3 h)]
      refine CallS.toV (CallS.intro (l := [_]) _ Tryz.func41 rfl Tryz.ntmps41 rfl ?_)
      refine G_seq (G_region ?_)
      (refine G_boxA rfl rfl rfl rfl (.none rfl) ?_; intro b1)
      refine Ga ?_
      refine G_end (X_then (G_seq (G_seq (G_region ?_))))
      refine Gv (V_fieldAddr rfl rfl (by decide)) ?_
      refine Gv (V_load rfl rfl (Cell.own (.head _) rfl)) ?_
      refine G_end (X_then (G_block (G_seq (G_region ?_))))
      refine Gv (V_eql rfl rfl rfl) ?_
      refine Ga ?_
      refine G_end (X_then ?_)
      refine G_cond_f rfl (decide_eq_false (by omega)) ?_
      refine G_seq (G_region ?_)
      refine Gv (V_eql rfl rfl rfl) ?_
      refine Ga ?_
      refine G_end (X_then ?_)
      refine G_cond_t rfl (decide_eq_true (by omega)) ?_
      refine G_seq (G_region ?_)
      refine Gv (V_fieldAddr rfl rfl (by decide)) ?_
      refine Gv (V_load rfl rfl (Cell.own (.head _) rfl)) ?_
      refine Gv (V_eql rfl rfl rfl) ?_
      refine Gm ?_
      refine G.bool_f 15 rfl (decide_eq_false (by omega)) ?_
      refine Gy (V_fieldAddr rfl rfl (by decide)) ?_
      refine Gy (V_load rfl rfl (Cell.own (.head _) rfl)) ?_
      refine G_callv (k := 76) (.mk rfl rfl rfl rfl) rfl rfl (.yes rfl rfl rfl rfl) (rterminal_call _ _ _) ?_
      refine Gv (V_pick_f rfl rfl rfl) ?_
      refine Gm ?_
      refine G.bool_f 20 rfl (decide_eq_false (by omega)) ?_
      refine Gy (V_fieldAddr rfl rfl (by decide)) ?_
      refine Gy (V_load rfl rfl (Cell.own (.head _) rfl)) ?_
      refine G_callv (k := 77) (.mk rfl rfl rfl rfl) rfl rfl (.yes rfl rfl rfl rfl) (rnonterminal_call _ _ _) ?_
      refine Gv (V_pick_f rfl rfl rfl) ?_
      refine Ga ?_
      refine G_end (X_then (G_ret (X_block_ret (X_then_ret ?_))))
      refine G_leaveS (.drop _ (.nil _)) (by exact (.cons (.tmp rfl) (.nil))) rfl ?_ ?_
      · exact (.refl _)
      exact ⟨(by (simp [resVal, *]; done)), (by rfl)⟩
  · rw [if_neg h5]
    refine CallS.toV (CallS.intro (l := [_]) _ Tryz.func41 rfl Tryz.ntmps41 rfl ?_)
    refine G_seq (G_region ?_)
    (refine G_boxA rfl rfl rfl rfl (.none rfl) ?_; intro b1)
    refine Ga ?_
    refine G_end (X_then (G_seq (G_seq (G_region ?_))))
    refine Gv (V_fieldAddr rfl rfl (by decide)) ?_
    refine Gv (V_load rfl rfl (Cell.own (.head _) rfl)) ?_
    refine G_end (X_then (G_block (G_seq (G_region ?_))))
    refine Gv (V_eql rfl rfl rfl) ?_
    refine Ga ?_
    refine G_end (X_then ?_)
    refine G_cond_f rfl (decide_eq_false (by omega)) ?_
    refine G_seq (G_region ?_)
    refine Gv (V_eql rfl rfl rfl) ?_
    refine Ga ?_
    refine G_end (X_then ?_)
    refine G_cond_f rfl (decide_eq_false (by omega)) ?_
    refine G_skip (X_block (X_then (G_seq (G_region ?_))))
    refine Gv (V_fieldAddr rfl rfl (by decide)) ?_
    refine Gv (V_load rfl rfl (Cell.own (.head _) rfl)) ?_
    refine G_callv (k := 77) (.mk rfl rfl rfl rfl) rfl rfl (.none rfl) (rnonterminal_call _ _ _) ?_
    refine Ga ?_
    refine G_end (X_then (G_ret ?_))
    refine G_leaveS (.drop _ (.nil _)) (by exact (.cons (.tmp rfl) (.nil))) rfl ?_ ?_
    · exact (.refl _)
    exact ⟨rfl, rfl⟩
theorem erring_call : CallV Tryz.prog 42 #[.agg #[.int .i64 k, .int .i64 sy, .int .i64 pr, .int .i64 rc, .int .i64 pl, .string (S tx), .int .i64 er]] E L (.bool (errR (k, sy, pr, rc, pl, tx, er))) := by
  unfold errR
  by_cases h6 : k = 6
  · rw [if_pos h6]
    by_cases c1 : er = 0
    · rw [decide_eq_true (.inl c1)]
      refine CallS.toV (CallS.intro (l := [_]) _ Tryz.func42 rfl Tryz.ntmps42 rfl ?_)
      refine G_seq (G_region ?_)
      (refine G_boxA rfl rfl rfl rfl (.none rfl) ?_; intro b1)
      refine Ga ?_
      refine G_end (X_then (G_seq (G_seq (G_region ?_))))
      refine Gv (V_fieldAddr rfl rfl (by decide)) ?_
      refine Gv (V_load rfl rfl (Cell.own (.head _) rfl)) ?_
      refine G_end (X_then (G_block (G_seq (G_region ?_))))
      refine Gv (V_eql rfl rfl rfl) ?_
      refine Ga ?_
      refine G_end (X_then ?_)
      refine G_cond_t rfl (decide_eq_true (by omega)) ?_
      refine G_seq (G_region ?_)
      refine Gv (V_fieldAddr rfl rfl (by decide)) ?_
      refine Gv (V_load rfl rfl (Cell.own (.head _) rfl)) ?_
      refine Gv (V_eql rfl rfl rfl) ?_
      refine Gm ?_
      refine G.bool_t 10 rfl (decide_eq_true (by omega)) ?_
      refine Gn ?_
      refine Gn ?_
      refine Gn ?_
      refine Gv (V_pick_t rfl rfl rfl) ?_
      refine Ga ?_
      refine G_end (X_then (G_ret (X_block_ret (X_then_ret ?_))))
      refine G_leaveS (.drop _ (.nil _)) (by exact (.cons (.tmp rfl) (.nil))) rfl ?_ ?_
      · exact (.refl _)
      exact ⟨(by kernel_rfl), rfl⟩
    by_cases c2 : er = 25
    · rw [decide_eq_true (.inr c2)]
      refine CallS.toV (CallS.intro (l := [_]) _ Tryz.func42 rfl Tryz.ntmps42 rfl ?_)
      refine G_seq (G_region ?_)
      (refine G_boxA rfl rfl rfl rfl (.none rfl) ?_; intro b1)
      refine Ga ?_
      refine G_end (X_then (G_seq (G_seq (G_region ?_))))
      refine Gv (V_fieldAddr rfl rfl (by decide)) ?_
      refine Gv (V_load rfl rfl (Cell.own (.head _) rfl)) ?_
      refine G_end (X_then (G_block (G_seq (G_region ?_))))
      refine Gv (V_eql rfl rfl rfl) ?_
      refine Ga ?_
      refine G_end (X_then ?_)
      refine G_cond_t rfl (decide_eq_true (by omega)) ?_
      refine G_seq (G_region ?_)
      refine Gv (V_fieldAddr rfl rfl (by decide)) ?_
      refine Gv (V_load rfl rfl (Cell.own (.head _) rfl)) ?_
      refine Gv (V_eql rfl rfl rfl) ?_
      refine Gm ?_
      refine G.bool_f 10 rfl (decide_eq_false (by omega)) ?_
      refine Gy (V_fieldAddr rfl rfl (by decide)) ?_
      refine Gy (V_load rfl rfl (Cell.own (.head _) rfl)) ?_
      refine Gy (V_eql rfl rfl rfl) ?_
      refine Gv (V_pick_f rfl rfl rfl) ?_
      refine Ga ?_
      refine G_end (X_then (G_ret (X_block_ret (X_then_ret ?_))))
      refine G_leaveS (.drop _ (.nil _)) (by exact (.cons (.tmp rfl) (.nil))) rfl ?_ ?_
      · exact (.refl _)
      exact ⟨(by (simp [resVal, *]; done)), (by rfl)⟩
    rw [decide_eq_false (fun h => by rcases h with h | h; exact c1 h; exact c2 h)]
    refine CallS.toV (CallS.intro (l := [_]) _ Tryz.func42 rfl Tryz.ntmps42 rfl ?_)
    refine G_seq (G_region ?_)
    (refine G_boxA rfl rfl rfl rfl (.none rfl) ?_; intro b1)
    refine Ga ?_
    refine G_end (X_then (G_seq (G_seq (G_region ?_))))
    refine Gv (V_fieldAddr rfl rfl (by decide)) ?_
    refine Gv (V_load rfl rfl (Cell.own (.head _) rfl)) ?_
    refine G_end (X_then (G_block (G_seq (G_region ?_))))
    refine Gv (V_eql rfl rfl rfl) ?_
    refine Ga ?_
    refine G_end (X_then ?_)
    refine G_cond_t rfl (decide_eq_true (by omega)) ?_
    refine G_seq (G_region ?_)
    refine Gv (V_fieldAddr rfl rfl (by decide)) ?_
    refine Gv (V_load rfl rfl (Cell.own (.head _) rfl)) ?_
    refine Gv (V_eql rfl rfl rfl) ?_
    refine Gm ?_
    refine G.bool_f 10 rfl (decide_eq_false (by omega)) ?_
    refine Gy (V_fieldAddr rfl rfl (by decide)) ?_
    refine Gy (V_load rfl rfl (Cell.own (.head _) rfl)) ?_
    refine Gy (V_eql rfl rfl rfl) ?_
    refine Gv (V_pick_f rfl rfl rfl) ?_
    refine Ga ?_
    refine G_end (X_then (G_ret (X_block_ret (X_then_ret ?_))))
    refine G_leaveS (.drop _ (.nil _)) (by exact (.cons (.tmp rfl) (.nil))) rfl ?_ ?_
    · exact (.refl _)
    exact ⟨(by (simp [resVal, *]; done)), (by rfl)⟩
  rw [if_neg h6]
  by_cases h7 : k = 7
  · rw [if_pos h7]
    by_cases c1 : er = 4
    · rw [decide_eq_true (.inl c1)]
      refine CallS.toV (CallS.intro (l := [_]) _ Tryz.func42 rfl Tryz.ntmps42 rfl ?_)
      refine G_seq (G_region ?_)
      (refine G_boxA rfl rfl rfl rfl (.none rfl) ?_; intro b1)
      refine Ga ?_
      refine G_end (X_then (G_seq (G_seq (G_region ?_))))
      refine Gv (V_fieldAddr rfl rfl (by decide)) ?_
      refine Gv (V_load rfl rfl (Cell.own (.head _) rfl)) ?_
      refine G_end (X_then (G_block (G_seq (G_region ?_))))
      refine Gv (V_eql rfl rfl rfl) ?_
      refine Ga ?_
      refine G_end (X_then ?_)
      refine G_cond_f rfl (decide_eq_false (by omega)) ?_
      refine G_seq (G_region ?_)
      refine Gv (V_eql rfl rfl rfl) ?_
      refine Ga ?_
      refine G_end (X_then ?_)
      refine G_cond_t rfl (decide_eq_true (by omega)) ?_
      refine G_seq (G_region ?_)
      refine Gv (V_fieldAddr rfl rfl (by decide)) ?_
      refine Gv (V_load rfl rfl (Cell.own (.head _) rfl)) ?_
      refine Gv (V_eql rfl rfl rfl) ?_
      refine Gm ?_
      refine G.bool_t 20 rfl (decide_eq_true (by omega)) ?_
      refine Gn ?_
      refine Gn ?_
      refine Gn ?_
      refine Gv (V_pick_t rfl rfl rfl) ?_
      refine Gm ?_
      refine Gn ?_
      refine Gn ?_
      refine Gn ?_
      refine Gv (V_pick_t rfl rfl rfl) ?_
      refine Gm ?_
      refine Gn ?_
      refine Gn ?_
      refine Gn ?_
      refine Gv (V_pick_t rfl rfl rfl) ?_
      refine Ga ?_
      refine G_end (X_then (G_ret (X_block_ret (X_then_ret ?_))))
      refine G_leaveS (.drop _ (.nil _)) (by exact (.cons (.tmp rfl) (.nil))) rfl ?_ ?_
      · exact (.refl _)
      exact ⟨(by kernel_rfl), rfl⟩
    by_cases c2 : er = 5
    · rw [decide_eq_true (.inr (.inl c2))]
      refine CallS.toV (CallS.intro (l := [_]) _ Tryz.func42 rfl Tryz.ntmps42 rfl ?_)
      refine G_seq (G_region ?_)
      (refine G_boxA rfl rfl rfl rfl (.none rfl) ?_; intro b1)
      refine Ga ?_
      refine G_end (X_then (G_seq (G_seq (G_region ?_))))
      refine Gv (V_fieldAddr rfl rfl (by decide)) ?_
      refine Gv (V_load rfl rfl (Cell.own (.head _) rfl)) ?_
      refine G_end (X_then (G_block (G_seq (G_region ?_))))
      refine Gv (V_eql rfl rfl rfl) ?_
      refine Ga ?_
      refine G_end (X_then ?_)
      refine G_cond_f rfl (decide_eq_false (by omega)) ?_
      refine G_seq (G_region ?_)
      refine Gv (V_eql rfl rfl rfl) ?_
      refine Ga ?_
      refine G_end (X_then ?_)
      refine G_cond_t rfl (decide_eq_true (by omega)) ?_
      refine G_seq (G_region ?_)
      refine Gv (V_fieldAddr rfl rfl (by decide)) ?_
      refine Gv (V_load rfl rfl (Cell.own (.head _) rfl)) ?_
      refine Gv (V_eql rfl rfl rfl) ?_
      refine Gm ?_
      refine G.bool_f 20 rfl (decide_eq_false (by omega)) ?_
      refine Gy (V_fieldAddr rfl rfl (by decide)) ?_
      refine Gy (V_load rfl rfl (Cell.own (.head _) rfl)) ?_
      refine Gy (V_eql rfl rfl rfl) ?_
      refine Gv (V_pick_f rfl rfl rfl) ?_
      refine Gm ?_
      refine G.bool_t 25 rfl (decide_eq_true (by omega)) ?_
      refine Gn ?_
      refine Gn ?_
      refine Gn ?_
      refine Gv (V_pick_t rfl rfl rfl) ?_
      refine Gm ?_
      refine Gn ?_
      refine Gn ?_
      refine Gn ?_
      refine Gv (V_pick_t rfl rfl rfl) ?_
      refine Ga ?_
      refine G_end (X_then (G_ret (X_block_ret (X_then_ret ?_))))
      refine G_leaveS (.drop _ (.nil _)) (by exact (.cons (.tmp rfl) (.nil))) rfl ?_ ?_
      · exact (.refl _)
      exact ⟨(by kernel_rfl), rfl⟩
    by_cases c3 : er = 14
    · rw [decide_eq_true (.inr (.inr (.inl c3)))]
      refine CallS.toV (CallS.intro (l := [_]) _ Tryz.func42 rfl Tryz.ntmps42 rfl ?_)
      refine G_seq (G_region ?_)
      (refine G_boxA rfl rfl rfl rfl (.none rfl) ?_; intro b1)
      refine Ga ?_
      refine G_end (X_then (G_seq (G_seq (G_region ?_))))
      refine Gv (V_fieldAddr rfl rfl (by decide)) ?_
      refine Gv (V_load rfl rfl (Cell.own (.head _) rfl)) ?_
      refine G_end (X_then (G_block (G_seq (G_region ?_))))
      refine Gv (V_eql rfl rfl rfl) ?_
      refine Ga ?_
      refine G_end (X_then ?_)
      refine G_cond_f rfl (decide_eq_false (by omega)) ?_
      refine G_seq (G_region ?_)
      refine Gv (V_eql rfl rfl rfl) ?_
      refine Ga ?_
      refine G_end (X_then ?_)
      refine G_cond_t rfl (decide_eq_true (by omega)) ?_
      refine G_seq (G_region ?_)
      refine Gv (V_fieldAddr rfl rfl (by decide)) ?_
      refine Gv (V_load rfl rfl (Cell.own (.head _) rfl)) ?_
      refine Gv (V_eql rfl rfl rfl) ?_
      refine Gm ?_
      refine G.bool_f 20 rfl (decide_eq_false (by omega)) ?_
      refine Gy (V_fieldAddr rfl rfl (by decide)) ?_
      refine Gy (V_load rfl rfl (Cell.own (.head _) rfl)) ?_
      refine Gy (V_eql rfl rfl rfl) ?_
      refine Gv (V_pick_f rfl rfl rfl) ?_
      refine Gm ?_
      refine G.bool_f 25 rfl (decide_eq_false (by omega)) ?_
      refine Gy (V_fieldAddr rfl rfl (by decide)) ?_
      refine Gy (V_load rfl rfl (Cell.own (.head _) rfl)) ?_
      refine Gy (V_eql rfl rfl rfl) ?_
      refine Gv (V_pick_f rfl rfl rfl) ?_
      refine Gm ?_
      refine G.bool_t 30 rfl (decide_eq_true (by omega)) ?_
      refine Gn ?_
      refine Gn ?_
      refine Gn ?_
      refine Gv (V_pick_t rfl rfl rfl) ?_
      refine Ga ?_
      refine G_end (X_then (G_ret (X_block_ret (X_then_ret ?_))))
      refine G_leaveS (.drop _ (.nil _)) (by exact (.cons (.tmp rfl) (.nil))) rfl ?_ ?_
      · exact (.refl _)
      exact ⟨(by kernel_rfl), rfl⟩
    by_cases c4 : er = 26
    · rw [decide_eq_true (.inr (.inr (.inr c4)))]
      refine CallS.toV (CallS.intro (l := [_]) _ Tryz.func42 rfl Tryz.ntmps42 rfl ?_)
      refine G_seq (G_region ?_)
      (refine G_boxA rfl rfl rfl rfl (.none rfl) ?_; intro b1)
      refine Ga ?_
      refine G_end (X_then (G_seq (G_seq (G_region ?_))))
      refine Gv (V_fieldAddr rfl rfl (by decide)) ?_
      refine Gv (V_load rfl rfl (Cell.own (.head _) rfl)) ?_
      refine G_end (X_then (G_block (G_seq (G_region ?_))))
      refine Gv (V_eql rfl rfl rfl) ?_
      refine Ga ?_
      refine G_end (X_then ?_)
      refine G_cond_f rfl (decide_eq_false (by omega)) ?_
      refine G_seq (G_region ?_)
      refine Gv (V_eql rfl rfl rfl) ?_
      refine Ga ?_
      refine G_end (X_then ?_)
      refine G_cond_t rfl (decide_eq_true (by omega)) ?_
      refine G_seq (G_region ?_)
      refine Gv (V_fieldAddr rfl rfl (by decide)) ?_
      refine Gv (V_load rfl rfl (Cell.own (.head _) rfl)) ?_
      refine Gv (V_eql rfl rfl rfl) ?_
      refine Gm ?_
      refine G.bool_f 20 rfl (decide_eq_false (by omega)) ?_
      refine Gy (V_fieldAddr rfl rfl (by decide)) ?_
      refine Gy (V_load rfl rfl (Cell.own (.head _) rfl)) ?_
      refine Gy (V_eql rfl rfl rfl) ?_
      refine Gv (V_pick_f rfl rfl rfl) ?_
      refine Gm ?_
      refine G.bool_f 25 rfl (decide_eq_false (by omega)) ?_
      refine Gy (V_fieldAddr rfl rfl (by decide)) ?_
      refine Gy (V_load rfl rfl (Cell.own (.head _) rfl)) ?_
      refine Gy (V_eql rfl rfl rfl) ?_
      refine Gv (V_pick_f rfl rfl rfl) ?_
      refine Gm ?_
      refine G.bool_f 30 rfl (decide_eq_false (by omega)) ?_
      refine Gy (V_fieldAddr rfl rfl (by decide)) ?_
      refine Gy (V_load rfl rfl (Cell.own (.head _) rfl)) ?_
      refine Gy (V_eql rfl rfl rfl) ?_
      refine Gv (V_pick_f rfl rfl rfl) ?_
      refine Ga ?_
      refine G_end (X_then (G_ret (X_block_ret (X_then_ret ?_))))
      refine G_leaveS (.drop _ (.nil _)) (by exact (.cons (.tmp rfl) (.nil))) rfl ?_ ?_
      · exact (.refl _)
      exact ⟨(by (simp [resVal, *]; done)), (by rfl)⟩
    rw [decide_eq_false (fun h => by rcases h with h | h | h | h; exact c1 h; exact c2 h; exact c3 h; exact c4 h)]
    refine CallS.toV (CallS.intro (l := [_]) _ Tryz.func42 rfl Tryz.ntmps42 rfl ?_)
    refine G_seq (G_region ?_)
    (refine G_boxA rfl rfl rfl rfl (.none rfl) ?_; intro b1)
    refine Ga ?_
    refine G_end (X_then (G_seq (G_seq (G_region ?_))))
    refine Gv (V_fieldAddr rfl rfl (by decide)) ?_
    refine Gv (V_load rfl rfl (Cell.own (.head _) rfl)) ?_
    refine G_end (X_then (G_block (G_seq (G_region ?_))))
    refine Gv (V_eql rfl rfl rfl) ?_
    refine Ga ?_
    refine G_end (X_then ?_)
    refine G_cond_f rfl (decide_eq_false (by omega)) ?_
    refine G_seq (G_region ?_)
    refine Gv (V_eql rfl rfl rfl) ?_
    refine Ga ?_
    refine G_end (X_then ?_)
    refine G_cond_t rfl (decide_eq_true (by omega)) ?_
    refine G_seq (G_region ?_)
    refine Gv (V_fieldAddr rfl rfl (by decide)) ?_
    refine Gv (V_load rfl rfl (Cell.own (.head _) rfl)) ?_
    refine Gv (V_eql rfl rfl rfl) ?_
    refine Gm ?_
    refine G.bool_f 20 rfl (decide_eq_false (by omega)) ?_
    refine Gy (V_fieldAddr rfl rfl (by decide)) ?_
    refine Gy (V_load rfl rfl (Cell.own (.head _) rfl)) ?_
    refine Gy (V_eql rfl rfl rfl) ?_
    refine Gv (V_pick_f rfl rfl rfl) ?_
    refine Gm ?_
    refine G.bool_f 25 rfl (decide_eq_false (by omega)) ?_
    refine Gy (V_fieldAddr rfl rfl (by decide)) ?_
    refine Gy (V_load rfl rfl (Cell.own (.head _) rfl)) ?_
    refine Gy (V_eql rfl rfl rfl) ?_
    refine Gv (V_pick_f rfl rfl rfl) ?_
    refine Gm ?_
    refine G.bool_f 30 rfl (decide_eq_false (by omega)) ?_
    refine Gy (V_fieldAddr rfl rfl (by decide)) ?_
    refine Gy (V_load rfl rfl (Cell.own (.head _) rfl)) ?_
    refine Gy (V_eql rfl rfl rfl) ?_
    refine Gv (V_pick_f rfl rfl rfl) ?_
    refine Ga ?_
    refine G_end (X_then (G_ret (X_block_ret (X_then_ret ?_))))
    refine G_leaveS (.drop _ (.nil _)) (by exact (.cons (.tmp rfl) (.nil))) rfl ?_ ?_
    · exact (.refl _)
    exact ⟨(by (simp [resVal, *]; done)), (by rfl)⟩
  rw [if_neg h7]
  by_cases c24 : er = 24
  · rw [if_pos c24]
    refine CallS.toV (CallS.intro (l := [_]) _ Tryz.func42 rfl Tryz.ntmps42 rfl ?_)
    refine G_seq (G_region ?_)
    (refine G_boxA rfl rfl rfl rfl (.none rfl) ?_; intro b1)
    refine Ga ?_
    refine G_end (X_then (G_seq (G_seq (G_region ?_))))
    refine Gv (V_fieldAddr rfl rfl (by decide)) ?_
    refine Gv (V_load rfl rfl (Cell.own (.head _) rfl)) ?_
    refine G_end (X_then (G_block (G_seq (G_region ?_))))
    refine Gv (V_eql rfl rfl rfl) ?_
    refine Ga ?_
    refine G_end (X_then ?_)
    refine G_cond_f rfl (decide_eq_false (by omega)) ?_
    refine G_seq (G_region ?_)
    refine Gv (V_eql rfl rfl rfl) ?_
    refine Ga ?_
    refine G_end (X_then ?_)
    refine G_cond_f rfl (decide_eq_false (by omega)) ?_
    refine G_skip (X_block (X_then (G_seq (G_seq (G_region ?_)))))
    refine Gv (V_fieldAddr rfl rfl (by decide)) ?_
    refine Gv (V_load rfl rfl (Cell.own (.head _) rfl)) ?_
    refine G_end (X_then (G_block (G_seq (G_region ?_))))
    refine Gv (V_eql rfl rfl rfl) ?_
    refine Ga ?_
    refine G_end (X_then ?_)
    refine G_cond_t rfl (decide_eq_true (by omega)) ?_
    refine G_seq (G_region ?_)
    refine Gv (V_fieldAddr rfl rfl (by decide)) ?_
    refine Gv (V_load rfl rfl (Cell.own (.head _) rfl)) ?_
    refine G_callv (k := 77) (.mk rfl rfl rfl rfl) rfl rfl (.none rfl) (rnonterminal_call _ _ _) ?_
    refine Ga ?_
    refine G_end (X_then (G_ret (X_block_ret (X_then_ret ?_))))
    refine G_leaveS (.drop _ (.nil _)) (by exact (.cons (.tmp rfl) (.nil))) rfl ?_ ?_
    · exact (.refl _)
    exact ⟨rfl, rfl⟩
  rw [if_neg c24]
  by_cases c22 : er = 22 ∨ er = 5
  · rw [if_pos c22]
    by_cases c1 : er = 22
    · refine CallS.toV (CallS.intro (l := [_]) _ Tryz.func42 rfl Tryz.ntmps42 rfl ?_)
      refine G_seq (G_region ?_)
      (refine G_boxA rfl rfl rfl rfl (.none rfl) ?_; intro b1)
      refine Ga ?_
      refine G_end (X_then (G_seq (G_seq (G_region ?_))))
      refine Gv (V_fieldAddr rfl rfl (by decide)) ?_
      refine Gv (V_load rfl rfl (Cell.own (.head _) rfl)) ?_
      refine G_end (X_then (G_block (G_seq (G_region ?_))))
      refine Gv (V_eql rfl rfl rfl) ?_
      refine Ga ?_
      refine G_end (X_then ?_)
      refine G_cond_f rfl (decide_eq_false (by omega)) ?_
      refine G_seq (G_region ?_)
      refine Gv (V_eql rfl rfl rfl) ?_
      refine Ga ?_
      refine G_end (X_then ?_)
      refine G_cond_f rfl (decide_eq_false (by omega)) ?_
      refine G_skip (X_block (X_then (G_seq (G_seq (G_region ?_)))))
      refine Gv (V_fieldAddr rfl rfl (by decide)) ?_
      refine Gv (V_load rfl rfl (Cell.own (.head _) rfl)) ?_
      refine G_end (X_then (G_block (G_seq (G_region ?_))))
      refine Gv (V_eql rfl rfl rfl) ?_
      refine Ga ?_
      refine G_end (X_then ?_)
      refine G_cond_f rfl (decide_eq_false (by omega)) ?_
      refine G_seq (G_seq (G_region ?_))
      refine Gv (V_eql rfl rfl rfl) ?_
      refine Ga ?_
      refine G_end (X_then ?_)
      refine G_cond_t rfl (decide_eq_true (by omega)) ?_
      refine G_skip (X_then ?_)
      refine G_cond_t rfl (decide_eq_true (by omega)) ?_
      refine G_seq (G_region ?_)
      refine Gv (V_fieldAddr rfl rfl (by decide)) ?_
      refine Gv (V_load rfl rfl (Cell.own (.head _) rfl)) ?_
      refine G_callv (k := 76) (.mk rfl rfl rfl rfl) rfl rfl (.none rfl) (rterminal_call _ _ _) ?_
      refine Ga ?_
      refine G_end (X_then (G_ret (X_block_ret (X_then_ret ?_))))
      refine G_leaveS (.drop _ (.nil _)) (by exact (.cons (.tmp rfl) (.nil))) rfl ?_ ?_
      · exact (.refl _)
      exact ⟨rfl, rfl⟩
    · have c2 : er = 5 := by omega
      refine CallS.toV (CallS.intro (l := [_]) _ Tryz.func42 rfl Tryz.ntmps42 rfl ?_)
      refine G_seq (G_region ?_)
      (refine G_boxA rfl rfl rfl rfl (.none rfl) ?_; intro b1)
      refine Ga ?_
      refine G_end (X_then (G_seq (G_seq (G_region ?_))))
      refine Gv (V_fieldAddr rfl rfl (by decide)) ?_
      refine Gv (V_load rfl rfl (Cell.own (.head _) rfl)) ?_
      refine G_end (X_then (G_block (G_seq (G_region ?_))))
      refine Gv (V_eql rfl rfl rfl) ?_
      refine Ga ?_
      refine G_end (X_then ?_)
      refine G_cond_f rfl (decide_eq_false (by omega)) ?_
      refine G_seq (G_region ?_)
      refine Gv (V_eql rfl rfl rfl) ?_
      refine Ga ?_
      refine G_end (X_then ?_)
      refine G_cond_f rfl (decide_eq_false (by omega)) ?_
      refine G_skip (X_block (X_then (G_seq (G_seq (G_region ?_)))))
      refine Gv (V_fieldAddr rfl rfl (by decide)) ?_
      refine Gv (V_load rfl rfl (Cell.own (.head _) rfl)) ?_
      refine G_end (X_then (G_block (G_seq (G_region ?_))))
      refine Gv (V_eql rfl rfl rfl) ?_
      refine Ga ?_
      refine G_end (X_then ?_)
      refine G_cond_f rfl (decide_eq_false (by omega)) ?_
      refine G_seq (G_seq (G_region ?_))
      refine Gv (V_eql rfl rfl rfl) ?_
      refine Ga ?_
      refine G_end (X_then ?_)
      refine G_cond_f rfl (decide_eq_false (by omega)) ?_
      refine G_region ?_
      refine Gv (V_eql rfl rfl rfl) ?_
      refine Ga ?_
      refine G_end (X_then ?_)
      refine G_cond_t rfl (decide_eq_true (by omega)) ?_
      refine G_seq (G_region ?_)
      refine Gv (V_fieldAddr rfl rfl (by decide)) ?_
      refine Gv (V_load rfl rfl (Cell.own (.head _) rfl)) ?_
      refine G_callv (k := 76) (.mk rfl rfl rfl rfl) rfl rfl (.none rfl) (rterminal_call _ _ _) ?_
      refine Ga ?_
      refine G_end (X_then (G_ret (X_block_ret (X_then_ret ?_))))
      refine G_leaveS (.drop _ (.nil _)) (by exact (.cons (.tmp rfl) (.nil))) rfl ?_ ?_
      · exact (.refl _)
      exact ⟨rfl, rfl⟩
  rw [if_neg c22]
  have c1 : ¬ er = 22 := fun h => c22 (.inl h)
  have c2 : ¬ er = 5 := fun h => c22 (.inr h)
  by_cases c3 : er = 23
  · by_cases c4 : sy = -1
    · rw [decide_eq_true ⟨c3, c4⟩]
      refine CallS.toV (CallS.intro (l := [_]) _ Tryz.func42 rfl Tryz.ntmps42 rfl ?_)
      refine G_seq (G_region ?_)
      (refine G_boxA rfl rfl rfl rfl (.none rfl) ?_; intro b1)
      refine Ga ?_
      refine G_end (X_then (G_seq (G_seq (G_region ?_))))
      refine Gv (V_fieldAddr rfl rfl (by decide)) ?_
      refine Gv (V_load rfl rfl (Cell.own (.head _) rfl)) ?_
      refine G_end (X_then (G_block (G_seq (G_region ?_))))
      refine Gv (V_eql rfl rfl rfl) ?_
      refine Ga ?_
      refine G_end (X_then ?_)
      refine G_cond_f rfl (decide_eq_false (by omega)) ?_
      refine G_seq (G_region ?_)
      refine Gv (V_eql rfl rfl rfl) ?_
      refine Ga ?_
      refine G_end (X_then ?_)
      refine G_cond_f rfl (decide_eq_false (by omega)) ?_
      refine G_skip (X_block (X_then (G_seq (G_seq (G_region ?_)))))
      refine Gv (V_fieldAddr rfl rfl (by decide)) ?_
      refine Gv (V_load rfl rfl (Cell.own (.head _) rfl)) ?_
      refine G_end (X_then (G_block (G_seq (G_region ?_))))
      refine Gv (V_eql rfl rfl rfl) ?_
      refine Ga ?_
      refine G_end (X_then ?_)
      refine G_cond_f rfl (decide_eq_false (by omega)) ?_
      refine G_seq (G_seq (G_region ?_))
      refine Gv (V_eql rfl rfl rfl) ?_
      refine Ga ?_
      refine G_end (X_then ?_)
      refine G_cond_f rfl (decide_eq_false (by omega)) ?_
      refine G_region ?_
      refine Gv (V_eql rfl rfl rfl) ?_
      refine Ga ?_
      refine G_end (X_then ?_)
      refine G_cond_f rfl (decide_eq_false (by omega)) ?_
      refine G_skip (X_block (X_then (G_seq (G_region ?_))))
      refine Gv (V_fieldAddr rfl rfl (by decide)) ?_
      refine Gv (V_load rfl rfl (Cell.own (.head _) rfl)) ?_
      refine Gv (V_eql rfl rfl rfl) ?_
      refine Gm ?_
      refine G.bool_t 51 rfl (decide_eq_true (by omega)) ?_
      refine Gy (V_fieldAddr rfl rfl (by decide)) ?_
      refine Gy (V_load rfl rfl (Cell.own (.head _) rfl)) ?_
      refine Gy (V_eql rfl rfl rfl) ?_
      refine Gv (V_pick_t rfl rfl rfl) ?_
      refine Ga ?_
      refine G_end (X_then (G_ret ?_))
      refine G_leaveS (.drop _ (.nil _)) (by exact (.cons (.tmp rfl) (.nil))) rfl ?_ ?_
      · exact (.refl _)
      exact ⟨(by (simp [resVal, *]; done)), (by rfl)⟩
    · rw [decide_eq_false (fun h => c4 h.2)]
      refine CallS.toV (CallS.intro (l := [_]) _ Tryz.func42 rfl Tryz.ntmps42 rfl ?_)
      refine G_seq (G_region ?_)
      (refine G_boxA rfl rfl rfl rfl (.none rfl) ?_; intro b1)
      refine Ga ?_
      refine G_end (X_then (G_seq (G_seq (G_region ?_))))
      refine Gv (V_fieldAddr rfl rfl (by decide)) ?_
      refine Gv (V_load rfl rfl (Cell.own (.head _) rfl)) ?_
      refine G_end (X_then (G_block (G_seq (G_region ?_))))
      refine Gv (V_eql rfl rfl rfl) ?_
      refine Ga ?_
      refine G_end (X_then ?_)
      refine G_cond_f rfl (decide_eq_false (by omega)) ?_
      refine G_seq (G_region ?_)
      refine Gv (V_eql rfl rfl rfl) ?_
      refine Ga ?_
      refine G_end (X_then ?_)
      refine G_cond_f rfl (decide_eq_false (by omega)) ?_
      refine G_skip (X_block (X_then (G_seq (G_seq (G_region ?_)))))
      refine Gv (V_fieldAddr rfl rfl (by decide)) ?_
      refine Gv (V_load rfl rfl (Cell.own (.head _) rfl)) ?_
      refine G_end (X_then (G_block (G_seq (G_region ?_))))
      refine Gv (V_eql rfl rfl rfl) ?_
      refine Ga ?_
      refine G_end (X_then ?_)
      refine G_cond_f rfl (decide_eq_false (by omega)) ?_
      refine G_seq (G_seq (G_region ?_))
      refine Gv (V_eql rfl rfl rfl) ?_
      refine Ga ?_
      refine G_end (X_then ?_)
      refine G_cond_f rfl (decide_eq_false (by omega)) ?_
      refine G_region ?_
      refine Gv (V_eql rfl rfl rfl) ?_
      refine Ga ?_
      refine G_end (X_then ?_)
      refine G_cond_f rfl (decide_eq_false (by omega)) ?_
      refine G_skip (X_block (X_then (G_seq (G_region ?_))))
      refine Gv (V_fieldAddr rfl rfl (by decide)) ?_
      refine Gv (V_load rfl rfl (Cell.own (.head _) rfl)) ?_
      refine Gv (V_eql rfl rfl rfl) ?_
      refine Gm ?_
      refine G.bool_t 51 rfl (decide_eq_true (by omega)) ?_
      refine Gy (V_fieldAddr rfl rfl (by decide)) ?_
      refine Gy (V_load rfl rfl (Cell.own (.head _) rfl)) ?_
      refine Gy (V_eql rfl rfl rfl) ?_
      refine Gv (V_pick_t rfl rfl rfl) ?_
      refine Ga ?_
      refine G_end (X_then (G_ret ?_))
      refine G_leaveS (.drop _ (.nil _)) (by exact (.cons (.tmp rfl) (.nil))) rfl ?_ ?_
      · exact (.refl _)
      exact ⟨(by (simp [resVal, *]; done)), (by rfl)⟩
  · rw [decide_eq_false (fun h => c3 h.1)]
    refine CallS.toV (CallS.intro (l := [_]) _ Tryz.func42 rfl Tryz.ntmps42 rfl ?_)
    refine G_seq (G_region ?_)
    (refine G_boxA rfl rfl rfl rfl (.none rfl) ?_; intro b1)
    refine Ga ?_
    refine G_end (X_then (G_seq (G_seq (G_region ?_))))
    refine Gv (V_fieldAddr rfl rfl (by decide)) ?_
    refine Gv (V_load rfl rfl (Cell.own (.head _) rfl)) ?_
    refine G_end (X_then (G_block (G_seq (G_region ?_))))
    refine Gv (V_eql rfl rfl rfl) ?_
    refine Ga ?_
    refine G_end (X_then ?_)
    refine G_cond_f rfl (decide_eq_false (by omega)) ?_
    refine G_seq (G_region ?_)
    refine Gv (V_eql rfl rfl rfl) ?_
    refine Ga ?_
    refine G_end (X_then ?_)
    refine G_cond_f rfl (decide_eq_false (by omega)) ?_
    refine G_skip (X_block (X_then (G_seq (G_seq (G_region ?_)))))
    refine Gv (V_fieldAddr rfl rfl (by decide)) ?_
    refine Gv (V_load rfl rfl (Cell.own (.head _) rfl)) ?_
    refine G_end (X_then (G_block (G_seq (G_region ?_))))
    refine Gv (V_eql rfl rfl rfl) ?_
    refine Ga ?_
    refine G_end (X_then ?_)
    refine G_cond_f rfl (decide_eq_false (by omega)) ?_
    refine G_seq (G_seq (G_region ?_))
    refine Gv (V_eql rfl rfl rfl) ?_
    refine Ga ?_
    refine G_end (X_then ?_)
    refine G_cond_f rfl (decide_eq_false (by omega)) ?_
    refine G_region ?_
    refine Gv (V_eql rfl rfl rfl) ?_
    refine Ga ?_
    refine G_end (X_then ?_)
    refine G_cond_f rfl (decide_eq_false (by omega)) ?_
    refine G_skip (X_block (X_then (G_seq (G_region ?_))))
    refine Gv (V_fieldAddr rfl rfl (by decide)) ?_
    refine Gv (V_load rfl rfl (Cell.own (.head _) rfl)) ?_
    refine Gv (V_eql rfl rfl rfl) ?_
    refine Gm ?_
    refine G.bool_f 51 rfl (decide_eq_false (by omega)) ?_
    refine Gn ?_
    refine Gn ?_
    refine Gn ?_
    refine Gv (V_pick_f rfl rfl rfl) ?_
    refine Ga ?_
    refine G_end (X_then (G_ret ?_))
    refine G_leaveS (.drop _ (.nil _)) (by exact (.cons (.tmp rfl) (.nil))) rfl ?_ ?_
    · exact (.refl _)
    exact ⟨(by kernel_rfl), rfl⟩
end
end Go.Proofs.YtjhehanknkonnaaGreatDoor
set_option linter.unusedSimpArgs false
set_option linter.unusedVariables false
set_option maxHeartbeats 2000000
set_option maxRecDepth 20000
namespace Go.Proofs.YtjhehanknkonnaaGreatDoor
open Go.RowKit
/-! Plain: which error the checks give, kind by kind. -/
section
variable (sy pr rc pl : Int) (tx : List UInt8) (er : Int)
theorem chkE1 : chkE (1, sy, pr, rc, pl, tx, er) = (if cntP rc then (if cntP pl then (if sy = 0 ∧ pr = 0 ∧ tx = [] ∧ er = 0 then 0 else 3) else 2) else 2) := by
  have h1 : chkE (1, sy, pr, rc, pl, tx, er) = (if badF (1, sy, pr, rc, pl, tx, er) 0 ≠ 0 then badF (1, sy, pr, rc, pl, tx, er) 0 else (if badF (1, sy, pr, rc, pl, tx, er) 5 ≠ 0 then badF (1, sy, pr, rc, pl, tx, er) 5 else (if ((1, 0, 0, rc, pl, [], 0) : Ev) = (1, sy, pr, rc, pl, tx, er) then 0 else 3))) := rfl
  rw [h1]
  have b0 : badF (1, sy, pr, rc, pl, tx, er) 0 = if cntP rc then 0 else 2 := rfl
  have b5 : badF (1, sy, pr, rc, pl, tx, er) 5 = if cntP pl then 0 else 2 := rfl
  rw [b0, b5]
  by_cases c0 : cntP rc
  · simp only [if_pos c0]
    by_cases c5 : cntP pl
    · simp only [if_pos c5]
      by_cases cz : sy = 0 ∧ pr = 0 ∧ tx = [] ∧ er = 0
      · obtain ⟨rfl, rfl, rfl, rfl⟩ := cz
        simp
      · rw [if_neg cz, if_neg (by simp), if_neg (by simp), if_neg (fun h => cz (by simp only [Prod.mk.injEq] at h; obtain ⟨_, q1, q2, _, _, q3, q4⟩ := h; exact ⟨q1.symm, q2.symm, q3.symm, q4.symm⟩))]
    · simp [if_neg c5]
  · simp [if_neg c0]
theorem chkE2 : chkE (2, sy, pr, rc, pl, tx, er) = (if cntP pl then (if symP (2, sy, pr, rc, pl, tx, er) = true then (if 0 ≤ pr ∧ pr < 24 then (if rc = 0 ∧ tx = [] ∧ er = 0 then 0 else 3) else 2) else 14) else 2) := by
  have h1 : chkE (2, sy, pr, rc, pl, tx, er) = (if badF (2, sy, pr, rc, pl, tx, er) 5 ≠ 0 then badF (2, sy, pr, rc, pl, tx, er) 5 else (if badF (2, sy, pr, rc, pl, tx, er) 1 ≠ 0 then badF (2, sy, pr, rc, pl, tx, er) 1 else (if badF (2, sy, pr, rc, pl, tx, er) 2 ≠ 0 then badF (2, sy, pr, rc, pl, tx, er) 2 else (if ((2, sy, pr, 0, pl, [], 0) : Ev) = (2, sy, pr, rc, pl, tx, er) then 0 else 3)))) := rfl
  rw [h1]
  have b5 : badF (2, sy, pr, rc, pl, tx, er) 5 = if cntP pl then 0 else 2 := rfl
  have b1 : badF (2, sy, pr, rc, pl, tx, er) 1 = if symP (2, sy, pr, rc, pl, tx, er) = true then 0 else 14 := rfl
  have b2 : badF (2, sy, pr, rc, pl, tx, er) 2 = if 0 ≤ pr ∧ pr < 24 then 0 else 2 := rfl
  rw [b5, b1, b2]
  by_cases c5 : cntP pl
  · simp only [if_pos c5]
    by_cases c1 : symP (2, sy, pr, rc, pl, tx, er) = true
    · simp only [if_pos c1]
      by_cases c2 : 0 ≤ pr ∧ pr < 24
      · simp only [if_pos c2]
        by_cases cz : rc = 0 ∧ tx = [] ∧ er = 0
        · obtain ⟨rfl, rfl, rfl⟩ := cz
          simp
        · rw [if_neg cz, if_neg (by simp), if_neg (by simp), if_neg (by simp), if_neg (fun h => cz (by simp only [Prod.mk.injEq] at h; obtain ⟨_, _, _, q0, _, q3, q4⟩ := h; exact ⟨q0.symm, q3.symm, q4.symm⟩))]
      · simp [if_neg c2]
    · simp [if_neg c1]
  · simp [if_neg c5]
theorem chkE3 : chkE (3, sy, pr, rc, pl, tx, er) = (if cntP pl then (if symP (3, sy, pr, rc, pl, tx, er) = true then (if tx.length ≤ 24 then (if rc = 0 ∧ pr = 0 ∧ er = 0 then 0 else 3) else 4) else 14) else 2) := by
  have h1 : chkE (3, sy, pr, rc, pl, tx, er) = (if badF (3, sy, pr, rc, pl, tx, er) 5 ≠ 0 then badF (3, sy, pr, rc, pl, tx, er) 5 else (if badF (3, sy, pr, rc, pl, tx, er) 1 ≠ 0 then badF (3, sy, pr, rc, pl, tx, er) 1 else (if badF (3, sy, pr, rc, pl, tx, er) 3 ≠ 0 then badF (3, sy, pr, rc, pl, tx, er) 3 else (if ((3, sy, 0, 0, pl, tx, 0) : Ev) = (3, sy, pr, rc, pl, tx, er) then 0 else 3)))) := rfl
  rw [h1]
  have b5 : badF (3, sy, pr, rc, pl, tx, er) 5 = if cntP pl then 0 else 2 := rfl
  have b1 : badF (3, sy, pr, rc, pl, tx, er) 1 = if symP (3, sy, pr, rc, pl, tx, er) = true then 0 else 14 := rfl
  have b3 : badF (3, sy, pr, rc, pl, tx, er) 3 = if tx.length ≤ 24 then 0 else 4 := rfl
  rw [b5, b1, b3]
  by_cases c5 : cntP pl
  · simp only [if_pos c5]
    by_cases c1 : symP (3, sy, pr, rc, pl, tx, er) = true
    · simp only [if_pos c1]
      by_cases c3 : tx.length ≤ 24
      · simp only [if_pos c3]
        by_cases cz : rc = 0 ∧ pr = 0 ∧ er = 0
        · obtain ⟨rfl, rfl, rfl⟩ := cz
          simp
        · rw [if_neg cz, if_neg (by simp), if_neg (by simp), if_neg (by simp), if_neg (fun h => cz (by simp only [Prod.mk.injEq] at h; obtain ⟨_, _, q2, q0, _, _, q4⟩ := h; exact ⟨q0.symm, q2.symm, q4.symm⟩))]
      · simp [if_neg c3]
    · simp [if_neg c1]
  · simp [if_neg c5]
theorem chkE4 : chkE (4, sy, pr, rc, pl, tx, er) = if symP (4, sy, pr, rc, pl, tx, er) = true then (if 0 ≤ pr ∧ pr < 24 then (if rc = 0 ∧ pl = 0 ∧ tx = [] ∧ er = 0 then 0 else 3) else 2) else 14 := by
  have h1 : chkE (4, sy, pr, rc, pl, tx, er) = if badF (4, sy, pr, rc, pl, tx, er) 1 ≠ 0 then badF (4, sy, pr, rc, pl, tx, er) 1 else if badF (4, sy, pr, rc, pl, tx, er) 2 ≠ 0 then badF (4, sy, pr, rc, pl, tx, er) 2 else if ((4, sy, pr, 0, 0, [], 0) : Ev) = (4, sy, pr, rc, pl, tx, er) then 0 else 3 := rfl
  rw [h1]
  have b1 : badF (4, sy, pr, rc, pl, tx, er) 1 = if symP (4, sy, pr, rc, pl, tx, er) = true then 0 else 14 := rfl
  have b2 : badF (4, sy, pr, rc, pl, tx, er) 2 = if 0 ≤ pr ∧ pr < 24 then 0 else 2 := rfl
  rw [b1, b2]
  by_cases c1 : symP (4, sy, pr, rc, pl, tx, er) = true
  · simp only [if_pos c1]
    by_cases c2 : 0 ≤ pr ∧ pr < 24
    · simp only [if_pos c2]
      by_cases c3 : rc = 0 ∧ pl = 0 ∧ tx = [] ∧ er = 0
      · obtain ⟨rfl, rfl, rfl, rfl⟩ := c3
        simp
      · rw [if_neg c3, if_neg (by simp), if_neg (by simp), if_neg (fun h => c3 (by simp only [Prod.mk.injEq] at h; obtain ⟨_, _, _, h4, h5, h6, h7⟩ := h; exact ⟨h4.symm, h5.symm, h6.symm, h7.symm⟩))]
    · simp [if_neg c2]
  · simp [if_neg c1]
theorem chkE5 : chkE (5, sy, pr, rc, pl, tx, er) = (if cntP pl then (if symP (5, sy, pr, rc, pl, tx, er) = true then (if errP (5, sy, pr, rc, pl, tx, er) = true then (if rc = 0 ∧ pr = 0 ∧ tx = [] then 0 else 3) else 11) else 14) else 2) := by
  have h1 : chkE (5, sy, pr, rc, pl, tx, er) = (if badF (5, sy, pr, rc, pl, tx, er) 5 ≠ 0 then badF (5, sy, pr, rc, pl, tx, er) 5 else (if badF (5, sy, pr, rc, pl, tx, er) 1 ≠ 0 then badF (5, sy, pr, rc, pl, tx, er) 1 else (if badF (5, sy, pr, rc, pl, tx, er) 4 ≠ 0 then badF (5, sy, pr, rc, pl, tx, er) 4 else (if ((5, sy, 0, 0, pl, [], er) : Ev) = (5, sy, pr, rc, pl, tx, er) then 0 else 3)))) := rfl
  rw [h1]
  have b5 : badF (5, sy, pr, rc, pl, tx, er) 5 = if cntP pl then 0 else 2 := rfl
  have b1 : badF (5, sy, pr, rc, pl, tx, er) 1 = if symP (5, sy, pr, rc, pl, tx, er) = true then 0 else 14 := rfl
  have b4 : badF (5, sy, pr, rc, pl, tx, er) 4 = if errP (5, sy, pr, rc, pl, tx, er) = true then 0 else 11 := rfl
  rw [b5, b1, b4]
  by_cases c5 : cntP pl
  · simp only [if_pos c5]
    by_cases c1 : symP (5, sy, pr, rc, pl, tx, er) = true
    · simp only [if_pos c1]
      by_cases c4 : errP (5, sy, pr, rc, pl, tx, er) = true
      · simp only [if_pos c4]
        by_cases cz : rc = 0 ∧ pr = 0 ∧ tx = []
        · obtain ⟨rfl, rfl, rfl⟩ := cz
          simp
        · rw [if_neg cz, if_neg (by simp), if_neg (by simp), if_neg (by simp), if_neg (fun h => cz (by simp only [Prod.mk.injEq] at h; obtain ⟨_, _, q2, q0, _, q3, _⟩ := h; exact ⟨q0.symm, q2.symm, q3.symm⟩))]
      · simp [if_neg c4]
    · simp [if_neg c1]
  · simp [if_neg c5]
theorem chkE6 : chkE (6, sy, pr, rc, pl, tx, er) = (if cntP rc then (if cntP pl then (if errP (6, sy, pr, rc, pl, tx, er) = true then (if sy = 0 ∧ pr = 0 ∧ tx = [] then 0 else 3) else 11) else 2) else 2) := by
  have h1 : chkE (6, sy, pr, rc, pl, tx, er) = (if badF (6, sy, pr, rc, pl, tx, er) 0 ≠ 0 then badF (6, sy, pr, rc, pl, tx, er) 0 else (if badF (6, sy, pr, rc, pl, tx, er) 5 ≠ 0 then badF (6, sy, pr, rc, pl, tx, er) 5 else (if badF (6, sy, pr, rc, pl, tx, er) 4 ≠ 0 then badF (6, sy, pr, rc, pl, tx, er) 4 else (if ((6, 0, 0, rc, pl, [], er) : Ev) = (6, sy, pr, rc, pl, tx, er) then 0 else 3)))) := rfl
  rw [h1]
  have b0 : badF (6, sy, pr, rc, pl, tx, er) 0 = if cntP rc then 0 else 2 := rfl
  have b5 : badF (6, sy, pr, rc, pl, tx, er) 5 = if cntP pl then 0 else 2 := rfl
  have b4 : badF (6, sy, pr, rc, pl, tx, er) 4 = if errP (6, sy, pr, rc, pl, tx, er) = true then 0 else 11 := rfl
  rw [b0, b5, b4]
  by_cases c0 : cntP rc
  · simp only [if_pos c0]
    by_cases c5 : cntP pl
    · simp only [if_pos c5]
      by_cases c4 : errP (6, sy, pr, rc, pl, tx, er) = true
      · simp only [if_pos c4]
        by_cases cz : sy = 0 ∧ pr = 0 ∧ tx = []
        · obtain ⟨rfl, rfl, rfl⟩ := cz
          simp
        · rw [if_neg cz, if_neg (by simp), if_neg (by simp), if_neg (by simp), if_neg (fun h => cz (by simp only [Prod.mk.injEq] at h; obtain ⟨_, q1, q2, _, _, q3, _⟩ := h; exact ⟨q1.symm, q2.symm, q3.symm⟩))]
      · simp [if_neg c4]
    · simp [if_neg c5]
  · simp [if_neg c0]
theorem chkE7 : chkE (7, sy, pr, rc, pl, tx, er) = (if cntP pl then (if errP (7, sy, pr, rc, pl, tx, er) = true then (if rc = 0 ∧ sy = 0 ∧ pr = 0 ∧ tx = [] then 0 else 3) else 11) else 2) := by
  have h1 : chkE (7, sy, pr, rc, pl, tx, er) = (if badF (7, sy, pr, rc, pl, tx, er) 5 ≠ 0 then badF (7, sy, pr, rc, pl, tx, er) 5 else (if badF (7, sy, pr, rc, pl, tx, er) 4 ≠ 0 then badF (7, sy, pr, rc, pl, tx, er) 4 else (if ((7, 0, 0, 0, pl, [], er) : Ev) = (7, sy, pr, rc, pl, tx, er) then 0 else 3))) := rfl
  rw [h1]
  have b5 : badF (7, sy, pr, rc, pl, tx, er) 5 = if cntP pl then 0 else 2 := rfl
  have b4 : badF (7, sy, pr, rc, pl, tx, er) 4 = if errP (7, sy, pr, rc, pl, tx, er) = true then 0 else 11 := rfl
  rw [b5, b4]
  by_cases c5 : cntP pl
  · simp only [if_pos c5]
    by_cases c4 : errP (7, sy, pr, rc, pl, tx, er) = true
    · simp only [if_pos c4]
      by_cases cz : rc = 0 ∧ sy = 0 ∧ pr = 0 ∧ tx = []
      · obtain ⟨rfl, rfl, rfl, rfl⟩ := cz
        simp
      · rw [if_neg cz, if_neg (by simp), if_neg (by simp), if_neg (fun h => cz (by simp only [Prod.mk.injEq] at h; obtain ⟨_, q1, q2, q0, _, q3, _⟩ := h; exact ⟨q0.symm, q1.symm, q2.symm, q3.symm⟩))]
    · simp [if_neg c4]
  · simp [if_neg c5]
end
end Go.Proofs.YtjhehanknkonnaaGreatDoor
set_option linter.unusedSimpArgs false
set_option linter.unusedVariables false
set_option maxHeartbeats 2000000
set_option maxRecDepth 20000
namespace Go.Proofs.YtjhehanknkonnaaGreatDoor
open Go.RowKit
/-! Plain: the checks in the reference's order. -/
section
variable (sy pr rc pl : Int) (tx : List UInt8) (er : Int)
theorem rchk1 : chkE (1, sy, pr, rc, pl, tx, er) = if (true && !decide (cntP rc)) = true then 2 else if (true && !decide (cntP pl)) = true then 2 else if (false && !symP (1, sy, pr, rc, pl, tx, er)) = true then 14 else if (false && !decide (0 ≤ pr ∧ pr < 24)) = true then 2 else if (false && !decide (tx.length ≤ 24)) = true then 4 else if (false && !errP (1, sy, pr, rc, pl, tx, er)) = true then 11 else if (!true && decide (rc ≠ 0)) = true then 3 else if (!true && decide (pl ≠ 0)) = true then 3 else if (!false && decide (sy ≠ 0)) = true then 3 else if (!false && decide (pr ≠ 0)) = true then 3 else if (!false && decide (tx ≠ [])) = true then 3 else if (!false && decide (er ≠ 0)) = true then 3 else 0 := by
  rw [chkE1]
  rcases Classical.propComplete (cntP rc) with c0 | c0 <;> rcases Classical.propComplete (cntP pl) with c5 | c5 <;> rcases Classical.propComplete (sy = 0) with z1 | z1 <;> rcases Classical.propComplete (pr = 0) with z2 | z2 <;> rcases Classical.propComplete (tx = []) with z3 | z3 <;> rcases Classical.propComplete (er = 0) with z4 | z4 <;> simp [c0, c5, z1, z2, z3, z4]
theorem rchk2 : chkE (2, sy, pr, rc, pl, tx, er) = if (false && !decide (cntP rc)) = true then 2 else if (true && !decide (cntP pl)) = true then 2 else if (true && !symP (2, sy, pr, rc, pl, tx, er)) = true then 14 else if (true && !decide (0 ≤ pr ∧ pr < 24)) = true then 2 else if (false && !decide (tx.length ≤ 24)) = true then 4 else if (false && !errP (2, sy, pr, rc, pl, tx, er)) = true then 11 else if (!false && decide (rc ≠ 0)) = true then 3 else if (!true && decide (pl ≠ 0)) = true then 3 else if (!true && decide (sy ≠ 0)) = true then 3 else if (!true && decide (pr ≠ 0)) = true then 3 else if (!false && decide (tx ≠ [])) = true then 3 else if (!false && decide (er ≠ 0)) = true then 3 else 0 := by
  rw [chkE2]
  rcases Classical.propComplete (cntP pl) with c5 | c5 <;> rcases Classical.propComplete (symP (2, sy, pr, rc, pl, tx, er) = true) with c1 | c1 <;> rcases Classical.propComplete (0 ≤ pr ∧ pr < 24) with c2 | c2 <;> rcases Classical.propComplete (rc = 0) with z0 | z0 <;> rcases Classical.propComplete (tx = []) with z3 | z3 <;> rcases Classical.propComplete (er = 0) with z4 | z4 <;> simp [c5, c1, c2, z0, z3, z4]
theorem rchk3 : chkE (3, sy, pr, rc, pl, tx, er) = if (false && !decide (cntP rc)) = true then 2 else if (true && !decide (cntP pl)) = true then 2 else if (true && !symP (3, sy, pr, rc, pl, tx, er)) = true then 14 else if (false && !decide (0 ≤ pr ∧ pr < 24)) = true then 2 else if (true && !decide (tx.length ≤ 24)) = true then 4 else if (false && !errP (3, sy, pr, rc, pl, tx, er)) = true then 11 else if (!false && decide (rc ≠ 0)) = true then 3 else if (!true && decide (pl ≠ 0)) = true then 3 else if (!true && decide (sy ≠ 0)) = true then 3 else if (!false && decide (pr ≠ 0)) = true then 3 else if (!true && decide (tx ≠ [])) = true then 3 else if (!false && decide (er ≠ 0)) = true then 3 else 0 := by
  rw [chkE3]
  rcases Classical.propComplete (cntP pl) with c5 | c5 <;> rcases Classical.propComplete (symP (3, sy, pr, rc, pl, tx, er) = true) with c1 | c1 <;> rcases Classical.propComplete (tx.length ≤ 24) with c3 | c3 <;> rcases Classical.propComplete (rc = 0) with z0 | z0 <;> rcases Classical.propComplete (pr = 0) with z2 | z2 <;> rcases Classical.propComplete (er = 0) with z4 | z4 <;> simp [c5, c1, c3, z0, z2, z4]
theorem rchk4 : chkE (4, sy, pr, rc, pl, tx, er) = if (false && !decide (cntP rc)) = true then 2 else if (false && !decide (cntP pl)) = true then 2 else if (true && !symP (4, sy, pr, rc, pl, tx, er)) = true then 14 else if (true && !decide (0 ≤ pr ∧ pr < 24)) = true then 2 else if (false && !decide (tx.length ≤ 24)) = true then 4 else if (false && !errP (4, sy, pr, rc, pl, tx, er)) = true then 11 else if (!false && decide (rc ≠ 0)) = true then 3 else if (!false && decide (pl ≠ 0)) = true then 3 else if (!true && decide (sy ≠ 0)) = true then 3 else if (!true && decide (pr ≠ 0)) = true then 3 else if (!false && decide (tx ≠ [])) = true then 3 else if (!false && decide (er ≠ 0)) = true then 3 else 0 := by
  rw [chkE4]
  rcases Classical.propComplete (symP (4, sy, pr, rc, pl, tx, er) = true) with c1 | c1 <;> rcases Classical.propComplete (0 ≤ pr ∧ pr < 24) with c2 | c2 <;> rcases Classical.propComplete (rc = 0) with z0 | z0 <;> rcases Classical.propComplete (pl = 0) with z5 | z5 <;> rcases Classical.propComplete (tx = []) with z3 | z3 <;> rcases Classical.propComplete (er = 0) with z4 | z4 <;> simp [c1, c2, z0, z5, z3, z4]
theorem rchk5 : chkE (5, sy, pr, rc, pl, tx, er) = if (false && !decide (cntP rc)) = true then 2 else if (true && !decide (cntP pl)) = true then 2 else if (true && !symP (5, sy, pr, rc, pl, tx, er)) = true then 14 else if (false && !decide (0 ≤ pr ∧ pr < 24)) = true then 2 else if (false && !decide (tx.length ≤ 24)) = true then 4 else if (true && !errP (5, sy, pr, rc, pl, tx, er)) = true then 11 else if (!false && decide (rc ≠ 0)) = true then 3 else if (!true && decide (pl ≠ 0)) = true then 3 else if (!true && decide (sy ≠ 0)) = true then 3 else if (!false && decide (pr ≠ 0)) = true then 3 else if (!false && decide (tx ≠ [])) = true then 3 else if (!true && decide (er ≠ 0)) = true then 3 else 0 := by
  rw [chkE5]
  generalize symP (5, sy, pr, rc, pl, tx, er) = b1
  generalize errP (5, sy, pr, rc, pl, tx, er) = b2
  cases b1 <;> cases b2 <;> rcases Classical.propComplete (cntP pl) with c5 | c5 <;> rcases Classical.propComplete (rc = 0) with z0 | z0 <;> rcases Classical.propComplete (pr = 0) with z2 | z2 <;> rcases Classical.propComplete (tx = []) with z3 | z3 <;> simp [c5, z0, z2, z3]
theorem rchk6 : chkE (6, sy, pr, rc, pl, tx, er) = if (true && !decide (cntP rc)) = true then 2 else if (true && !decide (cntP pl)) = true then 2 else if (false && !symP (6, sy, pr, rc, pl, tx, er)) = true then 14 else if (false && !decide (0 ≤ pr ∧ pr < 24)) = true then 2 else if (false && !decide (tx.length ≤ 24)) = true then 4 else if (true && !errP (6, sy, pr, rc, pl, tx, er)) = true then 11 else if (!true && decide (rc ≠ 0)) = true then 3 else if (!true && decide (pl ≠ 0)) = true then 3 else if (!false && decide (sy ≠ 0)) = true then 3 else if (!false && decide (pr ≠ 0)) = true then 3 else if (!false && decide (tx ≠ [])) = true then 3 else if (!true && decide (er ≠ 0)) = true then 3 else 0 := by
  rw [chkE6]
  rcases Classical.propComplete (cntP rc) with c0 | c0 <;> rcases Classical.propComplete (cntP pl) with c5 | c5 <;> rcases Classical.propComplete (errP (6, sy, pr, rc, pl, tx, er) = true) with c4 | c4 <;> rcases Classical.propComplete (sy = 0) with z1 | z1 <;> rcases Classical.propComplete (pr = 0) with z2 | z2 <;> rcases Classical.propComplete (tx = []) with z3 | z3 <;> simp [c0, c5, c4, z1, z2, z3]
theorem rchk7 : chkE (7, sy, pr, rc, pl, tx, er) = if (false && !decide (cntP rc)) = true then 2 else if (true && !decide (cntP pl)) = true then 2 else if (false && !symP (7, sy, pr, rc, pl, tx, er)) = true then 14 else if (false && !decide (0 ≤ pr ∧ pr < 24)) = true then 2 else if (false && !decide (tx.length ≤ 24)) = true then 4 else if (true && !errP (7, sy, pr, rc, pl, tx, er)) = true then 11 else if (!false && decide (rc ≠ 0)) = true then 3 else if (!true && decide (pl ≠ 0)) = true then 3 else if (!false && decide (sy ≠ 0)) = true then 3 else if (!false && decide (pr ≠ 0)) = true then 3 else if (!false && decide (tx ≠ [])) = true then 3 else if (!true && decide (er ≠ 0)) = true then 3 else 0 := by
  rw [chkE7]
  rcases Classical.propComplete (cntP pl) with c5 | c5 <;> rcases Classical.propComplete (errP (7, sy, pr, rc, pl, tx, er) = true) with c4 | c4 <;> rcases Classical.propComplete (rc = 0) with z0 | z0 <;> rcases Classical.propComplete (sy = 0) with z1 | z1 <;> rcases Classical.propComplete (pr = 0) with z2 | z2 <;> rcases Classical.propComplete (tx = []) with z3 | z3 <;> simp [c5, c4, z0, z1, z2, z3]
end
theorem rchk (k sy pr rc pl : Int) (tx : List UInt8) (er : Int) (hk : 1 ≤ k ∧ k ≤ 7) (h1 h2 h3 h4 h5 h6 : Bool) (e1 : h1 = decide (1 ∈ fieldsR k)) (e2 : h2 = decide (2 ∈ fieldsR k)) (e3 : h3 = decide (3 ∈ fieldsR k)) (e4 : h4 = decide (4 ∈ fieldsR k)) (e5 : h5 = decide (5 ∈ fieldsR k)) (e6 : h6 = decide (6 ∈ fieldsR k)) :
    chkE (k, sy, pr, rc, pl, tx, er) = if (h1 && !decide (cntP rc)) = true then 2 else if (h2 && !decide (cntP pl)) = true then 2 else if (h3 && !symP (k, sy, pr, rc, pl, tx, er)) = true then 14 else if (h4 && !decide (0 ≤ pr ∧ pr < 24)) = true then 2 else if (h5 && !decide (tx.length ≤ 24)) = true then 4 else if (h6 && !errP (k, sy, pr, rc, pl, tx, er)) = true then 11 else if (!h1 && decide (rc ≠ 0)) = true then 3 else if (!h2 && decide (pl ≠ 0)) = true then 3 else if (!h3 && decide (sy ≠ 0)) = true then 3 else if (!h4 && decide (pr ≠ 0)) = true then 3 else if (!h5 && decide (tx ≠ [])) = true then 3 else if (!h6 && decide (er ≠ 0)) = true then 3 else 0 := by
  obtain rfl | rfl | rfl | rfl | rfl | rfl | rfl : k = 1 ∨ k = 2 ∨ k = 3 ∨ k = 4 ∨ k = 5 ∨ k = 6 ∨ k = 7 := by omega
  · obtain rfl : h1 = true := e1
    obtain rfl : h2 = true := e2
    obtain rfl : h3 = false := e3
    obtain rfl : h4 = false := e4
    obtain rfl : h5 = false := e5
    obtain rfl : h6 = false := e6
    exact rchk1 sy pr rc pl tx er
  · obtain rfl : h1 = false := e1
    obtain rfl : h2 = true := e2
    obtain rfl : h3 = true := e3
    obtain rfl : h4 = true := e4
    obtain rfl : h5 = false := e5
    obtain rfl : h6 = false := e6
    exact rchk2 sy pr rc pl tx er
  · obtain rfl : h1 = false := e1
    obtain rfl : h2 = true := e2
    obtain rfl : h3 = true := e3
    obtain rfl : h4 = false := e4
    obtain rfl : h5 = true := e5
    obtain rfl : h6 = false := e6
    exact rchk3 sy pr rc pl tx er
  · obtain rfl : h1 = false := e1
    obtain rfl : h2 = false := e2
    obtain rfl : h3 = true := e3
    obtain rfl : h4 = true := e4
    obtain rfl : h5 = false := e5
    obtain rfl : h6 = false := e6
    exact rchk4 sy pr rc pl tx er
  · obtain rfl : h1 = false := e1
    obtain rfl : h2 = true := e2
    obtain rfl : h3 = true := e3
    obtain rfl : h4 = false := e4
    obtain rfl : h5 = false := e5
    obtain rfl : h6 = true := e6
    exact rchk5 sy pr rc pl tx er
  · obtain rfl : h1 = true := e1
    obtain rfl : h2 = true := e2
    obtain rfl : h3 = false := e3
    obtain rfl : h4 = false := e4
    obtain rfl : h5 = false := e5
    obtain rfl : h6 = true := e6
    exact rchk6 sy pr rc pl tx er
  · obtain rfl : h1 = false := e1
    obtain rfl : h2 = true := e2
    obtain rfl : h3 = false := e3
    obtain rfl : h4 = false := e4
    obtain rfl : h5 = false := e5
    obtain rfl : h6 = true := e6
    exact rchk7 sy pr rc pl tx er
end Go.Proofs.YtjhehanknkonnaaGreatDoor
set_option linter.unusedSimpArgs false
set_option linter.unusedVariables false
set_option maxHeartbeats 2000000
set_option maxRecDepth 20000
namespace Go.Proofs.YtjhehanknkonnaaGreatDoor
open Go.RowKit
/-! The reference's Check of any event. -/
theorem errR_ok {k sy pr rc pl : Int} {tx : List UInt8} {er : Int} (hk : 1 ≤ k ∧ k ≤ 7) (h6 : decide (6 ∈ fieldsR k) = true) (h3 : ¬ ((decide (3 ∈ fieldsR k) && !symP (k, sy, pr, rc, pl, tx, er)) = true)) : errR (k, sy, pr, rc, pl, tx, er) = errP (k, sy, pr, rc, pl, tx, er) := by
  obtain rfl | rfl | rfl | rfl | rfl | rfl | rfl : k = 1 ∨ k = 2 ∨ k = 3 ∨ k = 4 ∨ k = 5 ∨ k = 6 ∨ k = 7 := by omega
  · cases h6
  · cases h6
  · cases h6
  · cases h6
  · have e3 : decide ((3 : Int) ∈ fieldsR 5) = true := rfl
    rw [e3] at h3
    exact errR_eq rfl (by simpa using h3)
  · rfl
  · rfl
section
variable (E : Env) (L : List Res) (k sy pr rc pl : Int) (tx : List UInt8) (er : Int)
theorem RCheck_call' : CallS Tryz.prog 13 #[.agg #[.int .i64 k, .int .i64 sy, .int .i64 pr, .int .i64 rc, .int .i64 pl, .string (S tx), .int .i64 er]] E L (fun r E' L' => r = .int .i64 (chkE (k, sy, pr, rc, pl, tx, er)) ∧ L' = L) := by
  by_cases h : k < 1 ∨ 7 < k
  · have e : fieldsK k = [] := by
      unfold fieldsK
      repeat rw [if_neg (by omega)]
    have hc : chkE (k, sy, pr, rc, pl, tx, er) = 11 := by
      unfold chkE
      exact if_pos e
    rw [hc]
    by_cases h1 : k < 1
    · refine CallS.intro (l := [_]) _ Tryz.func13 rfl Tryz.ntmps13 rfl ?_
      refine G_seq (G_region ?_)
      (refine G_boxA rfl rfl rfl rfl (.none rfl) ?_; intro b1)
      refine Ga ?_
      refine G_end (X_then (G_seq (G_region ?_)))
      refine Gv (V_fieldAddr rfl rfl (by decide)) ?_
      refine Gv (V_load rfl rfl (Cell.own (.head _) rfl)) ?_
      refine Ga ?_
      refine G_end (X_then (G_seq (G_block (G_seq (G_region ?_)))))
      refine Gm ?_
      refine Gv (V_lss rfl rfl rfl) ?_
      refine Gm ?_
      refine G.bool_t 9 rfl (decide_eq_true (by omega)) ?_
      refine Gn ?_
      refine Gn ?_
      refine Gv (V_pick_t rfl rfl rfl) ?_
      refine Ga ?_
      refine G_end (X_then ?_)
      refine G_cond_t rfl rfl ?_
      refine G_seq (G_region ?_)
      refine Ga ?_
      refine G_end (X_then (G_ret (X_block_ret (X_then_ret ?_))))
      refine G_leaveS (.drop _ (.nil _)) (by exact (.cons (.tmp rfl) (.nil))) rfl ?_ ?_
      · exact (.refl _)
      exact ⟨(by kernel_rfl), rfl⟩
    · have h7 : 7 < k := by omega
      refine CallS.intro (l := [_]) _ Tryz.func13 rfl Tryz.ntmps13 rfl ?_
      refine G_seq (G_region ?_)
      (refine G_boxA rfl rfl rfl rfl (.none rfl) ?_; intro b1)
      refine Ga ?_
      refine G_end (X_then (G_seq (G_region ?_)))
      refine Gv (V_fieldAddr rfl rfl (by decide)) ?_
      refine Gv (V_load rfl rfl (Cell.own (.head _) rfl)) ?_
      refine Ga ?_
      refine G_end (X_then (G_seq (G_block (G_seq (G_region ?_)))))
      refine Gm ?_
      refine Gv (V_lss rfl rfl rfl) ?_
      refine Gm ?_
      refine G.bool_f 9 rfl (decide_eq_false (by omega)) ?_
      refine Gy (V_move rfl rfl) ?_
      refine Gy (V_gtr rfl rfl rfl) ?_
      refine Gv (V_pick_f rfl rfl rfl) ?_
      refine Ga ?_
      refine G_end (X_then ?_)
      refine G_cond_t rfl (decide_eq_true (by omega)) ?_
      refine G_seq (G_region ?_)
      refine Ga ?_
      refine G_end (X_then (G_ret (X_block_ret (X_then_ret ?_))))
      refine G_leaveS (.drop _ (.nil _)) (by exact (.cons (.tmp rfl) (.nil))) rfl ?_ ?_
      · exact (.refl _)
      exact ⟨(by kernel_rfl), rfl⟩
  have hk : 1 ≤ k ∧ k ≤ 7 := by omega
  have hre := errR_ok (sy := sy) (pr := pr) (rc := rc) (pl := pl) (tx := tx) (er := er) hk
  obtain ⟨h1, q1⟩ : ∃ h1, h1 = decide (1 ∈ fieldsR k) := ⟨_, rfl⟩
  obtain ⟨h2, q2⟩ : ∃ h2, h2 = decide (2 ∈ fieldsR k) := ⟨_, rfl⟩
  obtain ⟨h3, q3⟩ : ∃ h3, h3 = decide (3 ∈ fieldsR k) := ⟨_, rfl⟩
  obtain ⟨h4, q4⟩ : ∃ h4, h4 = decide (4 ∈ fieldsR k) := ⟨_, rfl⟩
  obtain ⟨h5, q5⟩ : ∃ h5, h5 = decide (5 ∈ fieldsR k) := ⟨_, rfl⟩
  obtain ⟨h6, q6⟩ : ∃ h6, h6 = decide (6 ∈ fieldsR k) := ⟨_, rfl⟩
  have hv := rchk k sy pr rc pl tx er hk h1 h2 h3 h4 h5 h6 q1 q2 q3 q4 q5 q6
  have c1 := fun E0 L0 => has_call E0 L0 k 1
  rw [← q1] at c1
  have c2 := fun E0 L0 => has_call E0 L0 k 2
  rw [← q2] at c2
  have c3 := fun E0 L0 => has_call E0 L0 k 3
  rw [← q3] at c3
  have c4 := fun E0 L0 => has_call E0 L0 k 4
  rw [← q4] at c4
  have c5 := fun E0 L0 => has_call E0 L0 k 5
  rw [← q5] at c5
  have c6 := fun E0 L0 => has_call E0 L0 k 6
  rw [← q6] at c6
  rw [← q6, ← q3] at hre
  clear q1 q2 q3 q4 q5 q6
  generalize hval : chkE (k, sy, pr, rc, pl, tx, er) = v at *
  clear hval
  generalize errP (k, sy, pr, rc, pl, tx, er) = bP at *
  refine CallS.intro (l := [_]) _ Tryz.func13 rfl Tryz.ntmps13 rfl ?_
  refine G_seq (G_region ?_)
  (refine G_boxA rfl rfl rfl rfl (.none rfl) ?_; intro b1)
  refine Ga ?_
  refine G_end (X_then (G_seq (G_region ?_)))
  refine Gv (V_fieldAddr rfl rfl (by decide)) ?_
  refine Gv (V_load rfl rfl (Cell.own (.head _) rfl)) ?_
  refine Ga ?_
  refine G_end (X_then (G_seq (G_block (G_seq (G_region ?_)))))
  refine Gm ?_
  refine Gv (V_lss rfl rfl rfl) ?_
  refine Gm ?_
  refine G.bool_f 9 rfl (decide_eq_false (by omega)) ?_
  refine Gy (V_move rfl rfl) ?_
  refine Gy (V_gtr rfl rfl rfl) ?_
  refine Gv (V_pick_f rfl rfl rfl) ?_
  refine Ga ?_
  refine G_end (X_then ?_)
  refine G_cond_f rfl (decide_eq_false (by omega)) ?_
  refine G_seq (G_region ?_)
  refine Gm ?_
  -- test 1
  refine G_call (k := 39) (.mk rfl rfl rfl rfl) rfl rfl (.none rfl) (c1 _ _) ?_
  rintro x1 E1 L1 hE1 ⟨rfl, rfl⟩
  by_cases hB1 : (h1 && !decide (cntP rc)) = true
  · rw [if_pos hB1] at hv
    subst hv
    obtain ⟨g1, g2⟩ := Bool.and_eq_true_iff.1 hB1
    rw [g1]
    have g3 : ¬ cntP rc := by simpa only [Bool.not_eq_true', decide_eq_false_iff_not] using g2
    refine Gm ?_
    refine Gy (V_fieldAddr rfl rfl (by decide)) ?_
    refine Gy (V_load rfl rfl (Cell.own (.head _) rfl)) ?_
    refine G_callv (k := 40) (.mk rfl rfl rfl rfl) rfl rfl (.yes rfl rfl rfl rfl) (rcounted_call _ _ _) ?_
    refine Gy (V_not rfl rfl) ?_
    refine Gv (V_pick_t rfl rfl rfl) ?_
    refine Gm ?_
    refine G.bool_t 22 rfl (by assumption) ?_
    refine Gn ?_
    refine Gn ?_
    refine Gn ?_
    refine G_stay (.un rfl rfl rfl rfl) rfl rfl ?_
    refine G_stay (.un rfl rfl rfl rfl) rfl rfl ?_
    refine G_stay (.un rfl rfl rfl rfl) rfl rfl ?_
    refine G_stay (.un rfl rfl rfl rfl) rfl rfl ?_
    refine Gn ?_
    refine Gv (V_pick_t rfl rfl rfl) ?_
    refine Ga ?_
    refine G_end (X_then ?_)
    refine G_cond_t rfl rfl ?_
    refine G_seq (G_region ?_)
    refine Ga ?_
    refine G_end (X_then (G_ret (X_block_ret (X_then_ret ?_))))
    refine G_leaveS (.drop _ (.nil _)) (by exact (.cons (.tmp rfl) (.nil))) rfl ?_ ?_
    · exact hE1
    exact ⟨(by kernel_rfl), rfl⟩
  rw [if_neg hB1] at hv
  refine G_ways (Y := ?Y1) (β := Unit) (J := fun _ => True) (fs' := fun _ => [(1, .pointer (some ⟨b1, 0, none⟩)), (3, .int .i64 k), (22, .bool false), (23, .int .i64 k)]) (E' := fun _ => E1) (L' := fun _ => .blk b1 (.cells #[.int .i64 k, .int .i64 sy, .int .i64 pr, .int .i64 rc, .int .i64 pl, .string (S tx), .int .i64 er] 28 (0, 0)) :: L) ?_ ?_
  rotate_left
  · intro hgo
    by_cases g1 : h1 = true
    · have g2 : ¬ ((!decide (cntP rc)) = true) := fun hx => hB1 (Bool.and_eq_true_iff.2 ⟨g1, hx⟩)
      rw [g1]
      have g3 : decide (cntP rc) = true := by simpa using g2
      refine Gm ?_
      refine Gy (V_fieldAddr rfl rfl (by decide)) ?_
      refine Gy (V_load rfl rfl (Cell.own (.head _) rfl)) ?_
      refine G_callv (k := 40) (.mk rfl rfl rfl rfl) rfl rfl (.yes rfl rfl rfl rfl) (rcounted_call _ _ rc) ?_
      rw [g3]
      refine Gy (V_not rfl rfl) ?_
      refine Gv (V_pick_t rfl rfl rfl) ?_
      refine Gm ?_
      refine G.bool_f 22 rfl (by kernel_rfl) ?_
      refine Gy (V_move rfl rfl) ?_
      refine G.sub [(1, .pointer (some ⟨b1, 0, none⟩)), (3, .int .i64 k), (22, .bool false), (23, .int .i64 k)] ⟨rfl, rfl, rfl, rfl, trivial⟩ ?_
      exact hgo () trivial
    · rw [eq_false_of_ne_true g1]
      refine Gm ?_
      refine Gn ?_
      refine Gn ?_
      refine Gn ?_
      refine Gn ?_
      refine Gv (V_pick_f rfl rfl rfl) ?_
      refine Gm ?_
      refine Gy (V_move rfl rfl) ?_
      refine G.sub [(1, .pointer (some ⟨b1, 0, none⟩)), (3, .int .i64 k), (22, .bool false), (23, .int .i64 k)] ⟨rfl, rfl, rfl, rfl, trivial⟩ ?_
      exact hgo () trivial
  rintro _ _
  -- test 2
  refine G_call (k := 39) (.mk rfl rfl rfl rfl) rfl rfl (.yes rfl rfl rfl rfl) (c2 _ _) ?_
  rintro x2 E2 L2 hE2 ⟨rfl, rfl⟩
  by_cases hB2 : (h2 && !decide (cntP pl)) = true
  · rw [if_pos hB2] at hv
    subst hv
    obtain ⟨g1, g2⟩ := Bool.and_eq_true_iff.1 hB2
    rw [g1]
    have g3 : ¬ cntP pl := by simpa only [Bool.not_eq_true', decide_eq_false_iff_not] using g2
    refine Gy (V_move rfl rfl) ?_
    refine Gy (V_fieldAddr rfl rfl (by decide)) ?_
    refine Gy (V_load rfl rfl (Cell.own (.head _) rfl)) ?_
    refine G_callv (k := 40) (.mk rfl rfl rfl rfl) rfl rfl (.yes rfl rfl rfl rfl) (rcounted_call _ _ _) ?_
    refine Gy (V_not rfl rfl) ?_
    refine Gy (V_pick_t rfl rfl rfl) ?_
    refine Gv (V_pick_f rfl rfl rfl) ?_
    refine Ga ?_
    refine G_end (X_then ?_)
    refine G_cond_t rfl (by assumption) ?_
    refine G_seq (G_region ?_)
    refine Ga ?_
    refine G_end (X_then (G_ret (X_block_ret (X_then_ret ?_))))
    refine G_leaveS (.drop _ (.nil _)) (by exact (.cons (.tmp rfl) (.nil))) rfl ?_ ?_
    · exact (hE1.trans hE2)
    exact ⟨(by kernel_rfl), rfl⟩
  rw [if_neg hB2] at hv
  refine G_ways (Y := ?Y2) (β := Unit) (J := fun _ => True) (fs' := fun _ => [(1, .pointer (some ⟨b1, 0, none⟩)), (3, .int .i64 k), (33, .int .i64 k)]) (E' := fun _ => E2) (L' := fun _ => .blk b1 (.cells #[.int .i64 k, .int .i64 sy, .int .i64 pr, .int .i64 rc, .int .i64 pl, .string (S tx), .int .i64 er] 28 (0, 0)) :: L) ?_ ?_
  rotate_left
  · intro hgo
    by_cases g1 : h2 = true
    · have g2 : ¬ ((!decide (cntP pl)) = true) := fun hx => hB2 (Bool.and_eq_true_iff.2 ⟨g1, hx⟩)
      rw [g1]
      have g3 : decide (cntP pl) = true := by simpa using g2
      refine Gy (V_move rfl rfl) ?_
      refine Gy (V_fieldAddr rfl rfl (by decide)) ?_
      refine Gy (V_load rfl rfl (Cell.own (.head _) rfl)) ?_
      refine G_callv (k := 40) (.mk rfl rfl rfl rfl) rfl rfl (.yes rfl rfl rfl rfl) (rcounted_call _ _ pl) ?_
      rw [g3]
      refine Gy (V_not rfl rfl) ?_
      refine Gy (V_pick_t rfl rfl rfl) ?_
      refine Gv (V_pick_f rfl rfl rfl) ?_
      refine Ga ?_
      refine G_end (X_then ?_)
      refine G_cond_f rfl (by kernel_rfl) ?_
      refine G_seq (G_region ?_)
      refine Gm ?_
      refine G.sub [(1, .pointer (some ⟨b1, 0, none⟩)), (3, .int .i64 k), (33, .int .i64 k)] ⟨rfl, rfl, rfl, trivial⟩ ?_
      exact hgo () trivial
    · rw [eq_false_of_ne_true g1]
      refine Gy (V_move rfl rfl) ?_
      refine Gn ?_
      refine Gn ?_
      refine Gn ?_
      refine Gn ?_
      refine Gy (V_pick_f rfl rfl rfl) ?_
      refine Gv (V_pick_f rfl rfl rfl) ?_
      refine Ga ?_
      refine G_end (X_then ?_)
      refine G_cond_f rfl rfl ?_
      refine G_seq (G_region ?_)
      refine Gm ?_
      refine G.sub [(1, .pointer (some ⟨b1, 0, none⟩)), (3, .int .i64 k), (33, .int .i64 k)] ⟨rfl, rfl, rfl, trivial⟩ ?_
      exact hgo () trivial
  rintro _ _
  -- test 3
  refine G_call (k := 39) (.mk rfl rfl rfl rfl) rfl rfl (.none rfl) (c3 _ _) ?_
  rintro x3 E3 L3 hE3 ⟨rfl, rfl⟩
  by_cases hB3 : (h3 && !symP (k, sy, pr, rc, pl, tx, er)) = true
  · rw [if_pos hB3] at hv
    subst hv
    obtain ⟨g1, g2⟩ := Bool.and_eq_true_iff.1 hB3
    rw [g1]
    have g3 : symP (k, sy, pr, rc, pl, tx, er) = false := by simpa using g2
    refine Gm ?_
    refine Gy (V_loadA rfl rfl (Cells.own (.head _)) rfl) ?_
    refine G_callv (k := 41) (.mk rfl rfl rfl rfl) rfl rfl (.yes rfl rfl rfl rfl) (symbolic_call _ _ _ _ _ _ _ _ _) ?_
    refine Gy (V_not rfl rfl) ?_
    refine Gv (V_pick_t rfl rfl rfl) ?_
    refine Ga ?_
    refine G_end (X_then ?_)
    refine G_cond_t rfl (by assumption) ?_
    refine G_seq (G_region ?_)
    refine Ga ?_
    refine G_end (X_then (G_ret (X_block_ret (X_then_ret ?_))))
    refine G_leaveS (.drop _ (.nil _)) (by exact (.cons (.tmp rfl) (.nil))) rfl ?_ ?_
    · exact ((hE1.trans hE2).trans hE3)
    exact ⟨(by kernel_rfl), rfl⟩
  rw [if_neg hB3] at hv
  refine G_ways (Y := ?Y3) (β := Unit) (J := fun _ => True) (fs' := fun _ => [(1, .pointer (some ⟨b1, 0, none⟩)), (3, .int .i64 k), (41, .int .i64 k)]) (E' := fun _ => E3) (L' := fun _ => .blk b1 (.cells #[.int .i64 k, .int .i64 sy, .int .i64 pr, .int .i64 rc, .int .i64 pl, .string (S tx), .int .i64 er] 28 (0, 0)) :: L) ?_ ?_
  rotate_left
  · intro hgo
    by_cases g1 : h3 = true
    · have g2 : ¬ ((!symP (k, sy, pr, rc, pl, tx, er)) = true) := fun hx => hB3 (Bool.and_eq_true_iff.2 ⟨g1, hx⟩)
      rw [g1]
      have g3 : symP (k, sy, pr, rc, pl, tx, er) = true := by simpa using g2
      refine Gm ?_
      refine Gy (V_loadA rfl rfl (Cells.own (.head _)) rfl) ?_
      refine G_callv (k := 41) (.mk rfl rfl rfl rfl) rfl rfl (.yes rfl rfl rfl rfl) (symbolic_call _ _ k sy pr rc pl tx er) ?_
      rw [g3]
      refine Gy (V_not rfl rfl) ?_
      refine Gv (V_pick_t rfl rfl rfl) ?_
      refine Ga ?_
      refine G_end (X_then ?_)
      refine G_cond_f rfl (by kernel_rfl) ?_
      refine G_seq (G_region ?_)
      refine Gm ?_
      refine G.sub [(1, .pointer (some ⟨b1, 0, none⟩)), (3, .int .i64 k), (41, .int .i64 k)] ⟨rfl, rfl, rfl, trivial⟩ ?_
      exact hgo () trivial
    · rw [eq_false_of_ne_true g1]
      refine Gm ?_
      refine Gn ?_
      refine Gn ?_
      refine Gn ?_
      refine Gv (V_pick_f rfl rfl rfl) ?_
      refine Ga ?_
      refine G_end (X_then ?_)
      refine G_cond_f rfl rfl ?_
      refine G_seq (G_region ?_)
      refine Gm ?_
      refine G.sub [(1, .pointer (some ⟨b1, 0, none⟩)), (3, .int .i64 k), (41, .int .i64 k)] ⟨rfl, rfl, rfl, trivial⟩ ?_
      exact hgo () trivial
  rintro _ _
  -- test 4
  refine G_call (k := 39) (.mk rfl rfl rfl rfl) rfl rfl (.none rfl) (c4 _ _) ?_
  rintro x4 E4 L4 hE4 ⟨rfl, rfl⟩
  by_cases hB4 : (h4 && !decide (0 ≤ pr ∧ pr < 24)) = true
  · rw [if_pos hB4] at hv
    subst hv
    obtain ⟨g1, g2⟩ := Bool.and_eq_true_iff.1 hB4
    rw [g1]
    have g3 : ¬ (0 ≤ pr ∧ pr < 24) := by simpa only [Bool.not_eq_true', decide_eq_false_iff_not] using g2
    by_cases g4 : pr < 0
    · refine Gm ?_
      refine Gy (V_fieldAddr rfl rfl (by decide)) ?_
      refine Gy (V_load rfl rfl (Cell.own (.head _) rfl)) ?_
      refine Gy (V_lss rfl rfl rfl) ?_
      refine Gy (V_move rfl rfl) ?_
      refine G.bool_t 47 rfl (decide_eq_true (by omega)) ?_
      refine Gn ?_
      refine Gn ?_
      refine Gn ?_
      refine Gy (V_pick_t rfl rfl rfl) ?_
      refine Gv (V_pick_t rfl rfl rfl) ?_
      refine Ga ?_
      refine G_end (X_then ?_)
      refine G_cond_t rfl rfl ?_
      refine G_seq (G_region ?_)
      refine Ga ?_
      refine G_end (X_then (G_ret (X_block_ret (X_then_ret ?_))))
      refine G_leaveS (.drop _ (.nil _)) (by exact (.cons (.tmp rfl) (.nil))) rfl ?_ ?_
      · exact (((hE1.trans hE2).trans hE3).trans hE4)
      exact ⟨(by kernel_rfl), rfl⟩
    · refine Gm ?_
      refine Gy (V_fieldAddr rfl rfl (by decide)) ?_
      refine Gy (V_load rfl rfl (Cell.own (.head _) rfl)) ?_
      refine Gy (V_lss rfl rfl rfl) ?_
      refine Gy (V_move rfl rfl) ?_
      refine G.bool_f 47 rfl (decide_eq_false (by omega)) ?_
      refine Gy (V_fieldAddr rfl rfl (by decide)) ?_
      refine Gy (V_load rfl rfl (Cell.own (.head _) rfl)) ?_
      refine Gy (V_geq rfl rfl rfl) ?_
      refine Gy (V_pick_f rfl rfl rfl) ?_
      refine Gv (V_pick_t rfl rfl rfl) ?_
      refine Ga ?_
      refine G_end (X_then ?_)
      refine G_cond_t rfl (decide_eq_true (by omega)) ?_
      refine G_seq (G_region ?_)
      refine Ga ?_
      refine G_end (X_then (G_ret (X_block_ret (X_then_ret ?_))))
      refine G_leaveS (.drop _ (.nil _)) (by exact (.cons (.tmp rfl) (.nil))) rfl ?_ ?_
      · exact (((hE1.trans hE2).trans hE3).trans hE4)
      exact ⟨(by kernel_rfl), rfl⟩
  rw [if_neg hB4] at hv
  refine G_ways (Y := ?Y4) (β := Unit) (J := fun _ => True) (fs' := fun _ => [(1, .pointer (some ⟨b1, 0, none⟩)), (3, .int .i64 k), (54, .int .i64 k)]) (E' := fun _ => E4) (L' := fun _ => .blk b1 (.cells #[.int .i64 k, .int .i64 sy, .int .i64 pr, .int .i64 rc, .int .i64 pl, .string (S tx), .int .i64 er] 28 (0, 0)) :: L) ?_ ?_
  rotate_left
  · intro hgo
    by_cases g1 : h4 = true
    · have g2 : ¬ ((!decide (0 ≤ pr ∧ pr < 24)) = true) := fun hx => hB4 (Bool.and_eq_true_iff.2 ⟨g1, hx⟩)
      rw [g1]
      have g3 : 0 ≤ pr ∧ pr < 24 := by simpa using g2
      refine Gm ?_
      refine Gy (V_fieldAddr rfl rfl (by decide)) ?_
      refine Gy (V_load rfl rfl (Cell.own (.head _) rfl)) ?_
      refine Gy (V_lss rfl rfl rfl) ?_
      refine Gy (V_move rfl rfl) ?_
      refine G.bool_f 47 rfl (decide_eq_false (by omega)) ?_
      refine Gy (V_fieldAddr rfl rfl (by decide)) ?_
      refine Gy (V_load rfl rfl (Cell.own (.head _) rfl)) ?_
      refine Gy (V_geq rfl rfl rfl) ?_
      refine Gy (V_pick_f rfl rfl rfl) ?_
      refine Gv (V_pick_t rfl rfl rfl) ?_
      refine Ga ?_
      refine G_end (X_then ?_)
      refine G_cond_f rfl (decide_eq_false (by omega)) ?_
      refine G_seq (G_region ?_)
      refine Gm ?_
      refine G.sub [(1, .pointer (some ⟨b1, 0, none⟩)), (3, .int .i64 k), (54, .int .i64 k)] ⟨rfl, rfl, rfl, trivial⟩ ?_
      exact hgo () trivial
    · rw [eq_false_of_ne_true g1]
      refine Gm ?_
      refine Gn ?_
      refine Gn ?_
      refine Gn ?_
      refine Gn ?_
      refine G_stay (.un rfl rfl rfl rfl) rfl rfl ?_
      refine G_stay (.un rfl rfl rfl rfl) rfl rfl ?_
      refine G_stay (.un rfl rfl rfl rfl) rfl rfl ?_
      refine Gn ?_
      refine Gv (V_pick_f rfl rfl rfl) ?_
      refine Ga ?_
      refine G_end (X_then ?_)
      refine G_cond_f rfl rfl ?_
      refine G_seq (G_region ?_)
      refine Gm ?_
      refine G.sub [(1, .pointer (some ⟨b1, 0, none⟩)), (3, .int .i64 k), (54, .int .i64 k)] ⟨rfl, rfl, rfl, trivial⟩ ?_
      exact hgo () trivial
  rintro _ _
  -- test 5
  refine G_call (k := 39) (.mk rfl rfl rfl rfl) rfl rfl (.none rfl) (c5 _ _) ?_
  rintro x5 E5 L5 hE5 ⟨rfl, rfl⟩
  by_cases hB5 : (h5 && !decide (tx.length ≤ 24)) = true
  · rw [if_pos hB5] at hv
    subst hv
    obtain ⟨g1, g2⟩ := Bool.and_eq_true_iff.1 hB5
    rw [g1]
    have g3 : ¬ tx.length ≤ 24 := by simpa using g2
    refine Gm ?_
    refine Gy (V_fieldAddr rfl rfl (by decide)) ?_
    refine Gy (V_load rfl rfl (Cell.own (.head _) rfl)) ?_
    refine Gy (V_len rfl rfl) ?_
    refine Gy (V_gtr rfl rfl rfl) ?_
    refine Gv (V_pick_t rfl rfl rfl) ?_
    refine Ga ?_
    refine G_end (X_then ?_)
    refine G_cond_t rfl (decide_eq_true (by omega)) ?_
    refine G_seq (G_region ?_)
    refine Ga ?_
    refine G_end (X_then (G_ret (X_block_ret (X_then_ret ?_))))
    refine G_leaveS (.drop _ (.nil _)) (by exact (.cons (.tmp rfl) (.nil))) rfl ?_ ?_
    · exact ((((hE1.trans hE2).trans hE3).trans hE4).trans hE5)
    exact ⟨(by kernel_rfl), rfl⟩
  rw [if_neg hB5] at hv
  refine G_ways (Y := ?Y5) (β := Unit) (J := fun _ => True) (fs' := fun _ => [(1, .pointer (some ⟨b1, 0, none⟩)), (3, .int .i64 k), (63, .int .i64 k)]) (E' := fun _ => E5) (L' := fun _ => .blk b1 (.cells #[.int .i64 k, .int .i64 sy, .int .i64 pr, .int .i64 rc, .int .i64 pl, .string (S tx), .int .i64 er] 28 (0, 0)) :: L) ?_ ?_
  rotate_left
  · intro hgo
    by_cases g1 : h5 = true
    · have g2 : ¬ ((!decide (tx.length ≤ 24)) = true) := fun hx => hB5 (Bool.and_eq_true_iff.2 ⟨g1, hx⟩)
      rw [g1]
      have g3 : tx.length ≤ 24 := by simpa using g2
      refine Gm ?_
      refine Gy (V_fieldAddr rfl rfl (by decide)) ?_
      refine Gy (V_load rfl rfl (Cell.own (.head _) rfl)) ?_
      refine Gy (V_len rfl rfl) ?_
      refine Gy (V_gtr rfl rfl rfl) ?_
      refine Gv (V_pick_t rfl rfl rfl) ?_
      refine Ga ?_
      refine G_end (X_then ?_)
      refine G_cond_f rfl (decide_eq_false (by omega)) ?_
      refine G_seq (G_region ?_)
      refine Gm ?_
      refine G.sub [(1, .pointer (some ⟨b1, 0, none⟩)), (3, .int .i64 k), (63, .int .i64 k)] ⟨rfl, rfl, rfl, trivial⟩ ?_
      exact hgo () trivial
    · rw [eq_false_of_ne_true g1]
      refine Gm ?_
      refine Gn ?_
      refine Gn ?_
      refine Gn ?_
      refine Gn ?_
      refine Gv (V_pick_f rfl rfl rfl) ?_
      refine Ga ?_
      refine G_end (X_then ?_)
      refine G_cond_f rfl rfl ?_
      refine G_seq (G_region ?_)
      refine Gm ?_
      refine G.sub [(1, .pointer (some ⟨b1, 0, none⟩)), (3, .int .i64 k), (63, .int .i64 k)] ⟨rfl, rfl, rfl, trivial⟩ ?_
      exact hgo () trivial
  rintro _ _
  -- test 6
  refine G_call (k := 39) (.mk rfl rfl rfl rfl) rfl rfl (.none rfl) (c6 _ _) ?_
  rintro x6 E6 L6 hE6 ⟨rfl, rfl⟩
  by_cases hB6 : (h6 && !bP) = true
  · rw [if_pos hB6] at hv
    subst hv
    obtain ⟨g1, g2⟩ := Bool.and_eq_true_iff.1 hB6
    rw [g1]
    have g3 : errR (k, sy, pr, rc, pl, tx, er) = false := by rw [hre g1 hB3]; simpa using g2
    refine Gm ?_
    refine Gy (V_loadA rfl rfl (Cells.own (.head _)) rfl) ?_
    refine G_callv (k := 42) (.mk rfl rfl rfl rfl) rfl rfl (.yes rfl rfl rfl rfl) (erring_call _ _ _ _ _ _ _ _ _) ?_
    refine Gy (V_not rfl rfl) ?_
    refine Gv (V_pick_t rfl rfl rfl) ?_
    refine Ga ?_
    refine G_end (X_then ?_)
    refine G_cond_t rfl (by simp [*]; done) ?_
    refine G_seq (G_region ?_)
    refine Ga ?_
    refine G_end (X_then (G_ret (X_block_ret (X_then_ret ?_))))
    refine G_leaveS (.drop _ (.nil _)) (by exact (.cons (.tmp rfl) (.nil))) rfl ?_ ?_
    · exact (((((hE1.trans hE2).trans hE3).trans hE4).trans hE5).trans hE6)
    exact ⟨(by kernel_rfl), rfl⟩
  rw [if_neg hB6] at hv
  refine G_ways (Y := ?Y6) (β := Unit) (J := fun _ => True) (fs' := fun _ => [(1, .pointer (some ⟨b1, 0, none⟩)), (3, .int .i64 k), (71, .int .i64 k)]) (E' := fun _ => E6) (L' := fun _ => .blk b1 (.cells #[.int .i64 k, .int .i64 sy, .int .i64 pr, .int .i64 rc, .int .i64 pl, .string (S tx), .int .i64 er] 28 (0, 0)) :: L) ?_ ?_
  rotate_left
  · intro hgo
    by_cases g1 : h6 = true
    · have g2 : ¬ ((!bP) = true) := fun hx => hB6 (Bool.and_eq_true_iff.2 ⟨g1, hx⟩)
      rw [g1]
      have g4 : bP = true := by simpa using g2
      have g3 : errR (k, sy, pr, rc, pl, tx, er) = true := by rw [hre g1 hB3]; exact g4
      refine Gm ?_
      refine Gy (V_loadA rfl rfl (Cells.own (.head _)) rfl) ?_
      refine G_callv (k := 42) (.mk rfl rfl rfl rfl) rfl rfl (.yes rfl rfl rfl rfl) (erring_call _ _ k sy pr rc pl tx er) ?_
      rw [g3]
      refine Gy (V_not rfl rfl) ?_
      refine Gv (V_pick_t rfl rfl rfl) ?_
      refine Ga ?_
      refine G_end (X_then ?_)
      refine G_cond_f rfl (by kernel_rfl) ?_
      refine G_seq (G_region ?_)
      refine Gm ?_
      refine G.sub [(1, .pointer (some ⟨b1, 0, none⟩)), (3, .int .i64 k), (71, .int .i64 k)] ⟨rfl, rfl, rfl, trivial⟩ ?_
      exact hgo () trivial
    · rw [eq_false_of_ne_true g1]
      refine Gm ?_
      refine Gn ?_
      refine Gn ?_
      refine Gn ?_
      refine Gv (V_pick_f rfl rfl rfl) ?_
      refine Ga ?_
      refine G_end (X_then ?_)
      refine G_cond_f rfl rfl ?_
      refine G_seq (G_region ?_)
      refine Gm ?_
      refine G.sub [(1, .pointer (some ⟨b1, 0, none⟩)), (3, .int .i64 k), (71, .int .i64 k)] ⟨rfl, rfl, rfl, trivial⟩ ?_
      exact hgo () trivial
  rintro _ _
  -- test 7
  refine G_call (k := 39) (.mk rfl rfl rfl rfl) rfl rfl (.none rfl) (c1 _ _) ?_
  rintro x7 E7 L7 hE7 ⟨rfl, rfl⟩
  by_cases hB7 : (!h1 && decide (rc ≠ 0)) = true
  · rw [if_pos hB7] at hv
    subst hv
    obtain ⟨g1, g2⟩ := Bool.and_eq_true_iff.1 hB7
    have g0 : h1 = false := by simpa using g1
    rw [g0]
    have g3 : ¬ rc = 0 := by simpa using g2
    refine Gv (V_not rfl rfl) ?_
    refine Gm ?_
    refine G.bool_t 74 rfl (by kernel_rfl) ?_
    refine Gy (V_fieldAddr rfl rfl (by decide)) ?_
    refine Gy (V_load rfl rfl (Cell.own (.head _) rfl)) ?_
    refine Gy (V_neq rfl rfl rfl) ?_
    refine Gv (V_pick_t rfl rfl rfl) ?_
    refine Gm ?_
    refine G.bool_t 79 rfl (decide_eq_true (by omega)) ?_
    refine Gn ?_
    refine Gn ?_
    refine Gn ?_
    refine Gn ?_
    refine G_stay (.un rfl rfl rfl rfl) rfl rfl ?_
    refine G_stay (.un rfl rfl rfl rfl) rfl rfl ?_
    refine G_stay (.un rfl rfl rfl rfl) rfl rfl ?_
    refine Gn ?_
    refine Gv (V_pick_t rfl rfl rfl) ?_
    refine Gm ?_
    refine Gn ?_
    refine Gn ?_
    refine Gn ?_
    refine Gn ?_
    refine G_stay (.un rfl rfl rfl rfl) rfl rfl ?_
    refine G_stay (.un rfl rfl rfl rfl) rfl rfl ?_
    refine G_stay (.un rfl rfl rfl rfl) rfl rfl ?_
    refine Gn ?_
    refine Gv (V_pick_t rfl rfl rfl) ?_
    refine Gm ?_
    refine Gn ?_
    refine Gn ?_
    refine Gn ?_
    refine Gn ?_
    refine G_stay (.un rfl rfl rfl rfl) rfl rfl ?_
    refine G_stay (.un rfl rfl rfl rfl) rfl rfl ?_
    refine G_stay (.un rfl rfl rfl rfl) rfl rfl ?_
    refine Gn ?_
    refine Gv (V_pick_t rfl rfl rfl) ?_
    refine Gm ?_
    refine Gn ?_
    refine Gn ?_
    refine Gn ?_
    refine Gn ?_
    refine G_stay (.un rfl rfl rfl rfl) rfl rfl ?_
    refine G_stay (.un rfl rfl rfl rfl) rfl rfl ?_
    refine G_stay (.un rfl rfl rfl rfl) rfl rfl ?_
    refine Gn ?_
    refine Gv (V_pick_t rfl rfl rfl) ?_
    refine Gm ?_
    refine Gn ?_
    refine Gn ?_
    refine Gn ?_
    refine Gn ?_
    refine G_stay (.un rfl rfl rfl rfl) rfl rfl ?_
    refine G_stay (.un rfl rfl rfl rfl) rfl rfl ?_
    refine G_stay (.un rfl rfl rfl rfl) rfl rfl ?_
    refine Gn ?_
    refine Gv (V_pick_t rfl rfl rfl) ?_
    refine Ga ?_
    refine G_end (X_then ?_)
    refine G_cond_t rfl rfl ?_
    refine G_seq (G_region ?_)
    refine Ga ?_
    refine G_end (X_then (G_ret (X_block_ret (X_then_ret ?_))))
    refine G_leaveS (.drop _ (.nil _)) (by exact (.cons (.tmp rfl) (.nil))) rfl ?_ ?_
    · exact ((((((hE1.trans hE2).trans hE3).trans hE4).trans hE5).trans hE6).trans hE7)
    exact ⟨(by kernel_rfl), rfl⟩
  rw [if_neg hB7] at hv
  refine G_ways (Y := ?Y7) (β := Unit) (J := fun _ => True) (fs' := fun _ => [(1, .pointer (some ⟨b1, 0, none⟩)), (3, .int .i64 k), (79, .bool false), (80, .int .i64 k)]) (E' := fun _ => E7) (L' := fun _ => .blk b1 (.cells #[.int .i64 k, .int .i64 sy, .int .i64 pr, .int .i64 rc, .int .i64 pl, .string (S tx), .int .i64 er] 28 (0, 0)) :: L) ?_ ?_
  rotate_left
  · intro hgo
    by_cases g1 : h1 = true
    · rw [g1]
      refine Gv (V_not rfl rfl) ?_
      refine Gm ?_
      refine G.bool_f 74 rfl (by kernel_rfl) ?_
      refine Gn ?_
      refine Gn ?_
      refine Gn ?_
      refine Gv (V_pick_f rfl rfl rfl) ?_
      refine Gm ?_
      refine Gy (V_move rfl rfl) ?_
      refine G.sub [(1, .pointer (some ⟨b1, 0, none⟩)), (3, .int .i64 k), (79, .bool false), (80, .int .i64 k)] ⟨rfl, rfl, rfl, rfl, trivial⟩ ?_
      exact hgo () trivial
    · have g0 := eq_false_of_ne_true g1
      have g3 : rc = 0 := by
        rw [g0] at hB7
        simpa using hB7
      rw [g0]
      refine Gv (V_not rfl rfl) ?_
      refine Gm ?_
      refine G.bool_t 74 rfl (by kernel_rfl) ?_
      refine Gy (V_fieldAddr rfl rfl (by decide)) ?_
      refine Gy (V_load rfl rfl (Cell.own (.head _) rfl)) ?_
      refine Gy (V_neq rfl rfl rfl) ?_
      refine Gv (V_pick_t rfl rfl rfl) ?_
      refine Gm ?_
      refine G.bool_f 79 rfl (decide_eq_false (by omega)) ?_
      refine Gy (V_move rfl rfl) ?_
      refine G.sub [(1, .pointer (some ⟨b1, 0, none⟩)), (3, .int .i64 k), (79, .bool false), (80, .int .i64 k)] ⟨rfl, rfl, rfl, rfl, trivial⟩ ?_
      exact hgo () trivial
  rintro _ _
  -- test 8
  refine G_call (k := 39) (.mk rfl rfl rfl rfl) rfl rfl (.yes rfl rfl rfl rfl) (c2 _ _) ?_
  rintro x8 E8 L8 hE8 ⟨rfl, rfl⟩
  by_cases hB8 : (!h2 && decide (pl ≠ 0)) = true
  · rw [if_pos hB8] at hv
    subst hv
    obtain ⟨g1, g2⟩ := Bool.and_eq_true_iff.1 hB8
    have g0 : h2 = false := by simpa using g1
    rw [g0]
    have g3 : ¬ pl = 0 := by simpa using g2
    refine Gy (V_not rfl rfl) ?_
    refine Gy (V_move rfl rfl) ?_
    refine G.bool_t 83 rfl (by kernel_rfl) ?_
    refine Gy (V_fieldAddr rfl rfl (by decide)) ?_
    refine Gy (V_load rfl rfl (Cell.own (.head _) rfl)) ?_
    refine Gy (V_neq rfl rfl rfl) ?_
    refine Gy (V_pick_t rfl rfl rfl) ?_
    refine Gv (V_pick_f rfl rfl rfl) ?_
    refine Gm ?_
    refine G.bool_t 89 rfl (decide_eq_true (by omega)) ?_
    refine Gn ?_
    refine Gn ?_
    refine Gn ?_
    refine Gn ?_
    refine G_stay (.un rfl rfl rfl rfl) rfl rfl ?_
    refine G_stay (.un rfl rfl rfl rfl) rfl rfl ?_
    refine G_stay (.un rfl rfl rfl rfl) rfl rfl ?_
    refine Gn ?_
    refine Gv (V_pick_t rfl rfl rfl) ?_
    refine Gm ?_
    refine Gn ?_
    refine Gn ?_
    refine Gn ?_
    refine Gn ?_
    refine G_stay (.un rfl rfl rfl rfl) rfl rfl ?_
    refine G_stay (.un rfl rfl rfl rfl) rfl rfl ?_
    refine G_stay (.un rfl rfl rfl rfl) rfl rfl ?_
    refine Gn ?_
    refine Gv (V_pick_t rfl rfl rfl) ?_
    refine Gm ?_
    refine Gn ?_
    refine Gn ?_
    refine Gn ?_
    refine Gn ?_
    refine G_stay (.un rfl rfl rfl rfl) rfl rfl ?_
    refine G_stay (.un rfl rfl rfl rfl) rfl rfl ?_
    refine G_stay (.un rfl rfl rfl rfl) rfl rfl ?_
    refine Gn ?_
    refine Gv (V_pick_t rfl rfl rfl) ?_
    refine Gm ?_
    refine Gn ?_
    refine Gn ?_
    refine Gn ?_
    refine Gn ?_
    refine G_stay (.un rfl rfl rfl rfl) rfl rfl ?_
    refine G_stay (.un rfl rfl rfl rfl) rfl rfl ?_
    refine G_stay (.un rfl rfl rfl rfl) rfl rfl ?_
    refine Gn ?_
    refine Gv (V_pick_t rfl rfl rfl) ?_
    refine Ga ?_
    refine G_end (X_then ?_)
    refine G_cond_t rfl rfl ?_
    refine G_seq (G_region ?_)
    refine Ga ?_
    refine G_end (X_then (G_ret (X_block_ret (X_then_ret ?_))))
    refine G_leaveS (.drop _ (.nil _)) (by exact (.cons (.tmp rfl) (.nil))) rfl ?_ ?_
    · exact (((((((hE1.trans hE2).trans hE3).trans hE4).trans hE5).trans hE6).trans hE7).trans hE8)
    exact ⟨(by kernel_rfl), rfl⟩
  rw [if_neg hB8] at hv
  refine G_ways (Y := ?Y8) (β := Unit) (J := fun _ => True) (fs' := fun _ => [(1, .pointer (some ⟨b1, 0, none⟩)), (3, .int .i64 k), (89, .bool false), (90, .int .i64 k)]) (E' := fun _ => E8) (L' := fun _ => .blk b1 (.cells #[.int .i64 k, .int .i64 sy, .int .i64 pr, .int .i64 rc, .int .i64 pl, .string (S tx), .int .i64 er] 28 (0, 0)) :: L) ?_ ?_
  rotate_left
  · intro hgo
    by_cases g1 : h2 = true
    · rw [g1]
      refine Gy (V_not rfl rfl) ?_
      refine Gy (V_move rfl rfl) ?_
      refine G.bool_f 83 rfl (by kernel_rfl) ?_
      refine Gn ?_
      refine Gn ?_
      refine Gn ?_
      refine Gy (V_pick_f rfl rfl rfl) ?_
      refine Gv (V_pick_f rfl rfl rfl) ?_
      refine Gm ?_
      refine Gy (V_move rfl rfl) ?_
      refine G.sub [(1, .pointer (some ⟨b1, 0, none⟩)), (3, .int .i64 k), (89, .bool false), (90, .int .i64 k)] ⟨rfl, rfl, rfl, rfl, trivial⟩ ?_
      exact hgo () trivial
    · have g0 := eq_false_of_ne_true g1
      have g3 : pl = 0 := by
        rw [g0] at hB8
        simpa using hB8
      rw [g0]
      refine Gy (V_not rfl rfl) ?_
      refine Gy (V_move rfl rfl) ?_
      refine G.bool_t 83 rfl (by kernel_rfl) ?_
      refine Gy (V_fieldAddr rfl rfl (by decide)) ?_
      refine Gy (V_load rfl rfl (Cell.own (.head _) rfl)) ?_
      refine Gy (V_neq rfl rfl rfl) ?_
      refine Gy (V_pick_t rfl rfl rfl) ?_
      refine Gv (V_pick_f rfl rfl rfl) ?_
      refine Gm ?_
      refine G.bool_f 89 rfl (decide_eq_false (by omega)) ?_
      refine Gy (V_move rfl rfl) ?_
      refine G.sub [(1, .pointer (some ⟨b1, 0, none⟩)), (3, .int .i64 k), (89, .bool false), (90, .int .i64 k)] ⟨rfl, rfl, rfl, rfl, trivial⟩ ?_
      exact hgo () trivial
  rintro _ _
  -- test 9
  refine G_call (k := 39) (.mk rfl rfl rfl rfl) rfl rfl (.yes rfl rfl rfl rfl) (c3 _ _) ?_
  rintro x9 E9 L9 hE9 ⟨rfl, rfl⟩
  by_cases hB9 : (!h3 && decide (sy ≠ 0)) = true
  · rw [if_pos hB9] at hv
    subst hv
    obtain ⟨g1, g2⟩ := Bool.and_eq_true_iff.1 hB9
    have g0 : h3 = false := by simpa using g1
    rw [g0]
    have g3 : ¬ sy = 0 := by simpa using g2
    refine Gy (V_not rfl rfl) ?_
    refine Gy (V_move rfl rfl) ?_
    refine G.bool_t 93 rfl (by kernel_rfl) ?_
    refine Gy (V_fieldAddr rfl rfl (by decide)) ?_
    refine Gy (V_load rfl rfl (Cell.own (.head _) rfl)) ?_
    refine Gy (V_neq rfl rfl rfl) ?_
    refine Gy (V_pick_t rfl rfl rfl) ?_
    refine Gv (V_pick_f rfl rfl rfl) ?_
    refine Gm ?_
    refine G.bool_t 99 rfl (decide_eq_true (by omega)) ?_
    refine Gn ?_
    refine Gn ?_
    refine Gn ?_
    refine Gn ?_
    refine G_stay (.un rfl rfl rfl rfl) rfl rfl ?_
    refine G_stay (.un rfl rfl rfl rfl) rfl rfl ?_
    refine G_stay (.un rfl rfl rfl rfl) rfl rfl ?_
    refine Gn ?_
    refine Gv (V_pick_t rfl rfl rfl) ?_
    refine Gm ?_
    refine Gn ?_
    refine Gn ?_
    refine Gn ?_
    refine Gn ?_
    refine G_stay (.un rfl rfl rfl rfl) rfl rfl ?_
    refine G_stay (.un rfl rfl rfl rfl) rfl rfl ?_
    refine G_stay (.un rfl rfl rfl rfl) rfl rfl ?_
    refine Gn ?_
    refine Gv (V_pick_t rfl rfl rfl) ?_
    refine Gm ?_
    refine Gn ?_
    refine Gn ?_
    refine Gn ?_
    refine Gn ?_
    refine G_stay (.un rfl rfl rfl rfl) rfl rfl ?_
    refine G_stay (.un rfl rfl rfl rfl) rfl rfl ?_
    refine G_stay (.un rfl rfl rfl rfl) rfl rfl ?_
    refine Gn ?_
    refine Gv (V_pick_t rfl rfl rfl) ?_
    refine Ga ?_
    refine G_end (X_then ?_)
    refine G_cond_t rfl rfl ?_
    refine G_seq (G_region ?_)
    refine Ga ?_
    refine G_end (X_then (G_ret (X_block_ret (X_then_ret ?_))))
    refine G_leaveS (.drop _ (.nil _)) (by exact (.cons (.tmp rfl) (.nil))) rfl ?_ ?_
    · exact ((((((((hE1.trans hE2).trans hE3).trans hE4).trans hE5).trans hE6).trans hE7).trans hE8).trans hE9)
    exact ⟨(by kernel_rfl), rfl⟩
  rw [if_neg hB9] at hv
  refine G_ways (Y := ?Y9) (β := Unit) (J := fun _ => True) (fs' := fun _ => [(1, .pointer (some ⟨b1, 0, none⟩)), (3, .int .i64 k), (99, .bool false), (100, .int .i64 k)]) (E' := fun _ => E9) (L' := fun _ => .blk b1 (.cells #[.int .i64 k, .int .i64 sy, .int .i64 pr, .int .i64 rc, .int .i64 pl, .string (S tx), .int .i64 er] 28 (0, 0)) :: L) ?_ ?_
  rotate_left
  · intro hgo
    by_cases g1 : h3 = true
    · rw [g1]
      refine Gy (V_not rfl rfl) ?_
      refine Gy (V_move rfl rfl) ?_
      refine G.bool_f 93 rfl (by kernel_rfl) ?_
      refine Gn ?_
      refine Gn ?_
      refine Gn ?_
      refine Gy (V_pick_f rfl rfl rfl) ?_
      refine Gv (V_pick_f rfl rfl rfl) ?_
      refine Gm ?_
      refine Gy (V_move rfl rfl) ?_
      refine G.sub [(1, .pointer (some ⟨b1, 0, none⟩)), (3, .int .i64 k), (99, .bool false), (100, .int .i64 k)] ⟨rfl, rfl, rfl, rfl, trivial⟩ ?_
      exact hgo () trivial
    · have g0 := eq_false_of_ne_true g1
      have g3 : sy = 0 := by
        rw [g0] at hB9
        simpa using hB9
      rw [g0]
      refine Gy (V_not rfl rfl) ?_
      refine Gy (V_move rfl rfl) ?_
      refine G.bool_t 93 rfl (by kernel_rfl) ?_
      refine Gy (V_fieldAddr rfl rfl (by decide)) ?_
      refine Gy (V_load rfl rfl (Cell.own (.head _) rfl)) ?_
      refine Gy (V_neq rfl rfl rfl) ?_
      refine Gy (V_pick_t rfl rfl rfl) ?_
      refine Gv (V_pick_f rfl rfl rfl) ?_
      refine Gm ?_
      refine G.bool_f 99 rfl (decide_eq_false (by omega)) ?_
      refine Gy (V_move rfl rfl) ?_
      refine G.sub [(1, .pointer (some ⟨b1, 0, none⟩)), (3, .int .i64 k), (99, .bool false), (100, .int .i64 k)] ⟨rfl, rfl, rfl, rfl, trivial⟩ ?_
      exact hgo () trivial
  rintro _ _
  -- test 10
  refine G_call (k := 39) (.mk rfl rfl rfl rfl) rfl rfl (.yes rfl rfl rfl rfl) (c4 _ _) ?_
  rintro x10 E10 L10 hE10 ⟨rfl, rfl⟩
  by_cases hB10 : (!h4 && decide (pr ≠ 0)) = true
  · rw [if_pos hB10] at hv
    subst hv
    obtain ⟨g1, g2⟩ := Bool.and_eq_true_iff.1 hB10
    have g0 : h4 = false := by simpa using g1
    rw [g0]
    have g3 : ¬ pr = 0 := by simpa using g2
    refine Gy (V_not rfl rfl) ?_
    refine Gy (V_move rfl rfl) ?_
    refine G.bool_t 103 rfl (by kernel_rfl) ?_
    refine Gy (V_fieldAddr rfl rfl (by decide)) ?_
    refine Gy (V_load rfl rfl (Cell.own (.head _) rfl)) ?_
    refine Gy (V_neq rfl rfl rfl) ?_
    refine Gy (V_pick_t rfl rfl rfl) ?_
    refine Gv (V_pick_f rfl rfl rfl) ?_
    refine Gm ?_
    refine G.bool_t 109 rfl (decide_eq_true (by omega)) ?_
    refine Gn ?_
    refine Gn ?_
    refine Gn ?_
    refine Gn ?_
    refine G_stay (.un rfl rfl rfl rfl) rfl rfl ?_
    refine G_stay (.un rfl rfl rfl rfl) rfl rfl ?_
    refine G_stay (.un rfl rfl rfl rfl) rfl rfl ?_
    refine Gn ?_
    refine Gv (V_pick_t rfl rfl rfl) ?_
    refine Gm ?_
    refine Gn ?_
    refine Gn ?_
    refine Gn ?_
    refine Gn ?_
    refine G_stay (.un rfl rfl rfl rfl) rfl rfl ?_
    refine G_stay (.un rfl rfl rfl rfl) rfl rfl ?_
    refine G_stay (.un rfl rfl rfl rfl) rfl rfl ?_
    refine Gn ?_
    refine Gv (V_pick_t rfl rfl rfl) ?_
    refine Ga ?_
    refine G_end (X_then ?_)
    refine G_cond_t rfl rfl ?_
    refine G_seq (G_region ?_)
    refine Ga ?_
    refine G_end (X_then (G_ret (X_block_ret (X_then_ret ?_))))
    refine G_leaveS (.drop _ (.nil _)) (by exact (.cons (.tmp rfl) (.nil))) rfl ?_ ?_
    · exact (((((((((hE1.trans hE2).trans hE3).trans hE4).trans hE5).trans hE6).trans hE7).trans hE8).trans hE9).trans hE10)
    exact ⟨(by kernel_rfl), rfl⟩
  rw [if_neg hB10] at hv
  refine G_ways (Y := ?Y10) (β := Unit) (J := fun _ => True) (fs' := fun _ => [(1, .pointer (some ⟨b1, 0, none⟩)), (3, .int .i64 k), (109, .bool false), (110, .int .i64 k)]) (E' := fun _ => E10) (L' := fun _ => .blk b1 (.cells #[.int .i64 k, .int .i64 sy, .int .i64 pr, .int .i64 rc, .int .i64 pl, .string (S tx), .int .i64 er] 28 (0, 0)) :: L) ?_ ?_
  rotate_left
  · intro hgo
    by_cases g1 : h4 = true
    · rw [g1]
      refine Gy (V_not rfl rfl) ?_
      refine Gy (V_move rfl rfl) ?_
      refine G.bool_f 103 rfl (by kernel_rfl) ?_
      refine Gn ?_
      refine Gn ?_
      refine Gn ?_
      refine Gy (V_pick_f rfl rfl rfl) ?_
      refine Gv (V_pick_f rfl rfl rfl) ?_
      refine Gm ?_
      refine Gy (V_move rfl rfl) ?_
      refine G.sub [(1, .pointer (some ⟨b1, 0, none⟩)), (3, .int .i64 k), (109, .bool false), (110, .int .i64 k)] ⟨rfl, rfl, rfl, rfl, trivial⟩ ?_
      exact hgo () trivial
    · have g0 := eq_false_of_ne_true g1
      have g3 : pr = 0 := by
        rw [g0] at hB10
        simpa using hB10
      rw [g0]
      refine Gy (V_not rfl rfl) ?_
      refine Gy (V_move rfl rfl) ?_
      refine G.bool_t 103 rfl (by kernel_rfl) ?_
      refine Gy (V_fieldAddr rfl rfl (by decide)) ?_
      refine Gy (V_load rfl rfl (Cell.own (.head _) rfl)) ?_
      refine Gy (V_neq rfl rfl rfl) ?_
      refine Gy (V_pick_t rfl rfl rfl) ?_
      refine Gv (V_pick_f rfl rfl rfl) ?_
      refine Gm ?_
      refine G.bool_f 109 rfl (decide_eq_false (by omega)) ?_
      refine Gy (V_move rfl rfl) ?_
      refine G.sub [(1, .pointer (some ⟨b1, 0, none⟩)), (3, .int .i64 k), (109, .bool false), (110, .int .i64 k)] ⟨rfl, rfl, rfl, rfl, trivial⟩ ?_
      exact hgo () trivial
  rintro _ _
  -- test 11
  refine G_call (k := 39) (.mk rfl rfl rfl rfl) rfl rfl (.yes rfl rfl rfl rfl) (c5 _ _) ?_
  rintro x11 E11 L11 hE11 ⟨rfl, rfl⟩
  by_cases hB11 : (!h5 && decide (tx ≠ [])) = true
  · rw [if_pos hB11] at hv
    subst hv
    obtain ⟨g1, g2⟩ := Bool.and_eq_true_iff.1 hB11
    have g0 : h5 = false := by simpa using g1
    rw [g0]
    have g3 : ¬ tx = [] := by simpa using g2
    refine Gy (V_not rfl rfl) ?_
    refine Gy (V_move rfl rfl) ?_
    refine G.bool_t 113 rfl (by kernel_rfl) ?_
    refine Gy (V_fieldAddr rfl rfl (by decide)) ?_
    refine Gy (V_load rfl rfl (Cell.own (.head _) rfl)) ?_
    refine Gy (V_sneq rfl rfl rfl) ?_
    refine Gy (V_pick_t rfl rfl rfl) ?_
    refine Gv (V_pick_f rfl rfl rfl) ?_
    refine Gm ?_
    refine G.bool_t 119 rfl (decide_eq_true (by omega)) ?_
    refine Gn ?_
    refine Gn ?_
    refine Gn ?_
    refine Gn ?_
    refine G_stay (.un rfl rfl rfl rfl) rfl rfl ?_
    refine G_stay (.un rfl rfl rfl rfl) rfl rfl ?_
    refine G_stay (.un rfl rfl rfl rfl) rfl rfl ?_
    refine Gn ?_
    refine Gv (V_pick_t rfl rfl rfl) ?_
    refine Ga ?_
    refine G_end (X_then ?_)
    refine G_cond_t rfl rfl ?_
    refine G_seq (G_region ?_)
    refine Ga ?_
    refine G_end (X_then (G_ret (X_block_ret (X_then_ret ?_))))
    refine G_leaveS (.drop _ (.nil _)) (by exact (.cons (.tmp rfl) (.nil))) rfl ?_ ?_
    · exact ((((((((((hE1.trans hE2).trans hE3).trans hE4).trans hE5).trans hE6).trans hE7).trans hE8).trans hE9).trans hE10).trans hE11)
    exact ⟨(by kernel_rfl), rfl⟩
  rw [if_neg hB11] at hv
  refine G_ways (Y := ?Y11) (β := Unit) (J := fun _ => True) (fs' := fun _ => [(1, .pointer (some ⟨b1, 0, none⟩)), (3, .int .i64 k), (119, .bool false), (120, .int .i64 k)]) (E' := fun _ => E11) (L' := fun _ => .blk b1 (.cells #[.int .i64 k, .int .i64 sy, .int .i64 pr, .int .i64 rc, .int .i64 pl, .string (S tx), .int .i64 er] 28 (0, 0)) :: L) ?_ ?_
  rotate_left
  · intro hgo
    by_cases g1 : h5 = true
    · rw [g1]
      refine Gy (V_not rfl rfl) ?_
      refine Gy (V_move rfl rfl) ?_
      refine G.bool_f 113 rfl (by kernel_rfl) ?_
      refine Gn ?_
      refine Gn ?_
      refine Gn ?_
      refine Gy (V_pick_f rfl rfl rfl) ?_
      refine Gv (V_pick_f rfl rfl rfl) ?_
      refine Gm ?_
      refine Gy (V_move rfl rfl) ?_
      refine G.sub [(1, .pointer (some ⟨b1, 0, none⟩)), (3, .int .i64 k), (119, .bool false), (120, .int .i64 k)] ⟨rfl, rfl, rfl, rfl, trivial⟩ ?_
      exact hgo () trivial
    · have g0 := eq_false_of_ne_true g1
      have g3 : tx = [] := by
        rw [g0] at hB11
        simpa using hB11
      rw [g0]
      refine Gy (V_not rfl rfl) ?_
      refine Gy (V_move rfl rfl) ?_
      refine G.bool_t 113 rfl (by kernel_rfl) ?_
      refine Gy (V_fieldAddr rfl rfl (by decide)) ?_
      refine Gy (V_load rfl rfl (Cell.own (.head _) rfl)) ?_
      refine Gy (V_sneq rfl rfl rfl) ?_
      refine Gy (V_pick_t rfl rfl rfl) ?_
      refine Gv (V_pick_f rfl rfl rfl) ?_
      refine Gm ?_
      refine G.bool_f 119 rfl (by simp [*]; done) ?_
      refine Gy (V_move rfl rfl) ?_
      refine G.sub [(1, .pointer (some ⟨b1, 0, none⟩)), (3, .int .i64 k), (119, .bool false), (120, .int .i64 k)] ⟨rfl, rfl, rfl, rfl, trivial⟩ ?_
      exact hgo () trivial
  rintro _ _
  -- test 12
  refine G_call (k := 39) (.mk rfl rfl rfl rfl) rfl rfl (.yes rfl rfl rfl rfl) (c6 _ _) ?_
  rintro x12 E12 L12 hE12 ⟨rfl, rfl⟩
  by_cases hB12 : (!h6 && decide (er ≠ 0)) = true
  · rw [if_pos hB12] at hv
    subst hv
    obtain ⟨g1, g2⟩ := Bool.and_eq_true_iff.1 hB12
    have g0 : h6 = false := by simpa using g1
    rw [g0]
    have g3 : ¬ er = 0 := by simpa using g2
    refine Gy (V_not rfl rfl) ?_
    refine Gy (V_move rfl rfl) ?_
    refine G.bool_t 123 rfl (by kernel_rfl) ?_
    refine Gy (V_fieldAddr rfl rfl (by decide)) ?_
    refine Gy (V_load rfl rfl (Cell.own (.head _) rfl)) ?_
    refine Gy (V_neq rfl rfl rfl) ?_
    refine Gy (V_pick_t rfl rfl rfl) ?_
    refine Gv (V_pick_f rfl rfl rfl) ?_
    refine Ga ?_
    refine G_end (X_then ?_)
    refine G_cond_t rfl (decide_eq_true (by omega)) ?_
    refine G_seq (G_region ?_)
    refine Ga ?_
    refine G_end (X_then (G_ret (X_block_ret (X_then_ret ?_))))
    refine G_leaveS (.drop _ (.nil _)) (by exact (.cons (.tmp rfl) (.nil))) rfl ?_ ?_
    · exact (((((((((((hE1.trans hE2).trans hE3).trans hE4).trans hE5).trans hE6).trans hE7).trans hE8).trans hE9).trans hE10).trans hE11).trans hE12)
    exact ⟨(by kernel_rfl), rfl⟩
  rw [if_neg hB12] at hv
  subst hv
  by_cases g1 : h6 = true
  · rw [g1]
    refine Gy (V_not rfl rfl) ?_
    refine Gy (V_move rfl rfl) ?_
    refine G.bool_f 123 rfl (by kernel_rfl) ?_
    refine Gn ?_
    refine Gn ?_
    refine Gn ?_
    refine Gy (V_pick_f rfl rfl rfl) ?_
    refine Gv (V_pick_f rfl rfl rfl) ?_
    refine Ga ?_
    refine G_end (X_then ?_)
    refine G_cond_f rfl rfl ?_
    refine G_skip (X_block (X_then (G_seq (G_region ?_))))
    refine Ga ?_
    refine G_end (X_then (G_ret ?_))
    refine G_leaveS (.drop _ (.nil _)) (by exact (.cons (.tmp rfl) (.nil))) rfl ?_ ?_
    · exact (((((((((((hE1.trans hE2).trans hE3).trans hE4).trans hE5).trans hE6).trans hE7).trans hE8).trans hE9).trans hE10).trans hE11).trans hE12)
    exact ⟨(by kernel_rfl), rfl⟩
  · rw [eq_false_of_ne_true g1] at hB12 ⊢
    have g3 : er = 0 := by simpa using hB12
    refine Gy (V_not rfl rfl) ?_
    refine Gy (V_move rfl rfl) ?_
    refine G.bool_t 123 rfl (by kernel_rfl) ?_
    refine Gy (V_fieldAddr rfl rfl (by decide)) ?_
    refine Gy (V_load rfl rfl (Cell.own (.head _) rfl)) ?_
    refine Gy (V_neq rfl rfl rfl) ?_
    refine Gy (V_pick_t rfl rfl rfl) ?_
    refine Gv (V_pick_f rfl rfl rfl) ?_
    refine Ga ?_
    refine G_end (X_then ?_)
    refine G_cond_f rfl (decide_eq_false (by omega)) ?_
    refine G_skip (X_block (X_then (G_seq (G_region ?_))))
    refine Ga ?_
    refine G_end (X_then (G_ret ?_))
    refine G_leaveS (.drop _ (.nil _)) (by exact (.cons (.tmp rfl) (.nil))) rfl ?_ ?_
    · exact (((((((((((hE1.trans hE2).trans hE3).trans hE4).trans hE5).trans hE6).trans hE7).trans hE8).trans hE9).trans hE10).trans hE11).trans hE12)
    exact ⟨(by kernel_rfl), rfl⟩
end
end Go.Proofs.YtjhehanknkonnaaGreatDoor
set_option linter.unusedSimpArgs false
set_option linter.unusedVariables false
set_option maxHeartbeats 2000000
set_option maxRecDepth 20000
namespace Go.Proofs.YtjhehanknkonnaaGreatDoor
open Go.RowKit
/-! The reference's Text. -/
def toR (f : Int) : Int := if f = 0 then 1 else if f = 5 then 2 else if f = 1 then 3 else if f = 2 then 4 else if f = 3 then 5 else 6
theorem fieldsR_eq {k : Int} (h : 1 ≤ k ∧ k ≤ 7) : fieldsR k = (fieldsK k).map toR := by
  obtain rfl | rfl | rfl | rfl | rfl | rfl | rfl : k = 1 ∨ k = 2 ∨ k = 3 ∨ k = 4 ∨ k = 5 ∨ k = 6 ∨ k = 7 := by omega
  all_goals decide +kernel
theorem jn_wL {e : Ev} {i : Nat} {f : Int} (h : (fieldsK e.k)[i]? = some f) : jnS (wL e (i + 1)) = (jnS (wL e i) ++ [32]) ++ fieldT e f := by
  rw [wL_succ h, jnS_snoc _ _ (by simp [wL])]
theorem wL_le {e : Ev} (he : EvOk e) (i : Nat) (hi : i ≤ 3) : (jnS (wL e i)).length ≤ 200 := by
  have h1 := jnS_len (wL e i) 49 (fun w hw => by
    rcases List.mem_cons.1 hw with rfl | hw
    · have := (evN_no ⟨he.k1, he.k7⟩).2; omega
    · obtain ⟨f, _, rfl⟩ := List.mem_map.1 hw
      exact fieldT_len he f)
  have h2 : (wL e i).length ≤ 4 := by
    unfold wL
    simp; omega
  omega
section
variable (E : Env) (L : List Res)
theorem Rdec_call (x : Int) (h : -1 ≤ x ∧ x ≤ 1099511627776) : CallV Tryz.prog 92 #[.int .i64 x] E L (.string (S (decI x))) := by
  by_cases h0 : x < 0
  · obtain rfl : x = -1 := by omega
    have e : decI (-1) = [45] ++ digN 1 := by decide +kernel
    have hl : (digN 1).length = 1 := by decide +kernel
    have h1 : ([45] : List UInt8).length = 1 := rfl
    have hc := fun E0 L0 => Rdec0_call E0 L0 1 (by omega)
    rw [e]
    generalize digN 1 = w at *
    refine CallS.toV (CallS.intro (l := [_]) _ Tryz.func92 rfl Tryz.ntmps92 rfl ?_)
    refine G_seq (G_region ?_)
    refine Ga ?_
    refine G_end (X_then (G_seq (G_seq (G_region ?_))))
    refine Gm ?_
    refine Gv (V_lss rfl rfl rfl) ?_
    refine G_end (X_then ?_)
    refine G_cond_t rfl (by kernel_rfl) ?_
    refine G_seq (G_region ?_)
    refine Gm ?_
    refine Gv (V_neg rfl rfl) ?_
    refine G_callv (k := 92) (.mk rfl rfl rfl rfl) rfl rfl (.none rfl) (hc _ _) ?_
    refine Gv (V_cat rfl rfl rfl (by simp; omega)) ?_
    refine Ga ?_
    refine G_end (X_then (G_ret (X_then_ret ?_)))
    refine G_leaveS (.nil _) (by exact (.cons (.tmp rfl) (.nil))) rfl ?_ ?_
    · exact (.refl _)
    exact ⟨rfl, rfl⟩
  · obtain ⟨n, rfl⟩ : ∃ n : Nat, x = n := ⟨x.toNat, by omega⟩
    rw [decI_nat]
    exact Rdec0_call E L n (by omega)
theorem Rnames_call : CallS Tryz.prog 61 #[] E L (fun r E' L' => (∃ p c, r = .slice p 7 c ∧ SlE E' 1 p 7 (strs kindN) ∧ 7 ≤ c) ∧ L = L') := by
  refine CallS.intro (l := []) _ Tryz.func61 rfl Tryz.ntmps61 rfl ?_
  refine G_seq (G_region ?_)
  refine Ga ?_
  refine G_end (X_then (G_seq (G_region ?_)))
  (refine G_lit rfl rfl (by decide) (by simp [fillS, zeros, setLs, setL, Value.cells, List.range, List.range.loop]; rfl) rfl rfl (.none rfl) ?_; intro b1)
  refine Ga ?_
  refine G_end (X_then (G_ret ?_))
  refine G.freezeB (k := 7) (sz := 1) (.head _ _) rfl ?_
  intro E2 hE2 hz
  have hf : SlE E2 1 (some ⟨b1, 0, none⟩) 7 (strs kindN) := hz
  refine G_leaveS (.nil _) (by exact (.cons (.tmp rfl) (.nil))) rfl ?_ ?_
  · exact hE2
  exact ⟨⟨_, ⟨_, ⟨rfl, ⟨(by assumption), (by omega)⟩⟩⟩⟩, rfl⟩
theorem Rwritten_call (k sy pr rc pl : Int) (tx : List UInt8) (er : Int) (hok : EvOk (k, sy, pr, rc, pl, tx, er)) : CallS Tryz.prog 56 #[.agg #[.int .i64 k, .int .i64 sy, .int .i64 pr, .int .i64 rc, .int .i64 pl, .string (S tx), .int .i64 er]] E L (fun r E' L' => r = .string (S (evT (k, sy, pr, rc, pl, tx, er))) ∧ L' = L) := by
  have k1 : 1 ≤ k := hok.k1
  have k7 : k ≤ 7 := hok.k7
  have s0 : -1 ≤ sy := hok.s0
  have s1 : sy < 24 := hok.s1
  have p0 : 0 ≤ pr := hok.p0
  have p1 : pr < 24 := hok.p1
  have r0 : 0 ≤ rc := hok.r0
  have r1 : rc ≤ 1099511627776 := hok.r1
  have l0 : 0 ≤ pl := hok.l0
  have l1 : pl ≤ 1099511627776 := hok.l1
  have t1 : tx.length ≤ 24 := hok.t
  have e0 : 0 ≤ er := hok.e0
  have e1 : er ≤ 26 := hok.e1
  have hx0 := strs_get (evN_at (k := k) ⟨k1, k7⟩)
  refine CallS.intro (l := [_]) _ Tryz.func56 rfl Tryz.ntmps56 rfl ?_
  refine G_seq (G_region ?_)
  (refine G_boxA rfl rfl rfl rfl (.none rfl) ?_; intro b1)
  refine Ga ?_
  refine G_end (X_then (G_seq ?_))
  refine G_drawX 7 [(1, 0), (2, 1), (0, 3), (3, 0), (4, 1), (5, 1), (6, 0)] mixed (by kernel_rfl) ?_
  refine F_pure rfl (fun _ _ => V_fieldAddr rfl rfl (by decide)) rfl rfl (.none rfl) ?_
  refine F_load rfl (.head _) (V_load rfl rfl (Cell.own (.head _) rfl)) rfl rfl (.none rfl) ?_
  apply F_call (k := 61) rfl (.mk rfl rfl rfl rfl) rfl rfl (.none rfl)
  · (intro L0; refine CallS.mono (Rnames_call _ _) ?_; exact fun _ _ _ _ h => h)
  · (rintro L0 r E' L' ⟨⟨z1, ⟨z2, ⟨rfl, ⟨Z3, Z4⟩⟩⟩⟩, rfl⟩; exact ⟨rfl, ⟨⟨_, ⟨_, ⟨rfl, ⟨(by assumption), (by assumption)⟩⟩⟩⟩, rfl⟩⟩)
  rintro r5 E6 hE7 ⟨⟨z8, ⟨z9, ⟨rfl, ⟨Z10, Z11⟩⟩⟩⟩, _⟩
  refine F_pure rfl (fun _ _ => V_sub_i64 rfl rfl rfl (by omega) (by omega)) rfl rfl (.none rfl) ?_
  refine F_loadE rfl (V_idxAddr rfl rfl rfl (SlE.rd (by assumption)) (by omega) (by omega)) rfl rfl (.none rfl) ?_
  refine F_loadE rfl (V_loadS rfl rfl (SlE.rd (by assumption)) (by assumption) (by simp)) rfl rfl (.none rfl) ?_
  refine F_pure rfl (fun _ _ => V_assign rfl rfl) rfl rfl (.none rfl) ?_
  (refine F_end (.nil _) ?_; dsimp only [List.drop])
  refine G_end (X_then (G_seq (G_region ?_)))
  refine Gv (V_fieldAddr rfl rfl (by decide)) ?_
  refine Gv (V_load rfl rfl (Cell.own (.head _) rfl)) ?_
  refine G_call (k := 49) (.mk rfl rfl rfl rfl) rfl rfl (.none rfl) (rfields_call' _ _ _) ?_
  rintro r12 E13 L14 hE15 ⟨Z16, rfl⟩
  replace Z10 := Z10.mono hE15
  refine Ga ?_
  refine G_end (X_then (G_seq (G_seq (G_region ?_))))
  refine Ga ?_
  refine G_end (X_then (G_block ?_))
  obtain ⟨⟨fa, fc, rfl, hs, hfc⟩⟩ := Z16
  rw [fieldsR_eq ⟨k1, k7⟩] at hs hfc
  rw [fieldsR_eq ⟨k1, k7⟩, List.length_map]
  rw [List.length_map] at hs hfc
  have hfl := fieldsK_len k
  have h00 : evN k = jnS (wL (k, sy, pr, rc, pl, tx, er) 0) := by simp [wL, jnS]
  rw [h00]
  refine G_loop (α := Nat × Env) (fun x => [(1, .pointer (some ⟨b1, 0, none⟩)), (3, .string (S (jnS (wL (k, sy, pr, rc, pl, tx, er) x.1)))), (4, .slice fa (fieldsK k).length fc), (5, .int .i64 (x.1 : Nat))]) (fun x => x.2)
    (fun x => .blk b1 (.cells #[.int .i64 k, .int .i64 sy, .int .i64 pr, .int .i64 rc, .int .i64 pl, .string (S tx), .int .i64 er] 28 (0, 0)) :: L) (fun x => x.1 ≤ (fieldsK k).length ∧ E13.Le x.2) (fun x => (fieldsK k).length - x.1) (0, E13) ⟨Nat.zero_le _, .refl _⟩ ⟨rfl, rfl, rfl, rfl, trivial⟩ rfl rfl ?_
  rintro ⟨i, E4⟩ ⟨hi, hE4⟩
  simp only at hi hE4 ⊢
  replace hs := hs.mono hE4
  by_cases hlt : i < (fieldsK k).length
  · obtain ⟨f, hf, hfv⟩ := fieldsK_get hlt
    have hx : (i64s ((fieldsK k).map toR))[i]? = some (.int .i64 (toR f)) := i64s_get (by rw [List.getElem?_map, hf]; rfl)
    have hw := jn_wL (e := (k, sy, pr, rc, pl, tx, er)) hf
    have hwl := wL_le hok i (by omega)
    have hwf := fieldT_len hok f
    have h32 : ([32] : List UInt8).length = 1 := rfl
    generalize jnS (wL (k, sy, pr, rc, pl, tx, er) i) = out at *
    rcases hfv with rfl | rfl | rfl | rfl | rfl | rfl
    · have hx1 : (i64s ((fieldsK k).map toR))[i]? = some (.int .i64 1) := hx
      have hw2 : jnS (wL (k, sy, pr, rc, pl, tx, er) (i + 1)) = (out ++ [32]) ++ decI rc := hw
      have hwf2 : (decI rc).length ≤ 49 := hwf
      clear hx hw hwf
      refine G_seq (G_seq (G_region ?_))
      refine Gm ?_
      refine Gm ?_
      refine Gv (V_lenS rfl rfl) ?_
      refine Gv (V_lss rfl rfl rfl) ?_
      refine G_end (X_then ?_)
      refine G_cond_t rfl (decide_eq_true (by omega)) ?_
      refine G_skip (X_then (G_seq (G_block (G_seq (G_region ?_)))))
      refine Gm ?_
      refine Gv (V_cat rfl rfl rfl (by simp; omega)) ?_
      refine Ga ?_
      refine G_end (X_then (G_seq (G_region ?_)))
      refine Gm ?_
      refine Gm ?_
      refine Gv (V_idxAddr rfl rfl rfl (SlE.rd (by assumption)) (by omega) (by omega)) ?_
      refine Gv (V_loadS rfl rfl (SlE.rd (by assumption)) (by assumption) (by simp)) ?_
      refine G_end (X_then (G_block (G_seq (G_region ?_))))
      refine Gv (V_eql rfl rfl rfl) ?_
      refine Ga ?_
      refine G_end (X_then ?_)
      refine G_cond_t rfl (by kernel_rfl) ?_
      refine G_region ?_
      refine Gm ?_
      refine Gv (V_fieldAddr rfl rfl (by decide)) ?_
      refine Gv (V_load rfl rfl (Cell.own (.head _) rfl)) ?_
      refine G_callv (k := 92) (.mk rfl rfl rfl rfl) rfl rfl (.none rfl) (Rdec_call _ _ rc ⟨by omega, r1⟩) ?_
      refine Gv (V_cat rfl rfl rfl (by simp; omega)) ?_
      refine Ga ?_
      refine G_end (X_block (X_block (X_then (G_region ?_))))
      refine Gm ?_
      refine Gv (V_add_i64 rfl rfl rfl (by omega) (by omega)) ?_
      refine Ga ?_
      refine G_end (X_then ?_)
      rw [← hw2]
      exact G_again (i + 1, E4) ⟨hlt, hE4⟩ (by simp only; omega) ⟨rfl, rfl, rfl, rfl, trivial⟩ rfl rfl
    · have hx1 : (i64s ((fieldsK k).map toR))[i]? = some (.int .i64 3) := hx
      have hw2 : jnS (wL (k, sy, pr, rc, pl, tx, er) (i + 1)) = (out ++ [32]) ++ decI sy := hw
      have hwf2 : (decI sy).length ≤ 49 := hwf
      clear hx hw hwf
      refine G_seq (G_seq (G_region ?_))
      refine Gm ?_
      refine Gm ?_
      refine Gv (V_lenS rfl rfl) ?_
      refine Gv (V_lss rfl rfl rfl) ?_
      refine G_end (X_then ?_)
      refine G_cond_t rfl (decide_eq_true (by omega)) ?_
      refine G_skip (X_then (G_seq (G_block (G_seq (G_region ?_)))))
      refine Gm ?_
      refine Gv (V_cat rfl rfl rfl (by simp; omega)) ?_
      refine Ga ?_
      refine G_end (X_then (G_seq (G_region ?_)))
      refine Gm ?_
      refine Gm ?_
      refine Gv (V_idxAddr rfl rfl rfl (SlE.rd (by assumption)) (by omega) (by omega)) ?_
      refine Gv (V_loadS rfl rfl (SlE.rd (by assumption)) (by assumption) (by simp)) ?_
      refine G_end (X_then (G_block (G_seq (G_region ?_))))
      refine Gv (V_eql rfl rfl rfl) ?_
      refine Ga ?_
      refine G_end (X_then ?_)
      refine G_cond_f rfl (by kernel_rfl) ?_
      refine G_seq (G_region ?_)
      refine Gv (V_eql rfl rfl rfl) ?_
      refine Ga ?_
      refine G_end (X_then ?_)
      refine G_cond_f rfl (by kernel_rfl) ?_
      refine G_seq (G_region ?_)
      refine Gv (V_eql rfl rfl rfl) ?_
      refine Ga ?_
      refine G_end (X_then ?_)
      refine G_cond_t rfl (by kernel_rfl) ?_
      refine G_region ?_
      refine Gm ?_
      refine Gv (V_fieldAddr rfl rfl (by decide)) ?_
      refine Gv (V_load rfl rfl (Cell.own (.head _) rfl)) ?_
      refine G_callv (k := 92) (.mk rfl rfl rfl rfl) rfl rfl (.none rfl) (Rdec_call _ _ sy ⟨s0, by omega⟩) ?_
      refine Gv (V_cat rfl rfl rfl (by simp; omega)) ?_
      refine Ga ?_
      refine G_end (X_block (X_block (X_then (G_region ?_))))
      refine Gm ?_
      refine Gv (V_add_i64 rfl rfl rfl (by omega) (by omega)) ?_
      refine Ga ?_
      refine G_end (X_then ?_)
      rw [← hw2]
      exact G_again (i + 1, E4) ⟨hlt, hE4⟩ (by simp only; omega) ⟨rfl, rfl, rfl, rfl, trivial⟩ rfl rfl
    · have hx1 : (i64s ((fieldsK k).map toR))[i]? = some (.int .i64 4) := hx
      have hw2 : jnS (wL (k, sy, pr, rc, pl, tx, er) (i + 1)) = (out ++ [32]) ++ decI pr := hw
      have hwf2 : (decI pr).length ≤ 49 := hwf
      clear hx hw hwf
      refine G_seq (G_seq (G_region ?_))
      refine Gm ?_
      refine Gm ?_
      refine Gv (V_lenS rfl rfl) ?_
      refine Gv (V_lss rfl rfl rfl) ?_
      refine G_end (X_then ?_)
      refine G_cond_t rfl (decide_eq_true (by omega)) ?_
      refine G_skip (X_then (G_seq (G_block (G_seq (G_region ?_)))))
      refine Gm ?_
      refine Gv (V_cat rfl rfl rfl (by simp; omega)) ?_
      refine Ga ?_
      refine G_end (X_then (G_seq (G_region ?_)))
      refine Gm ?_
      refine Gm ?_
      refine Gv (V_idxAddr rfl rfl rfl (SlE.rd (by assumption)) (by omega) (by omega)) ?_
      refine Gv (V_loadS rfl rfl (SlE.rd (by assumption)) (by assumption) (by simp)) ?_
      refine G_end (X_then (G_block (G_seq (G_region ?_))))
      refine Gv (V_eql rfl rfl rfl) ?_
      refine Ga ?_
      refine G_end (X_then ?_)
      refine G_cond_f rfl (by kernel_rfl) ?_
      refine G_seq (G_region ?_)
      refine Gv (V_eql rfl rfl rfl) ?_
      refine Ga ?_
      refine G_end (X_then ?_)
      refine G_cond_f rfl (by kernel_rfl) ?_
      refine G_seq (G_region ?_)
      refine Gv (V_eql rfl rfl rfl) ?_
      refine Ga ?_
      refine G_end (X_then ?_)
      refine G_cond_f rfl (by kernel_rfl) ?_
      refine G_seq (G_region ?_)
      refine Gv (V_eql rfl rfl rfl) ?_
      refine Ga ?_
      refine G_end (X_then ?_)
      refine G_cond_t rfl (by kernel_rfl) ?_
      refine G_region ?_
      refine Gm ?_
      refine Gv (V_fieldAddr rfl rfl (by decide)) ?_
      refine Gv (V_load rfl rfl (Cell.own (.head _) rfl)) ?_
      refine G_callv (k := 92) (.mk rfl rfl rfl rfl) rfl rfl (.none rfl) (Rdec_call _ _ pr ⟨by omega, by omega⟩) ?_
      refine Gv (V_cat rfl rfl rfl (by simp; omega)) ?_
      refine Ga ?_
      refine G_end (X_block (X_block (X_then (G_region ?_))))
      refine Gm ?_
      refine Gv (V_add_i64 rfl rfl rfl (by omega) (by omega)) ?_
      refine Ga ?_
      refine G_end (X_then ?_)
      rw [← hw2]
      exact G_again (i + 1, E4) ⟨hlt, hE4⟩ (by simp only; omega) ⟨rfl, rfl, rfl, rfl, trivial⟩ rfl rfl
    · have hx1 : (i64s ((fieldsK k).map toR))[i]? = some (.int .i64 5) := hx
      have hw2 : jnS (wL (k, sy, pr, rc, pl, tx, er) (i + 1)) = (out ++ [32]) ++ hexT tx := hw
      have hwf2 : (hexT tx).length ≤ 49 := hwf
      clear hx hw hwf
      refine G_seq (G_seq (G_region ?_))
      refine Gm ?_
      refine Gm ?_
      refine Gv (V_lenS rfl rfl) ?_
      refine Gv (V_lss rfl rfl rfl) ?_
      refine G_end (X_then ?_)
      refine G_cond_t rfl (decide_eq_true (by omega)) ?_
      refine G_skip (X_then (G_seq (G_block (G_seq (G_region ?_)))))
      refine Gm ?_
      refine Gv (V_cat rfl rfl rfl (by simp; omega)) ?_
      refine Ga ?_
      refine G_end (X_then (G_seq (G_region ?_)))
      refine Gm ?_
      refine Gm ?_
      refine Gv (V_idxAddr rfl rfl rfl (SlE.rd (by assumption)) (by omega) (by omega)) ?_
      refine Gv (V_loadS rfl rfl (SlE.rd (by assumption)) (by assumption) (by simp)) ?_
      refine G_end (X_then (G_block (G_seq (G_region ?_))))
      refine Gv (V_eql rfl rfl rfl) ?_
      refine Ga ?_
      refine G_end (X_then ?_)
      refine G_cond_f rfl (by kernel_rfl) ?_
      refine G_seq (G_region ?_)
      refine Gv (V_eql rfl rfl rfl) ?_
      refine Ga ?_
      refine G_end (X_then ?_)
      refine G_cond_f rfl (by kernel_rfl) ?_
      refine G_seq (G_region ?_)
      refine Gv (V_eql rfl rfl rfl) ?_
      refine Ga ?_
      refine G_end (X_then ?_)
      refine G_cond_f rfl (by kernel_rfl) ?_
      refine G_seq (G_region ?_)
      refine Gv (V_eql rfl rfl rfl) ?_
      refine Ga ?_
      refine G_end (X_then ?_)
      refine G_cond_f rfl (by kernel_rfl) ?_
      refine G_seq (G_region ?_)
      refine Gv (V_eql rfl rfl rfl) ?_
      refine Ga ?_
      refine G_end (X_then ?_)
      refine G_cond_t rfl (by kernel_rfl) ?_
      refine G_region ?_
      refine Gm ?_
      refine Gv (V_fieldAddr rfl rfl (by decide)) ?_
      refine Gv (V_load rfl rfl (Cell.own (.head _) rfl)) ?_
      refine G_call (k := 93) (.mk rfl rfl rfl rfl) rfl rfl (.none rfl) (Rhex_call _ _ tx (by omega)) ?_
      rintro x5 E5 L5 hE5 ⟨rfl, rfl⟩
      refine Gv (V_cat rfl rfl rfl (by simp; omega)) ?_
      refine Ga ?_
      refine G_end (X_block (X_block (X_then (G_region ?_))))
      refine Gm ?_
      refine Gv (V_add_i64 rfl rfl rfl (by omega) (by omega)) ?_
      refine Ga ?_
      refine G_end (X_then ?_)
      rw [← hw2]
      exact G_again (i + 1, E5) ⟨hlt, hE4.trans hE5⟩ (by simp only; omega) ⟨rfl, rfl, rfl, rfl, trivial⟩ rfl rfl
    · have hx1 : (i64s ((fieldsK k).map toR))[i]? = some (.int .i64 6) := hx
      have hw2 : jnS (wL (k, sy, pr, rc, pl, tx, er) (i + 1)) = (out ++ [32]) ++ errName er := hw
      have hwf2 : (errName er).length ≤ 49 := hwf
      clear hx hw hwf
      refine G_seq (G_seq (G_region ?_))
      refine Gm ?_
      refine Gm ?_
      refine Gv (V_lenS rfl rfl) ?_
      refine Gv (V_lss rfl rfl rfl) ?_
      refine G_end (X_then ?_)
      refine G_cond_t rfl (decide_eq_true (by omega)) ?_
      refine G_skip (X_then (G_seq (G_block (G_seq (G_region ?_)))))
      refine Gm ?_
      refine Gv (V_cat rfl rfl rfl (by simp; omega)) ?_
      refine Ga ?_
      refine G_end (X_then (G_seq (G_region ?_)))
      refine Gm ?_
      refine Gm ?_
      refine Gv (V_idxAddr rfl rfl rfl (SlE.rd (by assumption)) (by omega) (by omega)) ?_
      refine Gv (V_loadS rfl rfl (SlE.rd (by assumption)) (by assumption) (by simp)) ?_
      refine G_end (X_then (G_block (G_seq (G_region ?_))))
      refine Gv (V_eql rfl rfl rfl) ?_
      refine Ga ?_
      refine G_end (X_then ?_)
      refine G_cond_f rfl (by kernel_rfl) ?_
      refine G_seq (G_region ?_)
      refine Gv (V_eql rfl rfl rfl) ?_
      refine Ga ?_
      refine G_end (X_then ?_)
      refine G_cond_f rfl (by kernel_rfl) ?_
      refine G_seq (G_region ?_)
      refine Gv (V_eql rfl rfl rfl) ?_
      refine Ga ?_
      refine G_end (X_then ?_)
      refine G_cond_f rfl (by kernel_rfl) ?_
      refine G_seq (G_region ?_)
      refine Gv (V_eql rfl rfl rfl) ?_
      refine Ga ?_
      refine G_end (X_then ?_)
      refine G_cond_f rfl (by kernel_rfl) ?_
      refine G_seq (G_region ?_)
      refine Gv (V_eql rfl rfl rfl) ?_
      refine Ga ?_
      refine G_end (X_then ?_)
      refine G_cond_f rfl (by kernel_rfl) ?_
      refine G_seq (G_region ?_)
      refine Gv (V_eql rfl rfl rfl) ?_
      refine Ga ?_
      refine G_end (X_then ?_)
      refine G_cond_t rfl (by kernel_rfl) ?_
      refine G_region ?_
      refine Gm ?_
      refine Gv (V_fieldAddr rfl rfl (by decide)) ?_
      refine Gv (V_load rfl rfl (Cell.own (.head _) rfl)) ?_
      refine G_callv (k := 54) (.mk rfl rfl rfl rfl) rfl rfl (.none rfl) (ErrName_call _ _ er (by omega)) ?_
      refine Gv (V_cat rfl rfl rfl (by simp; omega)) ?_
      refine Ga ?_
      refine G_end (X_block (X_block (X_then (G_region ?_))))
      refine Gm ?_
      refine Gv (V_add_i64 rfl rfl rfl (by omega) (by omega)) ?_
      refine Ga ?_
      refine G_end (X_then ?_)
      rw [← hw2]
      exact G_again (i + 1, E4) ⟨hlt, hE4⟩ (by simp only; omega) ⟨rfl, rfl, rfl, rfl, trivial⟩ rfl rfl
    · have hx1 : (i64s ((fieldsK k).map toR))[i]? = some (.int .i64 2) := hx
      have hw2 : jnS (wL (k, sy, pr, rc, pl, tx, er) (i + 1)) = (out ++ [32]) ++ decI pl := hw
      have hwf2 : (decI pl).length ≤ 49 := hwf
      clear hx hw hwf
      refine G_seq (G_seq (G_region ?_))
      refine Gm ?_
      refine Gm ?_
      refine Gv (V_lenS rfl rfl) ?_
      refine Gv (V_lss rfl rfl rfl) ?_
      refine G_end (X_then ?_)
      refine G_cond_t rfl (decide_eq_true (by omega)) ?_
      refine G_skip (X_then (G_seq (G_block (G_seq (G_region ?_)))))
      refine Gm ?_
      refine Gv (V_cat rfl rfl rfl (by simp; omega)) ?_
      refine Ga ?_
      refine G_end (X_then (G_seq (G_region ?_)))
      refine Gm ?_
      refine Gm ?_
      refine Gv (V_idxAddr rfl rfl rfl (SlE.rd (by assumption)) (by omega) (by omega)) ?_
      refine Gv (V_loadS rfl rfl (SlE.rd (by assumption)) (by assumption) (by simp)) ?_
      refine G_end (X_then (G_block (G_seq (G_region ?_))))
      refine Gv (V_eql rfl rfl rfl) ?_
      refine Ga ?_
      refine G_end (X_then ?_)
      refine G_cond_f rfl (by kernel_rfl) ?_
      refine G_seq (G_region ?_)
      refine Gv (V_eql rfl rfl rfl) ?_
      refine Ga ?_
      refine G_end (X_then ?_)
      refine G_cond_t rfl (by kernel_rfl) ?_
      refine G_region ?_
      refine Gm ?_
      refine Gv (V_fieldAddr rfl rfl (by decide)) ?_
      refine Gv (V_load rfl rfl (Cell.own (.head _) rfl)) ?_
      refine G_callv (k := 92) (.mk rfl rfl rfl rfl) rfl rfl (.none rfl) (Rdec_call _ _ pl ⟨by omega, l1⟩) ?_
      refine Gv (V_cat rfl rfl rfl (by simp; omega)) ?_
      refine Ga ?_
      refine G_end (X_block (X_block (X_then (G_region ?_))))
      refine Gm ?_
      refine Gv (V_add_i64 rfl rfl rfl (by omega) (by omega)) ?_
      refine Ga ?_
      refine G_end (X_then ?_)
      rw [← hw2]
      exact G_again (i + 1, E4) ⟨hlt, hE4⟩ (by simp only; omega) ⟨rfl, rfl, rfl, rfl, trivial⟩ rfl rfl
  · obtain rfl : i = (fieldsK k).length := by omega
    rw [show evT (k, sy, pr, rc, pl, tx, er) = jnS (wL (k, sy, pr, rc, pl, tx, er) (fieldsK k).length) by unfold evT; rw [wL_all _ (Nat.le_refl _)]]
    refine G_seq (G_seq (G_region ?_))
    refine Gm ?_
    refine Gm ?_
    refine Gv (V_lenS rfl rfl) ?_
    refine Gv (V_lss rfl rfl rfl) ?_
    refine G_end (X_then ?_)
    refine G_cond_f rfl (decide_eq_false (by omega)) ?_
    refine G_exit (X_then_exit (X_then_exit (X_block_hit (X_then (G_seq (G_region ?_))))))
    refine Gm ?_
    refine Ga ?_
    refine G_end (X_then (G_ret ?_))
    refine G_leaveS (.drop _ (.nil _)) (by exact (.cons (.tmp rfl) (.nil))) rfl ?_ ?_
    · exact ((hE7.trans hE15).trans hE4)
    exact ⟨rfl, rfl⟩
theorem RText_call (k sy pr rc pl : Int) (tx : List UInt8) (er : Int) : CallS Tryz.prog 17 #[.agg #[.int .i64 k, .int .i64 sy, .int .i64 pr, .int .i64 rc, .int .i64 pl, .string (S tx), .int .i64 er]] E L (fun r E' L' => r = .tuple #[.string (S (txM (k, sy, pr, rc, pl, tx, er)).1), .int .i64 (txM (k, sy, pr, rc, pl, tx, er)).2] ∧ L' = L) := by
  unfold txM
  refine CallS.intro (l := [_]) _ Tryz.func17 rfl Tryz.ntmps17 rfl ?_
  refine G_seq (G_region ?_)
  (refine G_boxA rfl rfl rfl rfl (.none rfl) ?_; intro b1)
  refine Ga ?_
  refine Ga ?_
  refine G_end (X_then (G_seq (G_region ?_)))
  refine Gv (V_loadA rfl rfl (Cells.own (.head _)) rfl) ?_
  refine G_call (k := 13) (.mk rfl rfl rfl rfl) rfl rfl (.none rfl) (RCheck_call' _ _ k sy pr rc pl tx er) ?_
  rintro x1 E1 L1 hE1 ⟨rfl, rfl⟩
  by_cases hc : chkE (k, sy, pr, rc, pl, tx, er) = 0
  · rw [if_pos hc, hc]
    refine Ga ?_
    refine G_end (X_then (G_seq (G_seq (G_region ?_))))
    refine Gm ?_
    refine Gv (V_neq rfl rfl rfl) ?_
    refine G_end (X_then ?_)
    refine G_cond_f rfl (by kernel_rfl) ?_
    refine G_skip (X_then (G_seq (G_region ?_)))
    refine Gv (V_loadA rfl rfl (Cells.own (.head _)) rfl) ?_
    refine G_call (k := 56) (.mk rfl rfl rfl rfl) rfl rfl (.none rfl) (Rwritten_call _ _ k sy pr rc pl tx er (ev_ok hc)) ?_
    rintro x2 E2 L2 hE2 ⟨rfl, rfl⟩
    refine Ga ?_
    refine Ga ?_
    refine G_end (X_then (G_ret ?_))
    refine G_leaveS (.drop _ (.nil _)) (by exact (.cons (.tmp rfl) (.cons (.tmp rfl) (.nil)))) rfl ?_ ?_
    · exact (hE1.trans hE2)
    exact ⟨rfl, rfl⟩
  · rw [if_neg hc]
    refine Ga ?_
    refine G_end (X_then (G_seq (G_seq (G_region ?_))))
    refine Gm ?_
    refine Gv (V_neq rfl rfl rfl) ?_
    refine G_end (X_then ?_)
    refine G_cond_t rfl (decide_eq_true (by omega)) ?_
    refine G_seq (G_region ?_)
    refine Gm ?_
    refine Ga ?_
    refine Ga ?_
    refine G_end (X_then (G_ret (X_then_ret ?_)))
    refine G_leaveS (.drop _ (.nil _)) (by exact (.cons (.tmp rfl) (.cons (.tmp rfl) (.nil)))) rfl ?_ ?_
    · exact hE1
    exact ⟨rfl, rfl⟩
end
end Go.Proofs.YtjhehanknkonnaaGreatDoor
