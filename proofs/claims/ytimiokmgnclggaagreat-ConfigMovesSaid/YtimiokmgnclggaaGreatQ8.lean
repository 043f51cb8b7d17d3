/-
  Rules and contracts, packed: G6, G7, Sep34, G8, G9.
-/
import Derived.Test.YtimiokmgnclggaaGreatQ7
set_option maxHeartbeats 1000000
set_option linter.unusedSimpArgs false
set_option linter.unusedVariables false
set_option maxHeartbeats 2000000
set_option maxRecDepth 20000
namespace Go.Proofs.YtimiokmgnclggaaGreat
open Go.RowKit
/-! The checks of a configuration: ring, part, offsets, form. -/
/-- Each frame begins where the one before ends. -/
def contB (l : List Tok) : Bool := (List.range l.length).all fun i => decide (i = 0) || decide ((l.getD i ⟨0, [], 0⟩).at' = tbeh (l.getD (i - 1) ⟨0, [], 0⟩))
theorem contB_at {l : List Tok} (h : contB l = true) {i : Nat} (h0 : 0 < i) (hi : i < l.length) : l[i].at' = tbeh l[i - 1] := by
  have := List.all_eq_true.1 h i (List.mem_range.2 hi)
  simp only [Bool.or_eq_true, decide_eq_true_eq] at this
  rcases this with h1 | h1
  · omega
  · rwa [getD_at _ hi, getD_at _ (by omega)] at h1
theorem contB_of {l : List Tok} (h : ∀ i, 0 < i → (hi : i < l.length) → l[i].at' = tbeh l[i - 1]) : contB l = true := by
  refine List.all_eq_true.2 fun i hi => ?_
  have hi := List.mem_range.1 hi
  simp only [Bool.or_eq_true, decide_eq_true_eq]
  by_cases h0 : i = 0
  · exact .inl h0
  · refine .inr ?_
    rw [getD_at _ hi, getD_at _ (by omega)]
    exact h i (by omega) hi
theorem contB_no {l : List Tok} {i : Nat} (h0 : 0 < i) (hi : i < l.length) (h : l[i].at' ≠ tbeh l[i - 1]) : contB l = false := by
  cases e : contB l with
  | false => rfl
  | true => exact absurd (contB_at e h0 hi) h
/-- The error of the offsets (not in the state Bad). -/
def placM (at' : Int) (pn : Nat) (l : List Tok) (e ea : Int) : Int :=
  if contB l = false then 9
  else if e = 0 then (if at' - pn < 0 ∨ (0 < l.length ∧ tend l ≠ at' - pn) then 9 else 0)
  else if e = 1 then (if at' < ea + 2 ∨ ea + 26 < at' ∨ ea < 0 ∨ (0 < l.length ∧ tend l ≠ ea) then 9 else 0)
  else (if at' ≠ ea ∨ ea < 0 ∨ (0 < l.length ∧ tend l ≠ ea) then 9 else 0)
/-- The error of state, stack and ring together, in the states Between and Inside. -/
def formM (st : Int) (b : Bool) (tn sn : Nat) (e : Int) : Int :=
  if st = 1 then (if b = true ∨ 0 < sn then 10 else 0)
  else (if b = true then 0 else if 0 < sn then 10 else if 0 < tn ∨ e = 1 then 0 else 10)
def partM (s : List UInt8) (terms e : Int) : Int := if begE s terms ≠ 0 then begE s terms else if s ≠ [] ∧ e ≠ 0 then 3 else 0
section
variable (E : Env) (L : List Res) (st rc at' : Int) (part : List UInt8) (tp : Option Addr) (tn tc : Nat) (e ea : Int) (b : Bool) (sp : Option Addr) (sn sc : Nat) (gk : Int) (gp : Option Addr) (gn gc : Nat) (sep : List UInt8) (np : Option Addr) (nn nc : Nat) (start : Int) (pp : Option Addr) (pn pc : Nat)
theorem waitOk_call (l : List Tok) (hl : SlE E 3 tp tn (toks l)) (hg : gringB gk gn l e ea = true) : CallV Tryz.prog 31 #[ckV st rc at' part tp tn tc e ea b sp sn sc gk gp gn gc sep np nn nc start pp pn pc] E L (.int .i64 0) := by
  refine CallS.toV (CallS.intro (l := [_]) _ Tryz.func31 rfl Tryz.ntmps31 rfl ?_)
  refine G_seq (G_region ?_)
  (refine G_boxA rfl rfl rfl rfl (.none rfl) ?_; intro b1)
  refine Ga ?_
  refine G_end (X_then (G_seq (G_region ?_)))
  refine Gv (V_fieldAddr rfl rfl (by decide)) ?_
  refine Gv (V_fieldAddr rfl rfl (by decide)) ?_
  refine Gv (V_load rfl rfl (Cell.own (.head _) rfl)) ?_
  refine Gv (V_fieldAddr rfl rfl (by decide)) ?_
  refine Gv (V_fieldAddr rfl rfl (by decide)) ?_
  refine Gv (V_load rfl rfl (Cell.own (.head _) rfl)) ?_
  refine Gv (V_lenS rfl rfl) ?_
  refine Gv (V_fieldAddr rfl rfl (by decide)) ?_
  refine Gv (V_fieldAddr rfl rfl (by decide)) ?_
  refine Gv (V_loadF rfl rfl (.head _) (by simp only [Nat.zero_add, List.drop_succ_cons, List.drop_zero, List.take_succ_cons, List.take_zero]; rfl) (by rfl)) ?_
  refine G_callv (k := 54) (.mk rfl rfl rfl rfl) rfl rfl (.none rfl) (Check_call _ _ _ _ _ _ _ _ (by assumption) _ _ (by assumption)) ?_
  refine Ga ?_
  refine G_end (X_then (G_ret ?_))
  refine G_leaveS (.drop _ (.nil _)) (by exact (.cons (.tmp rfl) (.nil))) rfl ?_ ?_
  · exact (.refl _)
  exact ⟨(by kernel_rfl), rfl⟩
theorem cpart_call (hs : part.length ≤ 1) (h1 : 1 ≤ (gn : Int)) (h2 : (gn : Int) ≤ 8) (h3 : st = 1 ∨ st = 2) : CallV Tryz.prog 33 #[ckV st rc at' part tp tn tc e ea b sp sn sc gk gp gn gc sep np nn nc start pp pn pc] E L (.int .i64 (partM part gn e)) := by
  unfold partM
  by_cases h0 : begE part gn ≠ 0
  · rw [if_pos h0]
    have hb := fun L0 => Begins_call E L0 part gn hs h1 h2
    generalize begE part gn = x at *
    refine CallS.toV (CallS.intro (l := [_]) _ Tryz.func33 rfl Tryz.ntmps33 rfl ?_)
    refine G_seq (G_region ?_)
    (refine G_boxA rfl rfl rfl rfl (.none rfl) ?_; intro b1)
    refine Ga ?_
    refine G_end (X_then (G_seq (G_region ?_)))
    refine Gv (V_fieldAddr rfl rfl (by decide)) ?_
    refine Gv (V_fieldAddr rfl rfl (by decide)) ?_
    refine Gv (V_load rfl rfl (Cell.own (.head _) rfl)) ?_
    refine Gv (V_fieldAddr rfl rfl (by decide)) ?_
    refine Gv (V_fieldAddr rfl rfl (by decide)) ?_
    refine Gv (V_load rfl rfl (Cell.own (.head _) rfl)) ?_
    refine Gv (V_lenS rfl rfl) ?_
    refine G_callv (k := 64) (.mk rfl rfl rfl rfl) rfl rfl (.none rfl) (hb _) ?_
    refine Gm ?_
    refine Gv (V_extract rfl rfl rfl) ?_
    refine Gv (V_extract rfl rfl rfl) ?_
    refine Ga ?_
    refine Ga ?_
    refine G_end (X_then (G_seq (G_seq (G_region ?_))))
    refine Gm ?_
    refine Gv (V_neq rfl rfl rfl) ?_
    refine G_end (X_then ?_)
    refine G_cond_t rfl (decide_eq_true (by omega)) ?_
    refine G_seq (G_region ?_)
    refine Gm ?_
    refine Ga ?_
    refine G_end (X_then (G_ret (X_then_ret ?_)))
    refine G_leaveS (.drop _ (.nil _)) (by exact (.cons (.tmp rfl) (.nil))) rfl ?_ ?_
    · exact (.refl _)
    exact ⟨rfl, rfl⟩
  · rw [if_neg h0]
    have hb := fun L0 => Begins_call E L0 part gn hs h1 h2
    rw [show begE part gn = 0 by omega] at hb
    by_cases hp : part = []
    · subst hp
      rw [if_neg (by simp)]
      refine CallS.toV (CallS.intro (l := [_]) _ Tryz.func33 rfl Tryz.ntmps33 rfl ?_)
      refine G_seq (G_region ?_)
      (refine G_boxA rfl rfl rfl rfl (.none rfl) ?_; intro b1)
      refine Ga ?_
      refine G_end (X_then (G_seq (G_region ?_)))
      refine Gv (V_fieldAddr rfl rfl (by decide)) ?_
      refine Gv (V_fieldAddr rfl rfl (by decide)) ?_
      refine Gv (V_load rfl rfl (Cell.own (.head _) rfl)) ?_
      refine Gv (V_fieldAddr rfl rfl (by decide)) ?_
      refine Gv (V_fieldAddr rfl rfl (by decide)) ?_
      refine Gv (V_load rfl rfl (Cell.own (.head _) rfl)) ?_
      refine Gv (V_lenS rfl rfl) ?_
      refine G_callv (k := 64) (.mk rfl rfl rfl rfl) rfl rfl (.none rfl) (hb _) ?_
      refine Gm ?_
      refine Gv (V_extract rfl rfl rfl) ?_
      refine Gv (V_extract rfl rfl rfl) ?_
      refine Ga ?_
      refine Ga ?_
      refine G_end (X_then (G_seq (G_seq (G_region ?_))))
      refine Gm ?_
      refine Gv (V_neq rfl rfl rfl) ?_
      refine G_end (X_then ?_)
      refine G_cond_f rfl (by kernel_rfl) ?_
      refine G_skip (X_then (G_seq (G_seq (G_region ?_))))
      refine Gm ?_
      refine Gv (V_not rfl rfl) ?_
      refine Gm ?_
      refine G.bool_f 21 rfl (by kernel_rfl) ?_
      refine Gy (V_fieldAddr rfl rfl (by decide)) ?_
      refine Gy (V_fieldAddr rfl rfl (by decide)) ?_
      refine Gy (V_load rfl rfl (Cell.own (.head _) rfl)) ?_
      refine Gy (V_sneq rfl rfl rfl) ?_
      refine Gy (V_move rfl rfl) ?_
      refine G.bool_f 26 rfl (by kernel_rfl) ?_
      refine Gn ?_
      refine Gn ?_
      refine Gn ?_
      refine Gn ?_
      refine Gn ?_
      refine Gn ?_
      refine G_stay (.un rfl rfl rfl rfl) rfl rfl ?_
      refine G_stay (.un rfl rfl rfl rfl) rfl rfl ?_
      refine G_stay (.un rfl rfl rfl rfl) rfl rfl ?_
      refine G_stay (.un rfl rfl rfl rfl) rfl rfl ?_
      refine Gn ?_
      refine Gn ?_
      refine G_stay (.un rfl rfl rfl rfl) rfl rfl ?_
      refine G_stay (.un rfl rfl rfl rfl) rfl rfl ?_
      refine G_stay (.un rfl rfl rfl rfl) rfl rfl ?_
      refine G_stay (.un rfl rfl rfl rfl) rfl rfl ?_
      refine Gn ?_
      refine Gy (V_pick_f rfl rfl rfl) ?_
      refine Gv (V_pick_f rfl rfl rfl) ?_
      refine G_end (X_then ?_)
      refine G_cond_f rfl rfl ?_
      refine G_skip (X_then (G_seq (G_region ?_)))
      refine Ga ?_
      refine G_end (X_then (G_ret ?_))
      refine G_leaveS (.drop _ (.nil _)) (by exact (.cons (.tmp rfl) (.nil))) rfl ?_ ?_
      · exact (.refl _)
      exact ⟨(by kernel_rfl), rfl⟩
    · by_cases he : e ≠ 0
      · rw [if_pos ⟨hp, he⟩]
        refine CallS.toV (CallS.intro (l := [_]) _ Tryz.func33 rfl Tryz.ntmps33 rfl ?_)
        refine G_seq (G_region ?_)
        (refine G_boxA rfl rfl rfl rfl (.none rfl) ?_; intro b1)
        refine Ga ?_
        refine G_end (X_then (G_seq (G_region ?_)))
        refine Gv (V_fieldAddr rfl rfl (by decide)) ?_
        refine Gv (V_fieldAddr rfl rfl (by decide)) ?_
        refine Gv (V_load rfl rfl (Cell.own (.head _) rfl)) ?_
        refine Gv (V_fieldAddr rfl rfl (by decide)) ?_
        refine Gv (V_fieldAddr rfl rfl (by decide)) ?_
        refine Gv (V_load rfl rfl (Cell.own (.head _) rfl)) ?_
        refine Gv (V_lenS rfl rfl) ?_
        refine G_callv (k := 64) (.mk rfl rfl rfl rfl) rfl rfl (.none rfl) (hb _) ?_
        refine Gm ?_
        refine Gv (V_extract rfl rfl rfl) ?_
        refine Gv (V_extract rfl rfl rfl) ?_
        refine Ga ?_
        refine Ga ?_
        refine G_end (X_then (G_seq (G_seq (G_region ?_))))
        refine Gm ?_
        refine Gv (V_neq rfl rfl rfl) ?_
        refine G_end (X_then ?_)
        refine G_cond_f rfl (by kernel_rfl) ?_
        refine G_skip (X_then (G_seq (G_seq (G_region ?_))))
        refine Gm ?_
        refine Gv (V_not rfl rfl) ?_
        refine Gm ?_
        refine G.bool_f 21 rfl (by kernel_rfl) ?_
        refine Gy (V_fieldAddr rfl rfl (by decide)) ?_
        refine Gy (V_fieldAddr rfl rfl (by decide)) ?_
        refine Gy (V_load rfl rfl (Cell.own (.head _) rfl)) ?_
        refine Gy (V_sneq rfl rfl rfl) ?_
        refine Gy (V_move rfl rfl) ?_
        refine G.bool_t 26 rfl (decide_eq_true (by omega)) ?_
        refine Gy (V_fieldAddr rfl rfl (by decide)) ?_
        refine Gy (V_fieldAddr rfl rfl (by decide)) ?_
        refine Gy (V_fieldAddr rfl rfl (by decide)) ?_
        refine Gy (V_load rfl rfl (Cell.own (.head _) rfl)) ?_
        refine Gy (V_neq rfl rfl rfl) ?_
        refine Gy (V_move rfl rfl) ?_
        refine G.bool_t 32 rfl (decide_eq_true (by omega)) ?_
        refine Gn ?_
        refine Gn ?_
        refine Gn ?_
        refine Gn ?_
        refine Gy (V_pick_t rfl rfl rfl) ?_
        refine Gy (V_move rfl rfl) ?_
        refine Gn ?_
        refine Gn ?_
        refine Gn ?_
        refine Gn ?_
        refine Gy (V_pick_t rfl rfl rfl) ?_
        refine Gy (V_pick_t rfl rfl rfl) ?_
        refine Gv (V_pick_f rfl rfl rfl) ?_
        refine G_end (X_then ?_)
        refine G_cond_t rfl rfl ?_
        refine G_seq (G_region ?_)
        refine Ga ?_
        refine G_end (X_then (G_ret (X_then_ret ?_)))
        refine G_leaveS (.drop _ (.nil _)) (by exact (.cons (.tmp rfl) (.nil))) rfl ?_ ?_
        · exact (.refl _)
        exact ⟨(by kernel_rfl), rfl⟩
      · rw [if_neg (fun h => he h.2)]
        refine CallS.toV (CallS.intro (l := [_]) _ Tryz.func33 rfl Tryz.ntmps33 rfl ?_)
        refine G_seq (G_region ?_)
        (refine G_boxA rfl rfl rfl rfl (.none rfl) ?_; intro b1)
        refine Ga ?_
        refine G_end (X_then (G_seq (G_region ?_)))
        refine Gv (V_fieldAddr rfl rfl (by decide)) ?_
        refine Gv (V_fieldAddr rfl rfl (by decide)) ?_
        refine Gv (V_load rfl rfl (Cell.own (.head _) rfl)) ?_
        refine Gv (V_fieldAddr rfl rfl (by decide)) ?_
        refine Gv (V_fieldAddr rfl rfl (by decide)) ?_
        refine Gv (V_load rfl rfl (Cell.own (.head _) rfl)) ?_
        refine Gv (V_lenS rfl rfl) ?_
        refine G_callv (k := 64) (.mk rfl rfl rfl rfl) rfl rfl (.none rfl) (hb _) ?_
        refine Gm ?_
        refine Gv (V_extract rfl rfl rfl) ?_
        refine Gv (V_extract rfl rfl rfl) ?_
        refine Ga ?_
        refine Ga ?_
        refine G_end (X_then (G_seq (G_seq (G_region ?_))))
        refine Gm ?_
        refine Gv (V_neq rfl rfl rfl) ?_
        refine G_end (X_then ?_)
        refine G_cond_f rfl (by kernel_rfl) ?_
        refine G_skip (X_then (G_seq (G_seq (G_region ?_))))
        refine Gm ?_
        refine Gv (V_not rfl rfl) ?_
        refine Gm ?_
        refine G.bool_f 21 rfl (by kernel_rfl) ?_
        refine Gy (V_fieldAddr rfl rfl (by decide)) ?_
        refine Gy (V_fieldAddr rfl rfl (by decide)) ?_
        refine Gy (V_load rfl rfl (Cell.own (.head _) rfl)) ?_
        refine Gy (V_sneq rfl rfl rfl) ?_
        refine Gy (V_move rfl rfl) ?_
        refine G.bool_t 26 rfl (decide_eq_true (by omega)) ?_
        refine Gy (V_fieldAddr rfl rfl (by decide)) ?_
        refine Gy (V_fieldAddr rfl rfl (by decide)) ?_
        refine Gy (V_fieldAddr rfl rfl (by decide)) ?_
        refine Gy (V_load rfl rfl (Cell.own (.head _) rfl)) ?_
        refine Gy (V_neq rfl rfl rfl) ?_
        refine Gy (V_move rfl rfl) ?_
        refine G.bool_f 32 rfl (decide_eq_false (by omega)) ?_
        refine Gy (V_fieldAddr rfl rfl (by decide)) ?_
        refine Gy (V_fieldAddr rfl rfl (by decide)) ?_
        refine Gy (V_load rfl rfl (Cell.own (.head _) rfl)) ?_
        refine Gy (V_eql rfl rfl rfl) ?_
        refine Gy (V_pick_f rfl rfl rfl) ?_
        refine Gy (V_move rfl rfl) ?_
        refine G.bool_f 38 rfl (decide_eq_false (by omega)) ?_
        refine Gy (V_fieldAddr rfl rfl (by decide)) ?_
        refine Gy (V_fieldAddr rfl rfl (by decide)) ?_
        refine Gy (V_load rfl rfl (Cell.own (.head _) rfl)) ?_
        refine Gy (V_eql rfl rfl rfl) ?_
        refine Gy (V_pick_f rfl rfl rfl) ?_
        refine Gy (V_pick_t rfl rfl rfl) ?_
        refine Gv (V_pick_f rfl rfl rfl) ?_
        refine G_end (X_then ?_)
        refine G_cond_f rfl (decide_eq_false (by omega)) ?_
        refine G_skip (X_then (G_seq (G_region ?_)))
        refine Ga ?_
        refine G_end (X_then (G_ret ?_))
        refine G_leaveS (.drop _ (.nil _)) (by exact (.cons (.tmp rfl) (.nil))) rfl ?_ ?_
        · exact (.refl _)
        exact ⟨(by kernel_rfl), rfl⟩
theorem cform_call (h3 : st = 1 ∨ st = 2) : CallV Tryz.prog 36 #[ckV st rc at' part tp tn tc e ea b sp sn sc gk gp gn gc sep np nn nc start pp pn pc] E L (.int .i64 (formM st b tn sn e)) := by
  cases b with
  | true =>
    rcases h3 with rfl | rfl
    · refine CallS.toV (CallS.intro (l := [_]) _ Tryz.func36 rfl Tryz.ntmps36 rfl ?_)
      refine G_seq (G_region ?_)
      (refine G_boxA rfl rfl rfl rfl (.none rfl) ?_; intro b1)
      refine Ga ?_
      refine G_end (X_then (G_seq (G_region ?_)))
      refine Gv (V_fieldAddr rfl rfl (by decide)) ?_
      refine Gv (V_fieldAddr rfl rfl (by decide)) ?_
      refine Gv (V_load rfl rfl (Cell.own (.head _) rfl)) ?_
      refine Gv (V_not rfl rfl) ?_
      refine Gm ?_
      refine G.bool_f 10 rfl (by kernel_rfl) ?_
      refine Gn ?_
      refine Gn ?_
      refine Gn ?_
      refine Gn ?_
      refine Gn ?_
      refine Gv (V_pick_f rfl rfl rfl) ?_
      refine Ga ?_
      refine G_end (X_then (G_seq (G_region ?_)))
      refine Gv (V_fieldAddr rfl rfl (by decide)) ?_
      refine Gv (V_fieldAddr rfl rfl (by decide)) ?_
      refine Gv (V_load rfl rfl (Cell.own (.head _) rfl)) ?_
      refine Gm ?_
      refine Gn ?_
      refine Gn ?_
      refine Gn ?_
      refine Gn ?_
      refine Gn ?_
      refine Gn ?_
      refine Gv (V_pick_t rfl rfl rfl) ?_
      refine Gm ?_
      refine Gn ?_
      refine Gn ?_
      refine Gn ?_
      refine Gn ?_
      refine Gn ?_
      refine Gv (V_pick_t rfl rfl rfl) ?_
      refine Ga ?_
      refine G_end (X_then (G_seq (G_region ?_)))
      refine Gv (V_fieldAddr rfl rfl (by decide)) ?_
      refine Gv (V_fieldAddr rfl rfl (by decide)) ?_
      refine Gv (V_load rfl rfl (Cell.own (.head _) rfl)) ?_
      refine Gm ?_
      refine Gn ?_
      refine Gv (V_pick_t rfl rfl rfl) ?_
      refine Ga ?_
      refine G_end (X_then (G_seq (G_seq (G_region ?_))))
      refine Gv (V_fieldAddr rfl rfl (by decide)) ?_
      refine Gv (V_fieldAddr rfl rfl (by decide)) ?_
      refine Gv (V_load rfl rfl (Cell.own (.head _) rfl)) ?_
      refine G_end (X_then (G_block (G_seq (G_block (G_seq (G_block (G_seq (G_block (G_seq (G_block (G_seq ?_)))))))))))
      refine G_seq (G_seq (G_region ?_))
      refine Gv (V_eql rfl rfl rfl) ?_
      refine Ga ?_
      refine G_end (X_then ?_)
      refine G_cond_f rfl (by kernel_rfl) ?_
      refine G_skip (X_then (G_seq (G_seq (G_seq (G_region ?_)))))
      refine Gv (V_eql rfl rfl rfl) ?_
      refine Ga ?_
      refine G_end (X_then ?_)
      refine G_cond_t rfl (by kernel_rfl) ?_
      refine G_skip (X_then ?_)
      refine G_cond_t rfl (by kernel_rfl) ?_
      refine G_exit (X_then_exit (X_then_exit ?_))
      refine X_block_miss rfl ?_
      refine X_then_exit (X_block_hit (X_then (G_seq (G_region ?_))))
      refine Gm ?_
      refine Gm ?_
      refine Gy (V_move rfl rfl) ?_
      refine Gv (V_pick_t rfl rfl rfl) ?_
      refine Ga ?_
      refine G_end (X_then (G_exit ?_))
      refine X_block_miss rfl ?_
      refine X_then_exit ?_
      refine X_block_miss rfl ?_
      refine X_then_exit (X_block_hit (X_then (G_seq (G_seq (G_region ?_)))))
      refine Gm ?_
      refine Gv (V_not rfl rfl) ?_
      refine G_end (X_then ?_)
      refine G_cond_t rfl (by kernel_rfl) ?_
      refine G_seq (G_region ?_)
      refine Ga ?_
      refine G_end (X_then (G_ret (X_then_ret ?_)))
      refine G_leaveS (.drop _ (.nil _)) (by exact (.cons (.tmp rfl) (.nil))) rfl ?_ ?_
      · exact (.refl _)
      exact ⟨rfl, rfl⟩
    · refine CallS.toV (CallS.intro (l := [_]) _ Tryz.func36 rfl Tryz.ntmps36 rfl ?_)
      refine G_seq (G_region ?_)
      (refine G_boxA rfl rfl rfl rfl (.none rfl) ?_; intro b1)
      refine Ga ?_
      refine G_end (X_then (G_seq (G_region ?_)))
      refine Gv (V_fieldAddr rfl rfl (by decide)) ?_
      refine Gv (V_fieldAddr rfl rfl (by decide)) ?_
      refine Gv (V_load rfl rfl (Cell.own (.head _) rfl)) ?_
      refine Gv (V_not rfl rfl) ?_
      refine Gm ?_
      refine G.bool_f 10 rfl (by kernel_rfl) ?_
      refine Gn ?_
      refine Gn ?_
      refine Gn ?_
      refine Gn ?_
      refine Gn ?_
      refine Gv (V_pick_f rfl rfl rfl) ?_
      refine Ga ?_
      refine G_end (X_then (G_seq (G_region ?_)))
      refine Gv (V_fieldAddr rfl rfl (by decide)) ?_
      refine Gv (V_fieldAddr rfl rfl (by decide)) ?_
      refine Gv (V_load rfl rfl (Cell.own (.head _) rfl)) ?_
      refine Gm ?_
      refine Gn ?_
      refine Gn ?_
      refine Gn ?_
      refine Gn ?_
      refine Gn ?_
      refine Gn ?_
      refine Gv (V_pick_t rfl rfl rfl) ?_
      refine Gm ?_
      refine Gn ?_
      refine Gn ?_
      refine Gn ?_
      refine Gn ?_
      refine Gn ?_
      refine Gv (V_pick_t rfl rfl rfl) ?_
      refine Ga ?_
      refine G_end (X_then (G_seq (G_region ?_)))
      refine Gv (V_fieldAddr rfl rfl (by decide)) ?_
      refine Gv (V_fieldAddr rfl rfl (by decide)) ?_
      refine Gv (V_load rfl rfl (Cell.own (.head _) rfl)) ?_
      refine Gm ?_
      refine Gn ?_
      refine Gv (V_pick_t rfl rfl rfl) ?_
      refine Ga ?_
      refine G_end (X_then (G_seq (G_seq (G_region ?_))))
      refine Gv (V_fieldAddr rfl rfl (by decide)) ?_
      refine Gv (V_fieldAddr rfl rfl (by decide)) ?_
      refine Gv (V_load rfl rfl (Cell.own (.head _) rfl)) ?_
      refine G_end (X_then (G_block (G_seq (G_block (G_seq (G_block (G_seq (G_block (G_seq (G_block (G_seq ?_)))))))))))
      refine G_seq (G_seq (G_region ?_))
      refine Gv (V_eql rfl rfl rfl) ?_
      refine Ga ?_
      refine G_end (X_then ?_)
      refine G_cond_f rfl (by kernel_rfl) ?_
      refine G_skip (X_then (G_seq (G_seq (G_seq (G_region ?_)))))
      refine Gv (V_eql rfl rfl rfl) ?_
      refine Ga ?_
      refine G_end (X_then ?_)
      refine G_cond_f rfl (by kernel_rfl) ?_
      refine G_region ?_
      refine Gv (V_eql rfl rfl rfl) ?_
      refine Ga ?_
      refine G_end (X_then ?_)
      refine G_cond_f rfl (by kernel_rfl) ?_
      refine G_skip (X_then (G_seq (G_seq (G_seq (G_region ?_)))))
      refine Gv (V_eql rfl rfl rfl) ?_
      refine Ga ?_
      refine G_end (X_then ?_)
      refine G_cond_t rfl (by kernel_rfl) ?_
      refine G_skip (X_then ?_)
      refine G_cond_t rfl (by kernel_rfl) ?_
      refine G_exit (X_then_exit (X_then_exit ?_))
      refine X_block_miss rfl ?_
      refine X_then_exit ?_
      refine X_block_miss rfl ?_
      refine X_then_exit (X_block_hit (X_then (G_seq (G_region ?_))))
      refine Gm ?_
      refine Gm ?_
      refine Gy (V_move rfl rfl) ?_
      refine Gv (V_pick_t rfl rfl rfl) ?_
      refine Ga ?_
      refine G_end (X_then (G_exit ?_))
      refine X_block_miss rfl ?_
      refine X_then_exit (X_block_hit (X_then (G_seq (G_seq (G_region ?_)))))
      refine Gm ?_
      refine Gv (V_not rfl rfl) ?_
      refine G_end (X_then ?_)
      refine G_cond_f rfl (by kernel_rfl) ?_
      refine G_skip (X_then (G_seq (G_region ?_)))
      refine Ga ?_
      refine G_end (X_then (G_ret ?_))
      refine G_leaveS (.drop _ (.nil _)) (by exact (.cons (.tmp rfl) (.nil))) rfl ?_ ?_
      · exact (.refl _)
      exact ⟨rfl, rfl⟩
  | false =>
    rcases h3 with rfl | rfl
    · refine CallS.toV (CallS.intro (l := [_]) _ Tryz.func36 rfl Tryz.ntmps36 rfl ?_)
      refine G_seq (G_region ?_)
      (refine G_boxA rfl rfl rfl rfl (.none rfl) ?_; intro b1)
      refine Ga ?_
      refine G_end (X_then (G_seq (G_region ?_)))
      refine Gv (V_fieldAddr rfl rfl (by decide)) ?_
      refine Gv (V_fieldAddr rfl rfl (by decide)) ?_
      refine Gv (V_load rfl rfl (Cell.own (.head _) rfl)) ?_
      refine Gv (V_not rfl rfl) ?_
      refine Gm ?_
      refine G.bool_t 10 rfl (by kernel_rfl) ?_
      refine Gy (V_fieldAddr rfl rfl (by decide)) ?_
      refine Gy (V_fieldAddr rfl rfl (by decide)) ?_
      refine Gy (V_load rfl rfl (Cell.own (.head _) rfl)) ?_
      refine Gy (V_lenS rfl rfl) ?_
      refine Gy (V_eql rfl rfl rfl) ?_
      refine Gv (V_pick_t rfl rfl rfl) ?_
      refine Ga ?_
      refine G_end (X_then (G_seq (G_region ?_)))
      refine Gv (V_fieldAddr rfl rfl (by decide)) ?_
      refine Gv (V_fieldAddr rfl rfl (by decide)) ?_
      refine Gv (V_load rfl rfl (Cell.own (.head _) rfl)) ?_
      refine Gm ?_
      refine Gy (V_fieldAddr rfl rfl (by decide)) ?_
      refine Gy (V_fieldAddr rfl rfl (by decide)) ?_
      refine Gy (V_fieldAddr rfl rfl (by decide)) ?_
      refine Gy (V_load rfl rfl (Cell.own (.head _) rfl)) ?_
      refine Gy (V_lenS rfl rfl) ?_
      refine Gy (V_gtr rfl rfl rfl) ?_
      refine Gv (V_pick_f rfl rfl rfl) ?_
      refine Gm ?_
      apply G_joinOr 6 28 34 rfl
      · intro H1
        dsimp only [List.take]
        simp only [Bool.and_eq_true, Bool.or_eq_true, Bool.not_eq_true', Bool.not_eq_false', Bool.and_eq_false_iff, Bool.or_eq_false_iff, Bool.not_not, decide_eq_true_eq, decide_eq_false_iff_not, ne_eq, Decidable.not_not, Bool.decide_eq_true] at H1
        refine Gn ?_
        refine Gn ?_
        refine Gn ?_
        refine Gn ?_
        refine Gn ?_
        refine Gv (V_pick_t rfl rfl rfl) ?_
        refine G_end ?_
        exact JQ_end 6 rfl rfl (by kernel_rfl)
      · intro H2
        dsimp only [List.take]
        simp only [Bool.and_eq_true, Bool.or_eq_true, Bool.not_eq_true', Bool.not_eq_false', Bool.and_eq_false_iff, Bool.or_eq_false_iff, Bool.not_not, decide_eq_true_eq, decide_eq_false_iff_not, ne_eq, Decidable.not_not, Bool.decide_eq_true] at H2
        refine Gy (V_fieldAddr rfl rfl (by decide)) ?_
        refine Gy (V_fieldAddr rfl rfl (by decide)) ?_
        refine Gy (V_fieldAddr rfl rfl (by decide)) ?_
        refine Gy (V_load rfl rfl (Cell.own (.head _) rfl)) ?_
        refine Gy (V_eql rfl rfl rfl) ?_
        refine Gv (V_pick_f rfl rfl rfl) ?_
        refine G_end ?_
        exact JQ_end 6 rfl rfl (by kernel_rfl)
      dsimp only [List.drop]
      refine Ga ?_
      refine G_end (X_then (G_seq (G_region ?_)))
      refine Gv (V_fieldAddr rfl rfl (by decide)) ?_
      refine Gv (V_fieldAddr rfl rfl (by decide)) ?_
      refine Gv (V_load rfl rfl (Cell.own (.head _) rfl)) ?_
      refine Gm ?_
      refine Gy (V_move rfl rfl) ?_
      refine Gv (V_pick_f rfl rfl rfl) ?_
      refine Ga ?_
      refine G_end (X_then (G_seq (G_seq (G_region ?_))))
      refine Gv (V_fieldAddr rfl rfl (by decide)) ?_
      refine Gv (V_fieldAddr rfl rfl (by decide)) ?_
      refine Gv (V_load rfl rfl (Cell.own (.head _) rfl)) ?_
      refine G_end (X_then (G_block (G_seq (G_block (G_seq (G_block (G_seq (G_block (G_seq (G_block (G_seq ?_)))))))))))
      refine G_seq (G_seq (G_region ?_))
      refine Gv (V_eql rfl rfl rfl) ?_
      refine Ga ?_
      refine G_end (X_then ?_)
      refine G_cond_f rfl (by kernel_rfl) ?_
      refine G_skip (X_then (G_seq (G_seq (G_seq (G_region ?_)))))
      refine Gv (V_eql rfl rfl rfl) ?_
      refine Ga ?_
      refine G_end (X_then ?_)
      refine G_cond_t rfl (by kernel_rfl) ?_
      refine G_skip (X_then ?_)
      refine G_cond_t rfl (by kernel_rfl) ?_
      refine G_exit (X_then_exit (X_then_exit ?_))
      refine X_block_miss rfl ?_
      refine X_then_exit (X_block_hit (X_then (G_seq (G_region ?_))))
      refine Gm ?_
      refine Gm ?_
      apply G_joinAnd 2 71 73 rfl
      · intro H3
        dsimp only [List.take]
        simp only [Bool.and_eq_true, Bool.or_eq_true, Bool.not_eq_true', Bool.not_eq_false', Bool.and_eq_false_iff, Bool.or_eq_false_iff, Bool.not_not, decide_eq_true_eq, decide_eq_false_iff_not, ne_eq, Decidable.not_not, Bool.decide_eq_true] at H3
        refine Gy (V_move rfl rfl) ?_
        refine Gv (V_pick_t rfl rfl rfl) ?_
        refine G_end ?_
        exact JQ_end 2 rfl rfl (by kernel_rfl)
      · intro H4
        dsimp only [List.take]
        simp only [Bool.and_eq_true, Bool.or_eq_true, Bool.not_eq_true', Bool.not_eq_false', Bool.and_eq_false_iff, Bool.or_eq_false_iff, Bool.not_not, decide_eq_true_eq, decide_eq_false_iff_not, ne_eq, Decidable.not_not, Bool.decide_eq_true] at H4
        refine Gn ?_
        refine Gv (V_pick_f rfl rfl rfl) ?_
        refine G_end ?_
        exact JQ_end 2 rfl rfl (by kernel_rfl)
      dsimp only [List.drop]
      refine Ga ?_
      refine G_end (X_then (G_exit ?_))
      refine X_block_miss rfl ?_
      refine X_then_exit ?_
      refine X_block_miss rfl ?_
      refine X_then_exit (X_block_hit (X_then (G_seq (G_seq (G_region ?_)))))
      refine Gm ?_
      refine Gv (V_not rfl rfl) ?_
      refine G_end (X_then ?_)
      refine G_cond rfl (fun H5 => ?_) (fun H5 => ?_)
      · simp only [Bool.and_eq_true, Bool.or_eq_true, Bool.not_eq_true', Bool.not_eq_false', Bool.and_eq_false_iff, Bool.or_eq_false_iff, Bool.not_not, decide_eq_true_eq, decide_eq_false_iff_not, ne_eq, Decidable.not_not, Bool.decide_eq_true] at H5
        refine G_seq (G_region ?_)
        refine Ga ?_
        refine G_end (X_then (G_ret (X_then_ret ?_)))
        refine G_leaveS (.drop _ (.nil _)) (by exact (.cons (.tmp rfl) (.nil))) rfl ?_ ?_
        · exact (.refl _)
        exact ⟨(by (simp (discharger := omega) only [resVal, formM, if_pos, if_neg]; first | done | rfl)), (by rfl)⟩
      simp only [Bool.and_eq_true, Bool.or_eq_true, Bool.not_eq_true', Bool.not_eq_false', Bool.and_eq_false_iff, Bool.or_eq_false_iff, Bool.not_not, decide_eq_true_eq, decide_eq_false_iff_not, ne_eq, Decidable.not_not, Bool.decide_eq_true] at H5
      refine G_skip (X_then (G_seq (G_region ?_)))
      refine Ga ?_
      refine G_end (X_then (G_ret ?_))
      refine G_leaveS (.drop _ (.nil _)) (by exact (.cons (.tmp rfl) (.nil))) rfl ?_ ?_
      · exact (.refl _)
      exact ⟨(by ((try simp only [resVal, formM]); (repeat' split) <;> first | rfl | (exfalso; omega) | (simp_all; done) | (simp_all; omega))), (by rfl)⟩
    · refine CallS.toV (CallS.intro (l := [_]) _ Tryz.func36 rfl Tryz.ntmps36 rfl ?_)
      refine G_seq (G_region ?_)
      (refine G_boxA rfl rfl rfl rfl (.none rfl) ?_; intro b1)
      refine Ga ?_
      refine G_end (X_then (G_seq (G_region ?_)))
      refine Gv (V_fieldAddr rfl rfl (by decide)) ?_
      refine Gv (V_fieldAddr rfl rfl (by decide)) ?_
      refine Gv (V_load rfl rfl (Cell.own (.head _) rfl)) ?_
      refine Gv (V_not rfl rfl) ?_
      refine Gm ?_
      refine G.bool_t 10 rfl (by kernel_rfl) ?_
      refine Gy (V_fieldAddr rfl rfl (by decide)) ?_
      refine Gy (V_fieldAddr rfl rfl (by decide)) ?_
      refine Gy (V_load rfl rfl (Cell.own (.head _) rfl)) ?_
      refine Gy (V_lenS rfl rfl) ?_
      refine Gy (V_eql rfl rfl rfl) ?_
      refine Gv (V_pick_t rfl rfl rfl) ?_
      refine Ga ?_
      refine G_end (X_then (G_seq (G_region ?_)))
      refine Gv (V_fieldAddr rfl rfl (by decide)) ?_
      refine Gv (V_fieldAddr rfl rfl (by decide)) ?_
      refine Gv (V_load rfl rfl (Cell.own (.head _) rfl)) ?_
      refine Gm ?_
      refine Gy (V_fieldAddr rfl rfl (by decide)) ?_
      refine Gy (V_fieldAddr rfl rfl (by decide)) ?_
      refine Gy (V_fieldAddr rfl rfl (by decide)) ?_
      refine Gy (V_load rfl rfl (Cell.own (.head _) rfl)) ?_
      refine Gy (V_lenS rfl rfl) ?_
      refine Gy (V_gtr rfl rfl rfl) ?_
      refine Gv (V_pick_f rfl rfl rfl) ?_
      refine Gm ?_
      apply G_joinOr 6 28 34 rfl
      · intro H1
        dsimp only [List.take]
        simp only [Bool.and_eq_true, Bool.or_eq_true, Bool.not_eq_true', Bool.not_eq_false', Bool.and_eq_false_iff, Bool.or_eq_false_iff, Bool.not_not, decide_eq_true_eq, decide_eq_false_iff_not, ne_eq, Decidable.not_not, Bool.decide_eq_true] at H1
        refine Gn ?_
        refine Gn ?_
        refine Gn ?_
        refine Gn ?_
        refine Gn ?_
        refine Gv (V_pick_t rfl rfl rfl) ?_
        refine G_end ?_
        exact JQ_end 6 rfl rfl (by kernel_rfl)
      · intro H2
        dsimp only [List.take]
        simp only [Bool.and_eq_true, Bool.or_eq_true, Bool.not_eq_true', Bool.not_eq_false', Bool.and_eq_false_iff, Bool.or_eq_false_iff, Bool.not_not, decide_eq_true_eq, decide_eq_false_iff_not, ne_eq, Decidable.not_not, Bool.decide_eq_true] at H2
        refine Gy (V_fieldAddr rfl rfl (by decide)) ?_
        refine Gy (V_fieldAddr rfl rfl (by decide)) ?_
        refine Gy (V_fieldAddr rfl rfl (by decide)) ?_
        refine Gy (V_load rfl rfl (Cell.own (.head _) rfl)) ?_
        refine Gy (V_eql rfl rfl rfl) ?_
        refine Gv (V_pick_f rfl rfl rfl) ?_
        refine G_end ?_
        exact JQ_end 6 rfl rfl (by kernel_rfl)
      dsimp only [List.drop]
      refine Ga ?_
      refine G_end (X_then (G_seq (G_region ?_)))
      refine Gv (V_fieldAddr rfl rfl (by decide)) ?_
      refine Gv (V_fieldAddr rfl rfl (by decide)) ?_
      refine Gv (V_load rfl rfl (Cell.own (.head _) rfl)) ?_
      refine Gm ?_
      refine Gy (V_move rfl rfl) ?_
      refine Gv (V_pick_f rfl rfl rfl) ?_
      refine Ga ?_
      refine G_end (X_then (G_seq (G_seq (G_region ?_))))
      refine Gv (V_fieldAddr rfl rfl (by decide)) ?_
      refine Gv (V_fieldAddr rfl rfl (by decide)) ?_
      refine Gv (V_load rfl rfl (Cell.own (.head _) rfl)) ?_
      refine G_end (X_then (G_block (G_seq (G_block (G_seq (G_block (G_seq (G_block (G_seq (G_block (G_seq ?_)))))))))))
      refine G_seq (G_seq (G_region ?_))
      refine Gv (V_eql rfl rfl rfl) ?_
      refine Ga ?_
      refine G_end (X_then ?_)
      refine G_cond_f rfl (by kernel_rfl) ?_
      refine G_skip (X_then (G_seq (G_seq (G_seq (G_region ?_)))))
      refine Gv (V_eql rfl rfl rfl) ?_
      refine Ga ?_
      refine G_end (X_then ?_)
      refine G_cond_f rfl (by kernel_rfl) ?_
      refine G_region ?_
      refine Gv (V_eql rfl rfl rfl) ?_
      refine Ga ?_
      refine G_end (X_then ?_)
      refine G_cond_f rfl (by kernel_rfl) ?_
      refine G_skip (X_then (G_seq (G_seq (G_seq (G_region ?_)))))
      refine Gv (V_eql rfl rfl rfl) ?_
      refine Ga ?_
      refine G_end (X_then ?_)
      refine G_cond_t rfl (by kernel_rfl) ?_
      refine G_skip (X_then ?_)
      refine G_cond_t rfl (by kernel_rfl) ?_
      refine G_exit (X_then_exit (X_then_exit ?_))
      refine X_block_miss rfl ?_
      refine X_then_exit ?_
      refine X_block_miss rfl ?_
      refine X_then_exit (X_block_hit (X_then (G_seq (G_region ?_))))
      refine Gm ?_
      refine Gm ?_
      apply G_joinAnd 2 75 77 rfl
      · intro H3
        dsimp only [List.take]
        simp only [Bool.and_eq_true, Bool.or_eq_true, Bool.not_eq_true', Bool.not_eq_false', Bool.and_eq_false_iff, Bool.or_eq_false_iff, Bool.not_not, decide_eq_true_eq, decide_eq_false_iff_not, ne_eq, Decidable.not_not, Bool.decide_eq_true] at H3
        refine Gy (V_move rfl rfl) ?_
        refine Gv (V_pick_t rfl rfl rfl) ?_
        refine G_end ?_
        exact JQ_end 2 rfl rfl (by kernel_rfl)
      · intro H4
        dsimp only [List.take]
        simp only [Bool.and_eq_true, Bool.or_eq_true, Bool.not_eq_true', Bool.not_eq_false', Bool.and_eq_false_iff, Bool.or_eq_false_iff, Bool.not_not, decide_eq_true_eq, decide_eq_false_iff_not, ne_eq, Decidable.not_not, Bool.decide_eq_true] at H4
        refine Gn ?_
        refine Gv (V_pick_f rfl rfl rfl) ?_
        refine G_end ?_
        exact JQ_end 2 rfl rfl (by kernel_rfl)
      dsimp only [List.drop]
      refine Ga ?_
      refine G_end (X_then (G_exit ?_))
      refine X_block_miss rfl ?_
      refine X_then_exit (X_block_hit (X_then (G_seq (G_seq (G_region ?_)))))
      refine Gm ?_
      refine Gv (V_not rfl rfl) ?_
      refine G_end (X_then ?_)
      refine G_cond rfl (fun H5 => ?_) (fun H5 => ?_)
      · simp only [Bool.and_eq_true, Bool.or_eq_true, Bool.not_eq_true', Bool.not_eq_false', Bool.and_eq_false_iff, Bool.or_eq_false_iff, Bool.not_not, decide_eq_true_eq, decide_eq_false_iff_not, ne_eq, Decidable.not_not, Bool.decide_eq_true] at H5
        refine G_seq (G_region ?_)
        refine Ga ?_
        refine G_end (X_then (G_ret (X_then_ret ?_)))
        refine G_leaveS (.drop _ (.nil _)) (by exact (.cons (.tmp rfl) (.nil))) rfl ?_ ?_
        · exact (.refl _)
        exact ⟨(by ((try simp only [resVal, formM]); (repeat' split) <;> first | rfl | (exfalso; omega) | (simp_all; done) | (simp_all; omega))), (by rfl)⟩
      simp only [Bool.and_eq_true, Bool.or_eq_true, Bool.not_eq_true', Bool.not_eq_false', Bool.and_eq_false_iff, Bool.or_eq_false_iff, Bool.not_not, decide_eq_true_eq, decide_eq_false_iff_not, ne_eq, Decidable.not_not, Bool.decide_eq_true] at H5
      refine G_skip (X_then (G_seq (G_region ?_)))
      refine Ga ?_
      refine G_end (X_then (G_ret ?_))
      refine G_leaveS (.drop _ (.nil _)) (by exact (.cons (.tmp rfl) (.nil))) rfl ?_ ?_
      · exact (.refl _)
      exact ⟨(by (simp (discharger := omega) only [resVal, formM, if_pos, if_neg]; first | done | rfl)), (by rfl)⟩
end
end Go.Proofs.YtimiokmgnclggaaGreat
set_option linter.unusedSimpArgs false
set_option linter.unusedVariables false
set_option maxHeartbeats 2000000
set_option maxRecDepth 20000
namespace Go.Proofs.YtimiokmgnclggaaGreat
open Go.RowKit
/-! The check of the offsets. -/
section
variable (E : Env) (L : List Res) (st rc at' : Int) (part : List UInt8) (tp : Option Addr) (tn tc : Nat) (e ea : Int) (b : Bool) (sp : Option Addr) (sn sc : Nat) (gk : Int) (gp : Option Addr) (gn gc : Nat) (sep : List UInt8) (np : Option Addr) (nn nc : Nat) (start : Int) (pp : Option Addr) (pn pc : Nat)
theorem cplaces_call (l : List Tok) (hl : SlE E 3 tp tn (toks l)) (hg : gringB gk gn l e ea = true) (hs : part.length ≤ 1) (ha : 0 ≤ at' ∧ at' ≤ 1099511627776) (h3 : st = 1 ∨ st = 2) :
    CallV Tryz.prog 34 #[ckV st rc at' part tp tn tc e ea b sp sn sc gk gp gn gc sep np nn nc start pp pn pc] E L (.int .i64 (placM at' part.length l e ea)) := by
  have en := hl.nT
  have hgr := gring_iff.1 hg
  obtain ⟨g1, g2, g3, g4, g5, g6, g7, g8, g9, g10, g11, g12, g13⟩ := hgr
  have hst5 : ¬ st = 5 := by omega
  refine CallS.toV (CallS.intro (l := [_]) _ Tryz.func34 rfl Tryz.ntmps34 rfl ?_)
  refine G_seq (G_region ?_)
  (refine G_boxA rfl rfl rfl rfl (.none rfl) ?_; intro b1)
  refine Ga ?_
  refine G_end (X_then (G_seq (G_region ?_)))
  refine Gv (V_fieldAddr rfl rfl (by decide)) ?_
  refine Gv (V_fieldAddr rfl rfl (by decide)) ?_
  refine Gv (V_fieldAddr rfl rfl (by decide)) ?_
  refine Gv (V_load rfl rfl (Cell.own (.head _) rfl)) ?_
  refine Ga ?_
  refine G_end (X_then (G_seq (G_seq (G_region ?_))))
  refine Ga ?_
  refine G_end (X_then (G_block ?_))
  refine G_loop (α := Nat) (fun i => [(1, .pointer (some ⟨b1, 0, none⟩)), (3, .slice tp tn tc), (4, .int .i64 i)]) (fun _ => E)
    (fun _ => CKB b1 st rc at' part tp tn tc e ea b sp sn sc gk gp gn gc sep np nn nc start pp pn pc :: L)
    (fun i => 1 ≤ i ∧ (i = 1 ∨ i ≤ l.length) ∧ ∀ j, 0 < j → j < i → (hj : j < l.length) → l[j].at' = tbeh l[j - 1]) (fun i => l.length + 1 - i) 1 ⟨Nat.le_refl _, .inl rfl, fun j h1 h2 => by omega⟩ ⟨rfl, rfl, rfl, trivial⟩ rfl rfl ?_
  rintro i ⟨hi, hi2, hall⟩
  by_cases hlt : i < l.length
  · obtain ⟨k, rfl⟩ : ∃ k, i = k + 1 := ⟨i - 1, by omega⟩
    have hk : k < l.length := by omega
    have q1 := tokB_iff.1 (g6 _ (List.getElem_mem hlt))
    have q2 := tokB_iff.1 (g6 _ (List.getElem_mem hk))
    obtain ⟨q11, q12, q13, q14, q15⟩ := q1
    obtain ⟨q21, q22, q23, q24, q25⟩ := q2
    have x1 := toks_at (List.getElem?_eq_getElem hlt)
    have x2 : (toks l)[(((k + 1 : Nat) : Int) - 1).toNat * 3 + 2]? = some (.int .i64 l[k].at') := by
      rw [show (((k + 1 : Nat) : Int) - 1).toNat = k by omega]
      exact toks_at (List.getElem?_eq_getElem hk)
    have x3 : ((toks l).drop ((((k + 1 : Nat) : Int) - 1).toNat * 3)).take 3 = l[k].cells := by
      rw [show (((k + 1 : Nat) : Int) - 1).toNat = k by omega]
      exact toks_get (List.getElem?_eq_getElem hk)
    by_cases he : l[k + 1].at' = tbeh l[k]
    · have he2 : l[k + 1].at' = l[k].at' + (2 + l[k].text.length) := he
      refine G_seq (G_seq (G_region ?_))
      refine Gm ?_
      refine Gm ?_
      refine Gv (V_lenS rfl rfl) ?_
      refine Gv (V_lss rfl rfl rfl) ?_
      refine G_end (X_then ?_)
      refine G_cond_t rfl (decide_eq_true (by omega)) ?_
      refine G_skip (X_then (G_seq (G_block (G_seq ?_))))
      refine G_draw mixed (by kernel_rfl) ?_
      refine Q_val (V_move rfl rfl) rfl rfl (.none rfl) ?_
      refine Q_val (V_move rfl rfl) rfl rfl (.none rfl) ?_
      refine Q_val (V_idxAddr rfl rfl rfl (SlE.rd (by assumption)) (by omega) (by omega)) rfl rfl (.none rfl) ?_
      refine Q_val (V_fieldAddrE rfl rfl (by assumption) (by omega) (by decide)) rfl rfl (.none rfl) ?_
      refine Q_val (V_loadS rfl rfl (SlE.rd (by assumption)) x1 (by simp)) rfl rfl (.none rfl) ?_
      refine Q_val (V_move rfl rfl) rfl rfl (.none rfl) ?_
      refine Q_val (V_move rfl rfl) rfl rfl (.none rfl) ?_
      refine Q_val (V_sub_i64 rfl rfl rfl (by omega) (by omega)) rfl rfl (.none rfl) ?_
      refine Q_val (V_idxAddr rfl rfl rfl (SlE.rd (by assumption)) (by omega) (by omega)) rfl rfl (.none rfl) ?_
      refine Q_val (V_fieldAddrE rfl rfl (by assumption) (by omega) (by decide)) rfl rfl (.none rfl) ?_
      refine Q_val (V_loadS rfl rfl (SlE.rd (by assumption)) (by assumption) (by simp)) rfl rfl (.none rfl) ?_
      refine Q_val (V_move rfl rfl) rfl rfl (.none rfl) ?_
      refine Q_val (V_move rfl rfl) rfl rfl (.none rfl) ?_
      refine Q_val (V_sub_i64 rfl rfl rfl (by omega) (by omega)) rfl rfl (.none rfl) ?_
      refine Q_val (V_idxAddr rfl rfl rfl (SlE.rd (by assumption)) (by omega) (by omega)) rfl rfl (.none rfl) ?_
      refine Q_val (V_loadAS rfl rfl (SlE.rd (by assumption)) (by assumption) (by simp) (by rfl)) rfl rfl (.none rfl) ?_
      refine Q_callv (k := 65) (.mk rfl rfl rfl rfl) rfl rfl (.none rfl) (TokSize_call _ _ _ _ _ (by omega)) ?_
      refine Q_val (V_add_i64 rfl rfl rfl (by omega) (by omega)) rfl rfl (.none rfl) ?_
      refine Q_val (V_neq rfl rfl rfl) rfl rfl (.none rfl) ?_
      refine Q_end ?_
      refine X_then ?_
      refine G_cond_f rfl (decide_eq_false (by omega)) ?_
      refine G_skip (X_block (X_then (G_region ?_)))
      refine Gm ?_
      refine Gv (V_add_i64 rfl rfl rfl (by omega) (by omega)) ?_
      refine Ga ?_
      refine G_end (X_then ?_)
      refine G_again (k + 1 + 1) ⟨by omega, .inr (by omega), fun j h1 h2 hj => ?_⟩ (by omega) ⟨rfl, rfl, rfl, trivial⟩ rfl rfl
      by_cases hjk : j = k + 1
      · subst hjk; exact he
      · exact hall j h1 (by omega) hj
    · have he2 : ¬ l[k + 1].at' = l[k].at' + (2 + l[k].text.length) := he
      have h9 : placM at' part.length l e ea = 9 := by
        unfold placM
        rw [if_pos (contB_no (i := k + 1) (by omega) hlt he)]
      rw [h9]
      refine G_seq (G_seq (G_region ?_))
      refine Gm ?_
      refine Gm ?_
      refine Gv (V_lenS rfl rfl) ?_
      refine Gv (V_lss rfl rfl rfl) ?_
      refine G_end (X_then ?_)
      refine G_cond_t rfl (decide_eq_true (by omega)) ?_
      refine G_skip (X_then (G_seq (G_block (G_seq ?_))))
      refine G_draw mixed (by kernel_rfl) ?_
      refine Q_val (V_move rfl rfl) rfl rfl (.none rfl) ?_
      refine Q_val (V_move rfl rfl) rfl rfl (.none rfl) ?_
      refine Q_val (V_idxAddr rfl rfl rfl (SlE.rd (by assumption)) (by omega) (by omega)) rfl rfl (.none rfl) ?_
      refine Q_val (V_fieldAddrE rfl rfl (by assumption) (by omega) (by decide)) rfl rfl (.none rfl) ?_
      refine Q_val (V_loadS rfl rfl (SlE.rd (by assumption)) x1 (by simp)) rfl rfl (.none rfl) ?_
      refine Q_val (V_move rfl rfl) rfl rfl (.none rfl) ?_
      refine Q_val (V_move rfl rfl) rfl rfl (.none rfl) ?_
      refine Q_val (V_sub_i64 rfl rfl rfl (by omega) (by omega)) rfl rfl (.none rfl) ?_
      refine Q_val (V_idxAddr rfl rfl rfl (SlE.rd (by assumption)) (by omega) (by omega)) rfl rfl (.none rfl) ?_
      refine Q_val (V_fieldAddrE rfl rfl (by assumption) (by omega) (by decide)) rfl rfl (.none rfl) ?_
      refine Q_val (V_loadS rfl rfl (SlE.rd (by assumption)) (by assumption) (by simp)) rfl rfl (.none rfl) ?_
      refine Q_val (V_move rfl rfl) rfl rfl (.none rfl) ?_
      refine Q_val (V_move rfl rfl) rfl rfl (.none rfl) ?_
      refine Q_val (V_sub_i64 rfl rfl rfl (by omega) (by omega)) rfl rfl (.none rfl) ?_
      refine Q_val (V_idxAddr rfl rfl rfl (SlE.rd (by assumption)) (by omega) (by omega)) rfl rfl (.none rfl) ?_
      refine Q_val (V_loadAS rfl rfl (SlE.rd (by assumption)) (by assumption) (by simp) (by rfl)) rfl rfl (.none rfl) ?_
      refine Q_callv (k := 65) (.mk rfl rfl rfl rfl) rfl rfl (.none rfl) (TokSize_call _ _ _ _ _ (by omega)) ?_
      refine Q_val (V_add_i64 rfl rfl rfl (by omega) (by omega)) rfl rfl (.none rfl) ?_
      refine Q_val (V_neq rfl rfl rfl) rfl rfl (.none rfl) ?_
      refine Q_end ?_
      refine X_then ?_
      refine G_cond_t rfl (decide_eq_true (by omega)) ?_
      refine G_seq (G_region ?_)
      refine Ga ?_
      refine G_end (X_then (G_ret (X_block_ret (X_then_ret (X_then_ret (X_block_ret (X_then_ret ?_)))))))
      refine G_leaveS (.drop _ (.nil _)) (by exact (.cons (.tmp rfl) (.nil))) rfl ?_ ?_
      · exact (.refl _)
      exact ⟨(by kernel_rfl), rfl⟩
  · have hc : contB l = true := contB_of fun j h1 hj => hall j h1 (by omega) hj
    unfold placM
    rw [if_neg (by rw [hc]; simp)]
    clear hall hi2
    rcases List.eq_nil_or_concat l with rfl | ⟨r, t, rfl⟩
    · obtain rfl : tn = 0 := en
      have he3 : e = 0 ∨ e = 1 ∨ e = 2 := by omega
      simp only [List.length_nil, Nat.lt_irrefl, false_and, or_false]
      rcases he3 with rfl | rfl | rfl
      · rw [if_pos rfl]
        refine G_seq (G_seq (G_region ?_))
        refine Gm ?_
        refine Gm ?_
        refine Gv (V_lenS rfl rfl) ?_
        refine Gv (V_lss rfl rfl rfl) ?_
        refine G_end (X_then ?_)
        refine G_cond_f rfl (decide_eq_false (by omega)) ?_
        refine G_exit (X_then_exit (X_then_exit (X_block_hit (X_then (G_seq (G_region ?_))))))
        refine Gv (V_fieldAddr rfl rfl (by decide)) ?_
        refine Gv (V_fieldAddr rfl rfl (by decide)) ?_
        refine Gv (V_load rfl rfl (Cell.own (.head _) rfl)) ?_
        refine Gv (V_fieldAddr rfl rfl (by decide)) ?_
        refine Gv (V_fieldAddr rfl rfl (by decide)) ?_
        refine Gv (V_load rfl rfl (Cell.own (.head _) rfl)) ?_
        refine Gv (V_len rfl rfl) ?_
        refine Gv (V_sub_i64 rfl rfl rfl (by omega) (by omega)) ?_
        refine Ga ?_
        refine Ga ?_
        refine G_end (X_then (G_seq (G_seq (G_region ?_))))
        refine Gv (V_fieldAddr rfl rfl (by decide)) ?_
        refine Gv (V_fieldAddr rfl rfl (by decide)) ?_
        refine Gv (V_fieldAddr rfl rfl (by decide)) ?_
        refine Gv (V_load rfl rfl (Cell.own (.head _) rfl)) ?_
        refine G_end (X_then (G_block (G_seq (G_region ?_))))
        refine Gv (V_eql rfl rfl rfl) ?_
        refine Ga ?_
        refine G_end (X_then ?_)
        refine G_cond_f rfl (by kernel_rfl) ?_
        refine G_seq (G_region ?_)
        refine Gv (V_eql rfl rfl rfl) ?_
        refine Ga ?_
        refine G_end (X_then ?_)
        refine G_cond_f rfl (by kernel_rfl) ?_
        refine G_skip (X_block (X_then (G_seq (G_region ?_))))
        refine Gm ?_
        refine Ga ?_
        refine G_end (X_then (G_seq (G_seq (G_region ?_))))
        refine Gm ?_
        refine Gv (V_lenS rfl rfl) ?_
        refine Ga ?_
        refine G_end (X_then (G_seq (G_region ?_)))
        refine Gm ?_
        refine Gv (V_gtr rfl rfl rfl) ?_
        refine G_end (X_then ?_)
        refine G_cond_f rfl (by kernel_rfl) ?_
        refine G_skip (X_then (G_seq (G_seq (G_region ?_))))
        refine Gv (V_fieldAddr rfl rfl (by decide)) ?_
        refine Gv (V_fieldAddr rfl rfl (by decide)) ?_
        refine Gv (V_load rfl rfl (Cell.own (.head _) rfl)) ?_
        refine Gv (V_eql rfl rfl rfl) ?_
        refine Gm ?_
        refine G.bool_f 104 rfl (decide_eq_false (by omega)) ?_
        refine Gn ?_
        refine Gn ?_
        refine Gn ?_
        refine Gn ?_
        refine Gn ?_
        refine Gv (V_pick_f rfl rfl rfl) ?_
        refine G_end (X_then ?_)
        refine G_cond_f rfl rfl ?_
        refine G_skip (X_then (G_seq (G_seq (G_region ?_))))
        refine Gm ?_
        refine Gv (V_not rfl rfl) ?_
        refine Gm ?_
        refine G.bool_f 138 rfl (by kernel_rfl) ?_
        refine Gy (V_move rfl rfl) ?_
        refine Gy (V_lss rfl rfl rfl) ?_
        refine Gv (V_pick_f rfl rfl rfl) ?_
        refine Gm ?_
        apply G_joinOr 4 142 146 rfl
        · intro H1
          dsimp only [List.take]
          simp only [Bool.and_eq_true, Bool.or_eq_true, Bool.not_eq_true', Bool.not_eq_false', Bool.and_eq_false_iff, Bool.or_eq_false_iff, Bool.not_not, decide_eq_true_eq, decide_eq_false_iff_not, ne_eq, Decidable.not_not, Bool.decide_eq_true] at H1
          refine Gn ?_
          refine Gn ?_
          refine Gn ?_
          refine Gv (V_pick_t rfl rfl rfl) ?_
          refine G_end ?_
          exact JQ_end 4 rfl rfl (by kernel_rfl)
        · intro H2
          dsimp only [List.take]
          simp only [Bool.and_eq_true, Bool.or_eq_true, Bool.not_eq_true', Bool.not_eq_false', Bool.and_eq_false_iff, Bool.or_eq_false_iff, Bool.not_not, decide_eq_true_eq, decide_eq_false_iff_not, ne_eq, Decidable.not_not, Bool.decide_eq_true] at H2
          refine Gy (V_move rfl rfl) ?_
          refine Gy (V_move rfl rfl) ?_
          refine Gy (V_neq rfl rfl rfl) ?_
          refine Gv (V_pick_f rfl rfl rfl) ?_
          refine G_end ?_
          exact JQ_end 4 rfl rfl (by kernel_rfl)
        dsimp only [List.drop]
        refine G_end (X_then ?_)
        refine G_cond rfl (fun H3 => ?_) (fun H3 => ?_)
        · simp only [Bool.and_eq_true, Bool.or_eq_true, Bool.not_eq_true', Bool.not_eq_false', Bool.and_eq_false_iff, Bool.or_eq_false_iff, Bool.not_not, decide_eq_true_eq, decide_eq_false_iff_not, ne_eq, Decidable.not_not, Bool.decide_eq_true] at H3
          refine G_seq (G_region ?_)
          refine Ga ?_
          refine G_end (X_then (G_ret (X_then_ret ?_)))
          refine G_leaveS (.drop _ (.nil _)) (by exact (.cons (.tmp rfl) (.nil))) rfl ?_ ?_
          · exact (.refl _)
          exact ⟨(by ((try simp only [resVal]); (repeat' split) <;> first | rfl | (exfalso; omega) | (simp_all; done) | (simp_all; omega))), (by rfl)⟩
        simp only [Bool.and_eq_true, Bool.or_eq_true, Bool.not_eq_true', Bool.not_eq_false', Bool.and_eq_false_iff, Bool.or_eq_false_iff, Bool.not_not, decide_eq_true_eq, decide_eq_false_iff_not, ne_eq, Decidable.not_not, Bool.decide_eq_true] at H3
        refine G_skip (X_then (G_seq (G_region ?_)))
        refine Ga ?_
        refine G_end (X_then (G_ret ?_))
        refine G_leaveS (.drop _ (.nil _)) (by exact (.cons (.tmp rfl) (.nil))) rfl ?_ ?_
        · exact (.refl _)
        exact ⟨(by (simp (discharger := omega) only [resVal, if_pos, if_neg]; first | done | rfl)), (by rfl)⟩
      · rw [if_neg (by decide), if_pos rfl]
        refine G_seq (G_seq (G_region ?_))
        refine Gm ?_
        refine Gm ?_
        refine Gv (V_lenS rfl rfl) ?_
        refine Gv (V_lss rfl rfl rfl) ?_
        refine G_end (X_then ?_)
        refine G_cond_f rfl (decide_eq_false (by omega)) ?_
        refine G_exit (X_then_exit (X_then_exit (X_block_hit (X_then (G_seq (G_region ?_))))))
        refine Gv (V_fieldAddr rfl rfl (by decide)) ?_
        refine Gv (V_fieldAddr rfl rfl (by decide)) ?_
        refine Gv (V_load rfl rfl (Cell.own (.head _) rfl)) ?_
        refine Gv (V_fieldAddr rfl rfl (by decide)) ?_
        refine Gv (V_fieldAddr rfl rfl (by decide)) ?_
        refine Gv (V_load rfl rfl (Cell.own (.head _) rfl)) ?_
        refine Gv (V_len rfl rfl) ?_
        refine Gv (V_sub_i64 rfl rfl rfl (by omega) (by omega)) ?_
        refine Ga ?_
        refine Ga ?_
        refine G_end (X_then (G_seq (G_seq (G_region ?_))))
        refine Gv (V_fieldAddr rfl rfl (by decide)) ?_
        refine Gv (V_fieldAddr rfl rfl (by decide)) ?_
        refine Gv (V_fieldAddr rfl rfl (by decide)) ?_
        refine Gv (V_load rfl rfl (Cell.own (.head _) rfl)) ?_
        refine G_end (X_then (G_block (G_seq (G_region ?_))))
        refine Gv (V_eql rfl rfl rfl) ?_
        refine Ga ?_
        refine G_end (X_then ?_)
        refine G_cond_t rfl (by kernel_rfl) ?_
        refine G_seq (G_region ?_)
        refine Gv (V_fieldAddr rfl rfl (by decide)) ?_
        refine Gv (V_fieldAddr rfl rfl (by decide)) ?_
        refine Gv (V_fieldAddr rfl rfl (by decide)) ?_
        refine Gv (V_load rfl rfl (Cell.own (.head _) rfl)) ?_
        refine Ga ?_
        refine G_end (X_then (G_region ?_))
        refine Gv (V_fieldAddr rfl rfl (by decide)) ?_
        refine Gv (V_fieldAddr rfl rfl (by decide)) ?_
        refine Gv (V_load rfl rfl (Cell.own (.head _) rfl)) ?_
        refine Gm ?_
        refine Gv (V_add_i64 rfl rfl rfl (by omega) (by omega)) ?_
        refine Gv (V_geq rfl rfl rfl) ?_
        refine Gm ?_
        apply G_joinAnd 8 62 70 rfl
        · intro H1
          dsimp only [List.take]
          simp only [Bool.and_eq_true, Bool.or_eq_true, Bool.not_eq_true', Bool.not_eq_false', Bool.and_eq_false_iff, Bool.or_eq_false_iff, Bool.not_not, decide_eq_true_eq, decide_eq_false_iff_not, ne_eq, Decidable.not_not, Bool.decide_eq_true] at H1
          refine Gy (V_fieldAddr rfl rfl (by decide)) ?_
          refine Gy (V_fieldAddr rfl rfl (by decide)) ?_
          refine Gy (V_load rfl rfl (Cell.own (.head _) rfl)) ?_
          refine Gy (V_move rfl rfl) ?_
          refine Gy (V_add_i64 rfl rfl rfl (by omega) (by omega)) ?_
          refine Gy (V_add_i64 rfl rfl rfl (by omega) (by omega)) ?_
          refine Gy (V_leq rfl rfl rfl) ?_
          refine Gv (V_pick_t rfl rfl rfl) ?_
          refine G_end ?_
          exact JQ_end 8 rfl rfl (by kernel_rfl)
        · intro H2
          dsimp only [List.take]
          simp only [Bool.and_eq_true, Bool.or_eq_true, Bool.not_eq_true', Bool.not_eq_false', Bool.and_eq_false_iff, Bool.or_eq_false_iff, Bool.not_not, decide_eq_true_eq, decide_eq_false_iff_not, ne_eq, Decidable.not_not, Bool.decide_eq_true] at H2
          refine Gn ?_
          refine Gn ?_
          refine Gn ?_
          refine Gn ?_
          refine Gn ?_
          refine Gn ?_
          refine Gn ?_
          refine Gv (V_pick_f rfl rfl rfl) ?_
          refine G_end ?_
          exact JQ_end 8 rfl rfl (by kernel_rfl)
        dsimp only [List.drop]
        refine Ga ?_
        refine G_end (X_block (X_then (G_seq (G_region ?_))))
        refine Gm ?_
        refine Ga ?_
        refine G_end (X_then (G_seq (G_seq (G_region ?_))))
        refine Gm ?_
        refine Gv (V_lenS rfl rfl) ?_
        refine Ga ?_
        refine G_end (X_then (G_seq (G_region ?_)))
        refine Gm ?_
        refine Gv (V_gtr rfl rfl rfl) ?_
        refine G_end (X_then ?_)
        refine G_cond_f rfl (by kernel_rfl) ?_
        refine G_skip (X_then (G_seq (G_seq (G_region ?_))))
        refine Gv (V_fieldAddr rfl rfl (by decide)) ?_
        refine Gv (V_fieldAddr rfl rfl (by decide)) ?_
        refine Gv (V_load rfl rfl (Cell.own (.head _) rfl)) ?_
        refine Gv (V_eql rfl rfl rfl) ?_
        refine Gm ?_
        refine G.bool_f 104 rfl (decide_eq_false (by omega)) ?_
        refine Gn ?_
        refine Gn ?_
        refine Gn ?_
        refine Gn ?_
        refine Gn ?_
        refine Gv (V_pick_f rfl rfl rfl) ?_
        refine G_end (X_then ?_)
        refine G_cond_f rfl rfl ?_
        refine G_skip (X_then (G_seq (G_seq (G_region ?_))))
        refine Gm ?_
        refine Gv (V_not rfl rfl) ?_
        refine Gm ?_
        apply G_joinOr 3 138 141 rfl
        · intro H3
          dsimp only [List.take]
          simp only [Bool.and_eq_true, Bool.or_eq_true, Bool.not_eq_true', Bool.not_eq_false', Bool.and_eq_false_iff, Bool.or_eq_false_iff, Bool.not_not, decide_eq_true_eq, decide_eq_false_iff_not, ne_eq, Decidable.not_not, Bool.decide_eq_true] at H3
          refine Gn ?_
          refine Gn ?_
          refine Gv (V_pick_t rfl rfl rfl) ?_
          refine G_end ?_
          exact JQ_end 3 rfl rfl (by kernel_rfl)
        · intro H4
          dsimp only [List.take]
          simp only [Bool.and_eq_true, Bool.or_eq_true, Bool.not_eq_true', Bool.not_eq_false', Bool.and_eq_false_iff, Bool.or_eq_false_iff, Bool.not_not, decide_eq_true_eq, decide_eq_false_iff_not, ne_eq, Decidable.not_not, Bool.decide_eq_true] at H4
          refine Gy (V_move rfl rfl) ?_
          refine Gy (V_lss rfl rfl rfl) ?_
          refine Gv (V_pick_f rfl rfl rfl) ?_
          refine G_end ?_
          exact JQ_end 3 rfl rfl (by kernel_rfl)
        dsimp only [List.drop]
        refine Gm ?_
        apply G_joinOr 4 142 146 rfl
        · intro H5
          dsimp only [List.take]
          simp only [Bool.and_eq_true, Bool.or_eq_true, Bool.not_eq_true', Bool.not_eq_false', Bool.and_eq_false_iff, Bool.or_eq_false_iff, Bool.not_not, decide_eq_true_eq, decide_eq_false_iff_not, ne_eq, Decidable.not_not, Bool.decide_eq_true] at H5
          refine Gn ?_
          refine Gn ?_
          refine Gn ?_
          refine Gv (V_pick_t rfl rfl rfl) ?_
          refine G_end ?_
          exact JQ_end 4 rfl rfl (by kernel_rfl)
        · intro H6
          dsimp only [List.take]
          simp only [Bool.and_eq_true, Bool.or_eq_true, Bool.not_eq_true', Bool.not_eq_false', Bool.and_eq_false_iff, Bool.or_eq_false_iff, Bool.not_not, decide_eq_true_eq, decide_eq_false_iff_not, ne_eq, Decidable.not_not, Bool.decide_eq_true] at H6
          refine Gy (V_move rfl rfl) ?_
          refine Gy (V_move rfl rfl) ?_
          refine Gy (V_neq rfl rfl rfl) ?_
          refine Gv (V_pick_f rfl rfl rfl) ?_
          refine G_end ?_
          exact JQ_end 4 rfl rfl (by kernel_rfl)
        dsimp only [List.drop]
        refine G_end (X_then ?_)
        refine G_cond rfl (fun H7 => ?_) (fun H7 => ?_)
        · simp only [Bool.and_eq_true, Bool.or_eq_true, Bool.not_eq_true', Bool.not_eq_false', Bool.and_eq_false_iff, Bool.or_eq_false_iff, Bool.not_not, decide_eq_true_eq, decide_eq_false_iff_not, ne_eq, Decidable.not_not, Bool.decide_eq_true] at H7
          refine G_seq (G_region ?_)
          refine Ga ?_
          refine G_end (X_then (G_ret (X_then_ret ?_)))
          refine G_leaveS (.drop _ (.nil _)) (by exact (.cons (.tmp rfl) (.nil))) rfl ?_ ?_
          · exact (.refl _)
          exact ⟨(by ((try simp only [resVal]); (repeat' split) <;> first | rfl | (exfalso; omega) | (simp_all; done) | (simp_all; omega))), (by rfl)⟩
        simp only [Bool.and_eq_true, Bool.or_eq_true, Bool.not_eq_true', Bool.not_eq_false', Bool.and_eq_false_iff, Bool.or_eq_false_iff, Bool.not_not, decide_eq_true_eq, decide_eq_false_iff_not, ne_eq, Decidable.not_not, Bool.decide_eq_true] at H7
        refine G_skip (X_then (G_seq (G_region ?_)))
        refine Ga ?_
        refine G_end (X_then (G_ret ?_))
        refine G_leaveS (.drop _ (.nil _)) (by exact (.cons (.tmp rfl) (.nil))) rfl ?_ ?_
        · exact (.refl _)
        exact ⟨(by (simp (discharger := omega) only [resVal, if_pos, if_neg]; first | done | rfl)), (by rfl)⟩
      · rw [if_neg (by decide), if_neg (by decide)]
        refine G_seq (G_seq (G_region ?_))
        refine Gm ?_
        refine Gm ?_
        refine Gv (V_lenS rfl rfl) ?_
        refine Gv (V_lss rfl rfl rfl) ?_
        refine G_end (X_then ?_)
        refine G_cond_f rfl (decide_eq_false (by omega)) ?_
        refine G_exit (X_then_exit (X_then_exit (X_block_hit (X_then (G_seq (G_region ?_))))))
        refine Gv (V_fieldAddr rfl rfl (by decide)) ?_
        refine Gv (V_fieldAddr rfl rfl (by decide)) ?_
        refine Gv (V_load rfl rfl (Cell.own (.head _) rfl)) ?_
        refine Gv (V_fieldAddr rfl rfl (by decide)) ?_
        refine Gv (V_fieldAddr rfl rfl (by decide)) ?_
        refine Gv (V_load rfl rfl (Cell.own (.head _) rfl)) ?_
        refine Gv (V_len rfl rfl) ?_
        refine Gv (V_sub_i64 rfl rfl rfl (by omega) (by omega)) ?_
        refine Ga ?_
        refine Ga ?_
        refine G_end (X_then (G_seq (G_seq (G_region ?_))))
        refine Gv (V_fieldAddr rfl rfl (by decide)) ?_
        refine Gv (V_fieldAddr rfl rfl (by decide)) ?_
        refine Gv (V_fieldAddr rfl rfl (by decide)) ?_
        refine Gv (V_load rfl rfl (Cell.own (.head _) rfl)) ?_
        refine G_end (X_then (G_block (G_seq (G_region ?_))))
        refine Gv (V_eql rfl rfl rfl) ?_
        refine Ga ?_
        refine G_end (X_then ?_)
        refine G_cond_f rfl (by kernel_rfl) ?_
        refine G_seq (G_region ?_)
        refine Gv (V_eql rfl rfl rfl) ?_
        refine Ga ?_
        refine G_end (X_then ?_)
        refine G_cond_t rfl (by kernel_rfl) ?_
        refine G_seq (G_region ?_)
        refine Gv (V_fieldAddr rfl rfl (by decide)) ?_
        refine Gv (V_fieldAddr rfl rfl (by decide)) ?_
        refine Gv (V_fieldAddr rfl rfl (by decide)) ?_
        refine Gv (V_load rfl rfl (Cell.own (.head _) rfl)) ?_
        refine Ga ?_
        refine G_end (X_then (G_region ?_))
        refine Gv (V_fieldAddr rfl rfl (by decide)) ?_
        refine Gv (V_fieldAddr rfl rfl (by decide)) ?_
        refine Gv (V_load rfl rfl (Cell.own (.head _) rfl)) ?_
        refine Gm ?_
        refine Gv (V_eql rfl rfl rfl) ?_
        refine Ga ?_
        refine G_end (X_block (X_then (G_seq (G_region ?_))))
        refine Gm ?_
        refine Ga ?_
        refine G_end (X_then (G_seq (G_seq (G_region ?_))))
        refine Gm ?_
        refine Gv (V_lenS rfl rfl) ?_
        refine Ga ?_
        refine G_end (X_then (G_seq (G_region ?_)))
        refine Gm ?_
        refine Gv (V_gtr rfl rfl rfl) ?_
        refine G_end (X_then ?_)
        refine G_cond_f rfl (by kernel_rfl) ?_
        refine G_skip (X_then (G_seq (G_seq (G_region ?_))))
        refine Gv (V_fieldAddr rfl rfl (by decide)) ?_
        refine Gv (V_fieldAddr rfl rfl (by decide)) ?_
        refine Gv (V_load rfl rfl (Cell.own (.head _) rfl)) ?_
        refine Gv (V_eql rfl rfl rfl) ?_
        refine Gm ?_
        refine G.bool_f 104 rfl (decide_eq_false (by omega)) ?_
        refine Gn ?_
        refine Gn ?_
        refine Gn ?_
        refine Gn ?_
        refine Gn ?_
        refine Gv (V_pick_f rfl rfl rfl) ?_
        refine G_end (X_then ?_)
        refine G_cond_f rfl rfl ?_
        refine G_skip (X_then (G_seq (G_seq (G_region ?_))))
        refine Gm ?_
        refine Gv (V_not rfl rfl) ?_
        refine Gm ?_
        apply G_joinOr 3 138 141 rfl
        · intro H1
          dsimp only [List.take]
          simp only [Bool.and_eq_true, Bool.or_eq_true, Bool.not_eq_true', Bool.not_eq_false', Bool.and_eq_false_iff, Bool.or_eq_false_iff, Bool.not_not, decide_eq_true_eq, decide_eq_false_iff_not, ne_eq, Decidable.not_not, Bool.decide_eq_true] at H1
          refine Gn ?_
          refine Gn ?_
          refine Gv (V_pick_t rfl rfl rfl) ?_
          refine G_end ?_
          exact JQ_end 3 rfl rfl (by kernel_rfl)
        · intro H2
          dsimp only [List.take]
          simp only [Bool.and_eq_true, Bool.or_eq_true, Bool.not_eq_true', Bool.not_eq_false', Bool.and_eq_false_iff, Bool.or_eq_false_iff, Bool.not_not, decide_eq_true_eq, decide_eq_false_iff_not, ne_eq, Decidable.not_not, Bool.decide_eq_true] at H2
          refine Gy (V_move rfl rfl) ?_
          refine Gy (V_lss rfl rfl rfl) ?_
          refine Gv (V_pick_f rfl rfl rfl) ?_
          refine G_end ?_
          exact JQ_end 3 rfl rfl (by kernel_rfl)
        dsimp only [List.drop]
        refine Gm ?_
        apply G_joinOr 4 142 146 rfl
        · intro H3
          dsimp only [List.take]
          simp only [Bool.and_eq_true, Bool.or_eq_true, Bool.not_eq_true', Bool.not_eq_false', Bool.and_eq_false_iff, Bool.or_eq_false_iff, Bool.not_not, decide_eq_true_eq, decide_eq_false_iff_not, ne_eq, Decidable.not_not, Bool.decide_eq_true] at H3
          refine Gn ?_
          refine Gn ?_
          refine Gn ?_
          refine Gv (V_pick_t rfl rfl rfl) ?_
          refine G_end ?_
          exact JQ_end 4 rfl rfl (by kernel_rfl)
        · intro H4
          dsimp only [List.take]
          simp only [Bool.and_eq_true, Bool.or_eq_true, Bool.not_eq_true', Bool.not_eq_false', Bool.and_eq_false_iff, Bool.or_eq_false_iff, Bool.not_not, decide_eq_true_eq, decide_eq_false_iff_not, ne_eq, Decidable.not_not, Bool.decide_eq_true] at H4
          refine Gy (V_move rfl rfl) ?_
          refine Gy (V_move rfl rfl) ?_
          refine Gy (V_neq rfl rfl rfl) ?_
          refine Gv (V_pick_f rfl rfl rfl) ?_
          refine G_end ?_
          exact JQ_end 4 rfl rfl (by kernel_rfl)
        dsimp only [List.drop]
        refine G_end (X_then ?_)
        refine G_cond rfl (fun H5 => ?_) (fun H5 => ?_)
        · simp only [Bool.and_eq_true, Bool.or_eq_true, Bool.not_eq_true', Bool.not_eq_false', Bool.and_eq_false_iff, Bool.or_eq_false_iff, Bool.not_not, decide_eq_true_eq, decide_eq_false_iff_not, ne_eq, Decidable.not_not, Bool.decide_eq_true] at H5
          refine G_seq (G_region ?_)
          refine Ga ?_
          refine G_end (X_then (G_ret (X_then_ret ?_)))
          refine G_leaveS (.drop _ (.nil _)) (by exact (.cons (.tmp rfl) (.nil))) rfl ?_ ?_
          · exact (.refl _)
          exact ⟨(by ((try simp only [resVal]); (repeat' split) <;> first | rfl | (exfalso; omega) | (simp_all; done) | (simp_all; omega))), (by rfl)⟩
        simp only [Bool.and_eq_true, Bool.or_eq_true, Bool.not_eq_true', Bool.not_eq_false', Bool.and_eq_false_iff, Bool.or_eq_false_iff, Bool.not_not, decide_eq_true_eq, decide_eq_false_iff_not, ne_eq, Decidable.not_not, Bool.decide_eq_true] at H5
        refine G_skip (X_then (G_seq (G_region ?_)))
        refine Ga ?_
        refine G_end (X_then (G_ret ?_))
        refine G_leaveS (.drop _ (.nil _)) (by exact (.cons (.tmp rfl) (.nil))) rfl ?_ ?_
        · exact (.refl _)
        exact ⟨(by (simp (discharger := omega) only [resVal, if_pos, if_neg]; first | done | rfl)), (by rfl)⟩
    · rw [List.concat_eq_append] at *
      obtain rfl : tn = r.length + 1 := by rw [en, List.length_append]; rfl
      have q1 := tokB_iff.1 (g6 t (by simp))
      obtain ⟨q11, q12, q13, q14, q15⟩ := q1
      have hln : (r ++ [t]).length = r.length + 1 := by simp
      have hte : tend (r ++ [t]) = t.at' + (2 + t.text.length) := tend_snoc r t
      rw [hte]
      have x2 : (toks (r ++ [t]))[(((r.length + 1 : Nat) : Int) - 1).toNat * 3 + 2]? = some (.int .i64 t.at') := by
        rw [show (((r.length + 1 : Nat) : Int) - 1).toNat = r.length by omega]
        exact toks_at (by simp)
      have x3 : ((toks (r ++ [t])).drop ((((r.length + 1 : Nat) : Int) - 1).toNat * 3)).take 3 = t.cells := by
        rw [show (((r.length + 1 : Nat) : Int) - 1).toNat = r.length by omega]
        exact toks_get (by simp)
      have hlt2 : ¬ (i : Int) < ((r.length + 1 : Nat) : Int) := by omega
      clear hlt
      have he3 : e = 0 ∨ e = 1 ∨ e = 2 := by omega
      have hpos : 0 < (r ++ [t]).length := by omega
      simp only [hpos, true_and]
      clear hc g13 g12 g7 g6 hg
      rcases he3 with rfl | rfl | rfl
      · rw [if_pos rfl]
        refine G_seq (G_seq (G_region ?_))
        refine Gm ?_
        refine Gm ?_
        refine Gv (V_lenS rfl rfl) ?_
        refine Gv (V_lss rfl rfl rfl) ?_
        refine G_end (X_then ?_)
        refine G_cond_f rfl (decide_eq_false (by omega)) ?_
        refine G_exit (X_then_exit (X_then_exit (X_block_hit (X_then (G_seq (G_region ?_))))))
        refine Gv (V_fieldAddr rfl rfl (by decide)) ?_
        refine Gv (V_fieldAddr rfl rfl (by decide)) ?_
        refine Gv (V_load rfl rfl (Cell.own (.head _) rfl)) ?_
        refine Gv (V_fieldAddr rfl rfl (by decide)) ?_
        refine Gv (V_fieldAddr rfl rfl (by decide)) ?_
        refine Gv (V_load rfl rfl (Cell.own (.head _) rfl)) ?_
        refine Gv (V_len rfl rfl) ?_
        refine Gv (V_sub_i64 rfl rfl rfl (by omega) (by omega)) ?_
        refine Ga ?_
        refine Ga ?_
        refine G_end (X_then (G_seq (G_seq (G_region ?_))))
        refine Gv (V_fieldAddr rfl rfl (by decide)) ?_
        refine Gv (V_fieldAddr rfl rfl (by decide)) ?_
        refine Gv (V_fieldAddr rfl rfl (by decide)) ?_
        refine Gv (V_load rfl rfl (Cell.own (.head _) rfl)) ?_
        refine G_end (X_then (G_block (G_seq (G_region ?_))))
        refine Gv (V_eql rfl rfl rfl) ?_
        refine Ga ?_
        refine G_end (X_then ?_)
        refine G_cond_f rfl (by kernel_rfl) ?_
        refine G_seq (G_region ?_)
        refine Gv (V_eql rfl rfl rfl) ?_
        refine Ga ?_
        refine G_end (X_then ?_)
        refine G_cond_f rfl (by kernel_rfl) ?_
        refine G_skip (X_block (X_then (G_seq (G_region ?_))))
        refine Gm ?_
        refine Ga ?_
        refine G_end (X_then (G_seq (G_seq (G_region ?_))))
        refine Gm ?_
        refine Gv (V_lenS rfl rfl) ?_
        refine Ga ?_
        refine G_end (X_then (G_seq (G_region ?_)))
        refine Gm ?_
        refine Gv (V_gtr rfl rfl rfl) ?_
        refine G_end (X_then ?_)
        refine G_cond_t rfl (decide_eq_true (by omega)) ?_
        refine G_draw mixed (by kernel_rfl) ?_
        refine Q_val (V_move rfl rfl) rfl rfl (.none rfl) ?_
        refine Q_val (V_move rfl rfl) rfl rfl (.none rfl) ?_
        refine Q_val (V_sub_i64 rfl rfl rfl (by omega) (by omega)) rfl rfl (.none rfl) ?_
        refine Q_val (V_idxAddr rfl rfl rfl (SlE.rd (by assumption)) (by omega) (by omega)) rfl rfl (.none rfl) ?_
        refine Q_val (V_fieldAddrE rfl rfl (by assumption) (by omega) (by decide)) rfl rfl (.none rfl) ?_
        refine Q_val (V_loadS rfl rfl (SlE.rd (by assumption)) (by assumption) (by simp)) rfl rfl (.none rfl) ?_
        refine Q_val (V_move rfl rfl) rfl rfl (.none rfl) ?_
        refine Q_val (V_move rfl rfl) rfl rfl (.none rfl) ?_
        refine Q_val (V_sub_i64 rfl rfl rfl (by omega) (by omega)) rfl rfl (.none rfl) ?_
        refine Q_val (V_idxAddr rfl rfl rfl (SlE.rd (by assumption)) (by omega) (by omega)) rfl rfl (.none rfl) ?_
        refine Q_val (V_loadAS rfl rfl (SlE.rd (by assumption)) (by assumption) (by simp) (by rfl)) rfl rfl (.none rfl) ?_
        refine Q_callv (k := 65) (.mk rfl rfl rfl rfl) rfl rfl (.none rfl) (TokSize_call _ _ _ _ _ (by omega)) ?_
        refine Q_val (V_add_i64 rfl rfl rfl (by omega) (by omega)) rfl rfl (.none rfl) ?_
        refine Q_val (V_assign rfl rfl) rfl rfl (.none rfl) ?_
        refine Q_end ?_
        refine X_then (G_seq (G_seq (G_region ?_)))
        refine Gv (V_fieldAddr rfl rfl (by decide)) ?_
        refine Gv (V_fieldAddr rfl rfl (by decide)) ?_
        refine Gv (V_load rfl rfl (Cell.own (.head _) rfl)) ?_
        refine Gv (V_eql rfl rfl rfl) ?_
        refine Gm ?_
        refine G.bool_f 104 rfl (decide_eq_false (by omega)) ?_
        refine Gn ?_
        refine Gn ?_
        refine Gn ?_
        refine Gn ?_
        refine Gn ?_
        refine Gv (V_pick_f rfl rfl rfl) ?_
        refine G_end (X_then ?_)
        refine G_cond_f rfl rfl ?_
        refine G_skip (X_then (G_seq (G_seq (G_region ?_))))
        refine Gm ?_
        refine Gv (V_not rfl rfl) ?_
        refine Gm ?_
        refine G.bool_f 138 rfl (by kernel_rfl) ?_
        refine Gy (V_move rfl rfl) ?_
        refine Gy (V_lss rfl rfl rfl) ?_
        refine Gv (V_pick_f rfl rfl rfl) ?_
        refine Gm ?_
        apply G_joinOr 4 142 146 rfl
        · intro H1
          dsimp only [List.take]
          simp only [Bool.and_eq_true, Bool.or_eq_true, Bool.not_eq_true', Bool.not_eq_false', Bool.and_eq_false_iff, Bool.or_eq_false_iff, Bool.not_not, decide_eq_true_eq, decide_eq_false_iff_not, ne_eq, Decidable.not_not, Bool.decide_eq_true] at H1
          refine Gn ?_
          refine Gn ?_
          refine Gn ?_
          refine Gv (V_pick_t rfl rfl rfl) ?_
          refine G_end ?_
          exact JQ_end 4 rfl rfl (by kernel_rfl)
        · intro H2
          dsimp only [List.take]
          simp only [Bool.and_eq_true, Bool.or_eq_true, Bool.not_eq_true', Bool.not_eq_false', Bool.and_eq_false_iff, Bool.or_eq_false_iff, Bool.not_not, decide_eq_true_eq, decide_eq_false_iff_not, ne_eq, Decidable.not_not, Bool.decide_eq_true] at H2
          refine Gy (V_move rfl rfl) ?_
          refine Gy (V_move rfl rfl) ?_
          refine Gy (V_neq rfl rfl rfl) ?_
          refine Gv (V_pick_f rfl rfl rfl) ?_
          refine G_end ?_
          exact JQ_end 4 rfl rfl (by kernel_rfl)
        dsimp only [List.drop]
        refine G_end (X_then ?_)
        refine G_cond rfl (fun H3 => ?_) (fun H3 => ?_)
        · simp only [Bool.and_eq_true, Bool.or_eq_true, Bool.not_eq_true', Bool.not_eq_false', Bool.and_eq_false_iff, Bool.or_eq_false_iff, Bool.not_not, decide_eq_true_eq, decide_eq_false_iff_not, ne_eq, Decidable.not_not, Bool.decide_eq_true] at H3
          refine G_seq (G_region ?_)
          refine Ga ?_
          refine G_end (X_then (G_ret (X_then_ret ?_)))
          refine G_leaveS (.drop _ (.nil _)) (by exact (.cons (.tmp rfl) (.nil))) rfl ?_ ?_
          · exact (.refl _)
          exact ⟨(by (simp (discharger := omega) only [resVal, if_pos, if_neg]; first | done | rfl)), (by rfl)⟩
        simp only [Bool.and_eq_true, Bool.or_eq_true, Bool.not_eq_true', Bool.not_eq_false', Bool.and_eq_false_iff, Bool.or_eq_false_iff, Bool.not_not, decide_eq_true_eq, decide_eq_false_iff_not, ne_eq, Decidable.not_not, Bool.decide_eq_true] at H3
        refine G_skip (X_then (G_seq (G_region ?_)))
        refine Ga ?_
        refine G_end (X_then (G_ret ?_))
        refine G_leaveS (.drop _ (.nil _)) (by exact (.cons (.tmp rfl) (.nil))) rfl ?_ ?_
        · exact (.refl _)
        exact ⟨(by (simp (discharger := omega) only [resVal, if_pos, if_neg]; first | done | rfl)), (by rfl)⟩
      · rw [if_neg (by decide), if_pos rfl]
        refine G_seq (G_seq (G_region ?_))
        refine Gm ?_
        refine Gm ?_
        refine Gv (V_lenS rfl rfl) ?_
        refine Gv (V_lss rfl rfl rfl) ?_
        refine G_end (X_then ?_)
        refine G_cond_f rfl (decide_eq_false (by omega)) ?_
        refine G_exit (X_then_exit (X_then_exit (X_block_hit (X_then (G_seq (G_region ?_))))))
        refine Gv (V_fieldAddr rfl rfl (by decide)) ?_
        refine Gv (V_fieldAddr rfl rfl (by decide)) ?_
        refine Gv (V_load rfl rfl (Cell.own (.head _) rfl)) ?_
        refine Gv (V_fieldAddr rfl rfl (by decide)) ?_
        refine Gv (V_fieldAddr rfl rfl (by decide)) ?_
        refine Gv (V_load rfl rfl (Cell.own (.head _) rfl)) ?_
        refine Gv (V_len rfl rfl) ?_
        refine Gv (V_sub_i64 rfl rfl rfl (by omega) (by omega)) ?_
        refine Ga ?_
        refine Ga ?_
        refine G_end (X_then (G_seq (G_seq (G_region ?_))))
        refine Gv (V_fieldAddr rfl rfl (by decide)) ?_
        refine Gv (V_fieldAddr rfl rfl (by decide)) ?_
        refine Gv (V_fieldAddr rfl rfl (by decide)) ?_
        refine Gv (V_load rfl rfl (Cell.own (.head _) rfl)) ?_
        refine G_end (X_then (G_block (G_seq (G_region ?_))))
        refine Gv (V_eql rfl rfl rfl) ?_
        refine Ga ?_
        refine G_end (X_then ?_)
        refine G_cond_t rfl (by kernel_rfl) ?_
        refine G_seq (G_region ?_)
        refine Gv (V_fieldAddr rfl rfl (by decide)) ?_
        refine Gv (V_fieldAddr rfl rfl (by decide)) ?_
        refine Gv (V_fieldAddr rfl rfl (by decide)) ?_
        refine Gv (V_load rfl rfl (Cell.own (.head _) rfl)) ?_
        refine Ga ?_
        refine G_end (X_then (G_region ?_))
        refine Gv (V_fieldAddr rfl rfl (by decide)) ?_
        refine Gv (V_fieldAddr rfl rfl (by decide)) ?_
        refine Gv (V_load rfl rfl (Cell.own (.head _) rfl)) ?_
        refine Gm ?_
        refine Gv (V_add_i64 rfl rfl rfl (by omega) (by omega)) ?_
        refine Gv (V_geq rfl rfl rfl) ?_
        refine Gm ?_
        apply G_joinAnd 8 62 70 rfl
        · intro H1
          dsimp only [List.take]
          simp only [Bool.and_eq_true, Bool.or_eq_true, Bool.not_eq_true', Bool.not_eq_false', Bool.and_eq_false_iff, Bool.or_eq_false_iff, Bool.not_not, decide_eq_true_eq, decide_eq_false_iff_not, ne_eq, Decidable.not_not, Bool.decide_eq_true] at H1
          refine Gy (V_fieldAddr rfl rfl (by decide)) ?_
          refine Gy (V_fieldAddr rfl rfl (by decide)) ?_
          refine Gy (V_load rfl rfl (Cell.own (.head _) rfl)) ?_
          refine Gy (V_move rfl rfl) ?_
          refine Gy (V_add_i64 rfl rfl rfl (by omega) (by omega)) ?_
          refine Gy (V_add_i64 rfl rfl rfl (by omega) (by omega)) ?_
          refine Gy (V_leq rfl rfl rfl) ?_
          refine Gv (V_pick_t rfl rfl rfl) ?_
          refine G_end ?_
          exact JQ_end 8 rfl rfl (by kernel_rfl)
        · intro H2
          dsimp only [List.take]
          simp only [Bool.and_eq_true, Bool.or_eq_true, Bool.not_eq_true', Bool.not_eq_false', Bool.and_eq_false_iff, Bool.or_eq_false_iff, Bool.not_not, decide_eq_true_eq, decide_eq_false_iff_not, ne_eq, Decidable.not_not, Bool.decide_eq_true] at H2
          refine Gn ?_
          refine Gn ?_
          refine Gn ?_
          refine Gn ?_
          refine Gn ?_
          refine Gn ?_
          refine Gn ?_
          refine Gv (V_pick_f rfl rfl rfl) ?_
          refine G_end ?_
          exact JQ_end 8 rfl rfl (by kernel_rfl)
        dsimp only [List.drop]
        refine Ga ?_
        refine G_end (X_block (X_then (G_seq (G_region ?_))))
        refine Gm ?_
        refine Ga ?_
        refine G_end (X_then (G_seq (G_seq (G_region ?_))))
        refine Gm ?_
        refine Gv (V_lenS rfl rfl) ?_
        refine Ga ?_
        refine G_end (X_then (G_seq (G_region ?_)))
        refine Gm ?_
        refine Gv (V_gtr rfl rfl rfl) ?_
        refine G_end (X_then ?_)
        refine G_cond_t rfl (decide_eq_true (by omega)) ?_
        refine G_draw mixed (by kernel_rfl) ?_
        refine Q_val (V_move rfl rfl) rfl rfl (.none rfl) ?_
        refine Q_val (V_move rfl rfl) rfl rfl (.none rfl) ?_
        refine Q_val (V_sub_i64 rfl rfl rfl (by omega) (by omega)) rfl rfl (.none rfl) ?_
        refine Q_val (V_idxAddr rfl rfl rfl (SlE.rd (by assumption)) (by omega) (by omega)) rfl rfl (.none rfl) ?_
        refine Q_val (V_fieldAddrE rfl rfl (by assumption) (by omega) (by decide)) rfl rfl (.none rfl) ?_
        refine Q_val (V_loadS rfl rfl (SlE.rd (by assumption)) (by assumption) (by simp)) rfl rfl (.none rfl) ?_
        refine Q_val (V_move rfl rfl) rfl rfl (.none rfl) ?_
        refine Q_val (V_move rfl rfl) rfl rfl (.none rfl) ?_
        refine Q_val (V_sub_i64 rfl rfl rfl (by omega) (by omega)) rfl rfl (.none rfl) ?_
        refine Q_val (V_idxAddr rfl rfl rfl (SlE.rd (by assumption)) (by omega) (by omega)) rfl rfl (.none rfl) ?_
        refine Q_val (V_loadAS rfl rfl (SlE.rd (by assumption)) (by assumption) (by simp) (by rfl)) rfl rfl (.none rfl) ?_
        refine Q_callv (k := 65) (.mk rfl rfl rfl rfl) rfl rfl (.none rfl) (TokSize_call _ _ _ _ _ (by omega)) ?_
        refine Q_val (V_add_i64 rfl rfl rfl (by omega) (by omega)) rfl rfl (.none rfl) ?_
        refine Q_val (V_assign rfl rfl) rfl rfl (.none rfl) ?_
        refine Q_end ?_
        refine X_then (G_seq (G_seq (G_region ?_)))
        refine Gv (V_fieldAddr rfl rfl (by decide)) ?_
        refine Gv (V_fieldAddr rfl rfl (by decide)) ?_
        refine Gv (V_load rfl rfl (Cell.own (.head _) rfl)) ?_
        refine Gv (V_eql rfl rfl rfl) ?_
        refine Gm ?_
        refine G.bool_f 104 rfl (decide_eq_false (by omega)) ?_
        refine Gn ?_
        refine Gn ?_
        refine Gn ?_
        refine Gn ?_
        refine Gn ?_
        refine Gv (V_pick_f rfl rfl rfl) ?_
        refine G_end (X_then ?_)
        refine G_cond_f rfl rfl ?_
        refine G_skip (X_then (G_seq (G_seq (G_region ?_))))
        refine Gm ?_
        refine Gv (V_not rfl rfl) ?_
        refine Gm ?_
        apply G_joinOr 3 138 141 rfl
        · intro H3
          dsimp only [List.take]
          simp only [Bool.and_eq_true, Bool.or_eq_true, Bool.not_eq_true', Bool.not_eq_false', Bool.and_eq_false_iff, Bool.or_eq_false_iff, Bool.not_not, decide_eq_true_eq, decide_eq_false_iff_not, ne_eq, Decidable.not_not, Bool.decide_eq_true] at H3
          refine Gn ?_
          refine Gn ?_
          refine Gv (V_pick_t rfl rfl rfl) ?_
          refine G_end ?_
          exact JQ_end 3 rfl rfl (by kernel_rfl)
        · intro H4
          dsimp only [List.take]
          simp only [Bool.and_eq_true, Bool.or_eq_true, Bool.not_eq_true', Bool.not_eq_false', Bool.and_eq_false_iff, Bool.or_eq_false_iff, Bool.not_not, decide_eq_true_eq, decide_eq_false_iff_not, ne_eq, Decidable.not_not, Bool.decide_eq_true] at H4
          refine Gy (V_move rfl rfl) ?_
          refine Gy (V_lss rfl rfl rfl) ?_
          refine Gv (V_pick_f rfl rfl rfl) ?_
          refine G_end ?_
          exact JQ_end 3 rfl rfl (by kernel_rfl)
        dsimp only [List.drop]
        refine Gm ?_
        apply G_joinOr 4 142 146 rfl
        · intro H5
          dsimp only [List.take]
          simp only [Bool.and_eq_true, Bool.or_eq_true, Bool.not_eq_true', Bool.not_eq_false', Bool.and_eq_false_iff, Bool.or_eq_false_iff, Bool.not_not, decide_eq_true_eq, decide_eq_false_iff_not, ne_eq, Decidable.not_not, Bool.decide_eq_true] at H5
          refine Gn ?_
          refine Gn ?_
          refine Gn ?_
          refine Gv (V_pick_t rfl rfl rfl) ?_
          refine G_end ?_
          exact JQ_end 4 rfl rfl (by kernel_rfl)
        · intro H6
          dsimp only [List.take]
          simp only [Bool.and_eq_true, Bool.or_eq_true, Bool.not_eq_true', Bool.not_eq_false', Bool.and_eq_false_iff, Bool.or_eq_false_iff, Bool.not_not, decide_eq_true_eq, decide_eq_false_iff_not, ne_eq, Decidable.not_not, Bool.decide_eq_true] at H6
          refine Gy (V_move rfl rfl) ?_
          refine Gy (V_move rfl rfl) ?_
          refine Gy (V_neq rfl rfl rfl) ?_
          refine Gv (V_pick_f rfl rfl rfl) ?_
          refine G_end ?_
          exact JQ_end 4 rfl rfl (by kernel_rfl)
        dsimp only [List.drop]
        refine G_end (X_then ?_)
        refine G_cond rfl (fun H7 => ?_) (fun H7 => ?_)
        · simp only [Bool.and_eq_true, Bool.or_eq_true, Bool.not_eq_true', Bool.not_eq_false', Bool.and_eq_false_iff, Bool.or_eq_false_iff, Bool.not_not, decide_eq_true_eq, decide_eq_false_iff_not, ne_eq, Decidable.not_not, Bool.decide_eq_true] at H7
          refine G_seq (G_region ?_)
          refine Ga ?_
          refine G_end (X_then (G_ret (X_then_ret ?_)))
          refine G_leaveS (.drop _ (.nil _)) (by exact (.cons (.tmp rfl) (.nil))) rfl ?_ ?_
          · exact (.refl _)
          exact ⟨(by (simp (discharger := omega) only [resVal, if_pos, if_neg]; first | done | rfl)), (by rfl)⟩
        simp only [Bool.and_eq_true, Bool.or_eq_true, Bool.not_eq_true', Bool.not_eq_false', Bool.and_eq_false_iff, Bool.or_eq_false_iff, Bool.not_not, decide_eq_true_eq, decide_eq_false_iff_not, ne_eq, Decidable.not_not, Bool.decide_eq_true] at H7
        refine G_skip (X_then (G_seq (G_region ?_)))
        refine Ga ?_
        refine G_end (X_then (G_ret ?_))
        refine G_leaveS (.drop _ (.nil _)) (by exact (.cons (.tmp rfl) (.nil))) rfl ?_ ?_
        · exact (.refl _)
        exact ⟨(by (simp (discharger := omega) only [resVal, if_pos, if_neg]; first | done | rfl)), (by rfl)⟩
      · rw [if_neg (by decide), if_neg (by decide)]
        refine G_seq (G_seq (G_region ?_))
        refine Gm ?_
        refine Gm ?_
        refine Gv (V_lenS rfl rfl) ?_
        refine Gv (V_lss rfl rfl rfl) ?_
        refine G_end (X_then ?_)
        refine G_cond_f rfl (decide_eq_false (by omega)) ?_
        refine G_exit (X_then_exit (X_then_exit (X_block_hit (X_then (G_seq (G_region ?_))))))
        refine Gv (V_fieldAddr rfl rfl (by decide)) ?_
        refine Gv (V_fieldAddr rfl rfl (by decide)) ?_
        refine Gv (V_load rfl rfl (Cell.own (.head _) rfl)) ?_
        refine Gv (V_fieldAddr rfl rfl (by decide)) ?_
        refine Gv (V_fieldAddr rfl rfl (by decide)) ?_
        refine Gv (V_load rfl rfl (Cell.own (.head _) rfl)) ?_
        refine Gv (V_len rfl rfl) ?_
        refine Gv (V_sub_i64 rfl rfl rfl (by omega) (by omega)) ?_
        refine Ga ?_
        refine Ga ?_
        refine G_end (X_then (G_seq (G_seq (G_region ?_))))
        refine Gv (V_fieldAddr rfl rfl (by decide)) ?_
        refine Gv (V_fieldAddr rfl rfl (by decide)) ?_
        refine Gv (V_fieldAddr rfl rfl (by decide)) ?_
        refine Gv (V_load rfl rfl (Cell.own (.head _) rfl)) ?_
        refine G_end (X_then (G_block (G_seq (G_region ?_))))
        refine Gv (V_eql rfl rfl rfl) ?_
        refine Ga ?_
        refine G_end (X_then ?_)
        refine G_cond_f rfl (by kernel_rfl) ?_
        refine G_seq (G_region ?_)
        refine Gv (V_eql rfl rfl rfl) ?_
        refine Ga ?_
        refine G_end (X_then ?_)
        refine G_cond_t rfl (by kernel_rfl) ?_
        refine G_seq (G_region ?_)
        refine Gv (V_fieldAddr rfl rfl (by decide)) ?_
        refine Gv (V_fieldAddr rfl rfl (by decide)) ?_
        refine Gv (V_fieldAddr rfl rfl (by decide)) ?_
        refine Gv (V_load rfl rfl (Cell.own (.head _) rfl)) ?_
        refine Ga ?_
        refine G_end (X_then (G_region ?_))
        refine Gv (V_fieldAddr rfl rfl (by decide)) ?_
        refine Gv (V_fieldAddr rfl rfl (by decide)) ?_
        refine Gv (V_load rfl rfl (Cell.own (.head _) rfl)) ?_
        refine Gm ?_
        refine Gv (V_eql rfl rfl rfl) ?_
        refine Ga ?_
        refine G_end (X_block (X_then (G_seq (G_region ?_))))
        refine Gm ?_
        refine Ga ?_
        refine G_end (X_then (G_seq (G_seq (G_region ?_))))
        refine Gm ?_
        refine Gv (V_lenS rfl rfl) ?_
        refine Ga ?_
        refine G_end (X_then (G_seq (G_region ?_)))
        refine Gm ?_
        refine Gv (V_gtr rfl rfl rfl) ?_
        refine G_end (X_then ?_)
        refine G_cond_t rfl (decide_eq_true (by omega)) ?_
        refine G_draw mixed (by kernel_rfl) ?_
        refine Q_val (V_move rfl rfl) rfl rfl (.none rfl) ?_
        refine Q_val (V_move rfl rfl) rfl rfl (.none rfl) ?_
        refine Q_val (V_sub_i64 rfl rfl rfl (by omega) (by omega)) rfl rfl (.none rfl) ?_
        refine Q_val (V_idxAddr rfl rfl rfl (SlE.rd (by assumption)) (by omega) (by omega)) rfl rfl (.none rfl) ?_
        refine Q_val (V_fieldAddrE rfl rfl (by assumption) (by omega) (by decide)) rfl rfl (.none rfl) ?_
        refine Q_val (V_loadS rfl rfl (SlE.rd (by assumption)) (by assumption) (by simp)) rfl rfl (.none rfl) ?_
        refine Q_val (V_move rfl rfl) rfl rfl (.none rfl) ?_
        refine Q_val (V_move rfl rfl) rfl rfl (.none rfl) ?_
        refine Q_val (V_sub_i64 rfl rfl rfl (by omega) (by omega)) rfl rfl (.none rfl) ?_
        refine Q_val (V_idxAddr rfl rfl rfl (SlE.rd (by assumption)) (by omega) (by omega)) rfl rfl (.none rfl) ?_
        refine Q_val (V_loadAS rfl rfl (SlE.rd (by assumption)) (by assumption) (by simp) (by rfl)) rfl rfl (.none rfl) ?_
        refine Q_callv (k := 65) (.mk rfl rfl rfl rfl) rfl rfl (.none rfl) (TokSize_call _ _ _ _ _ (by omega)) ?_
        refine Q_val (V_add_i64 rfl rfl rfl (by omega) (by omega)) rfl rfl (.none rfl) ?_
        refine Q_val (V_assign rfl rfl) rfl rfl (.none rfl) ?_
        refine Q_end ?_
        refine X_then (G_seq (G_seq (G_region ?_)))
        refine Gv (V_fieldAddr rfl rfl (by decide)) ?_
        refine Gv (V_fieldAddr rfl rfl (by decide)) ?_
        refine Gv (V_load rfl rfl (Cell.own (.head _) rfl)) ?_
        refine Gv (V_eql rfl rfl rfl) ?_
        refine Gm ?_
        refine G.bool_f 104 rfl (decide_eq_false (by omega)) ?_
        refine Gn ?_
        refine Gn ?_
        refine Gn ?_
        refine Gn ?_
        refine Gn ?_
        refine Gv (V_pick_f rfl rfl rfl) ?_
        refine G_end (X_then ?_)
        refine G_cond_f rfl rfl ?_
        refine G_skip (X_then (G_seq (G_seq (G_region ?_))))
        refine Gm ?_
        refine Gv (V_not rfl rfl) ?_
        refine Gm ?_
        apply G_joinOr 3 138 141 rfl
        · intro H1
          dsimp only [List.take]
          simp only [Bool.and_eq_true, Bool.or_eq_true, Bool.not_eq_true', Bool.not_eq_false', Bool.and_eq_false_iff, Bool.or_eq_false_iff, Bool.not_not, decide_eq_true_eq, decide_eq_false_iff_not, ne_eq, Decidable.not_not, Bool.decide_eq_true] at H1
          refine Gn ?_
          refine Gn ?_
          refine Gv (V_pick_t rfl rfl rfl) ?_
          refine G_end ?_
          exact JQ_end 3 rfl rfl (by kernel_rfl)
        · intro H2
          dsimp only [List.take]
          simp only [Bool.and_eq_true, Bool.or_eq_true, Bool.not_eq_true', Bool.not_eq_false', Bool.and_eq_false_iff, Bool.or_eq_false_iff, Bool.not_not, decide_eq_true_eq, decide_eq_false_iff_not, ne_eq, Decidable.not_not, Bool.decide_eq_true] at H2
          refine Gy (V_move rfl rfl) ?_
          refine Gy (V_lss rfl rfl rfl) ?_
          refine Gv (V_pick_f rfl rfl rfl) ?_
          refine G_end ?_
          exact JQ_end 3 rfl rfl (by kernel_rfl)
        dsimp only [List.drop]
        refine Gm ?_
        apply G_joinOr 4 142 146 rfl
        · intro H3
          dsimp only [List.take]
          simp only [Bool.and_eq_true, Bool.or_eq_true, Bool.not_eq_true', Bool.not_eq_false', Bool.and_eq_false_iff, Bool.or_eq_false_iff, Bool.not_not, decide_eq_true_eq, decide_eq_false_iff_not, ne_eq, Decidable.not_not, Bool.decide_eq_true] at H3
          refine Gn ?_
          refine Gn ?_
          refine Gn ?_
          refine Gv (V_pick_t rfl rfl rfl) ?_
          refine G_end ?_
          exact JQ_end 4 rfl rfl (by kernel_rfl)
        · intro H4
          dsimp only [List.take]
          simp only [Bool.and_eq_true, Bool.or_eq_true, Bool.not_eq_true', Bool.not_eq_false', Bool.and_eq_false_iff, Bool.or_eq_false_iff, Bool.not_not, decide_eq_true_eq, decide_eq_false_iff_not, ne_eq, Decidable.not_not, Bool.decide_eq_true] at H4
          refine Gy (V_move rfl rfl) ?_
          refine Gy (V_move rfl rfl) ?_
          refine Gy (V_neq rfl rfl rfl) ?_
          refine Gv (V_pick_f rfl rfl rfl) ?_
          refine G_end ?_
          exact JQ_end 4 rfl rfl (by kernel_rfl)
        dsimp only [List.drop]
        refine G_end (X_then ?_)
        refine G_cond rfl (fun H5 => ?_) (fun H5 => ?_)
        · simp only [Bool.and_eq_true, Bool.or_eq_true, Bool.not_eq_true', Bool.not_eq_false', Bool.and_eq_false_iff, Bool.or_eq_false_iff, Bool.not_not, decide_eq_true_eq, decide_eq_false_iff_not, ne_eq, Decidable.not_not, Bool.decide_eq_true] at H5
          refine G_seq (G_region ?_)
          refine Ga ?_
          refine G_end (X_then (G_ret (X_then_ret ?_)))
          refine G_leaveS (.drop _ (.nil _)) (by exact (.cons (.tmp rfl) (.nil))) rfl ?_ ?_
          · exact (.refl _)
          exact ⟨(by (simp (discharger := omega) only [resVal, if_pos, if_neg]; first | done | rfl)), (by rfl)⟩
        simp only [Bool.and_eq_true, Bool.or_eq_true, Bool.not_eq_true', Bool.not_eq_false', Bool.and_eq_false_iff, Bool.or_eq_false_iff, Bool.not_not, decide_eq_true_eq, decide_eq_false_iff_not, ne_eq, Decidable.not_not, Bool.decide_eq_true] at H5
        refine G_skip (X_then (G_seq (G_region ?_)))
        refine Ga ?_
        refine G_end (X_then (G_ret ?_))
        refine G_leaveS (.drop _ (.nil _)) (by exact (.cons (.tmp rfl) (.nil))) rfl ?_ ?_
        · exact (.refl _)
        exact ⟨(by (simp (discharger := omega) only [resVal, if_pos, if_neg]; first | done | rfl)), (by rfl)⟩
end
end Go.Proofs.YtimiokmgnclggaaGreat
namespace Go.Proofs.YtimiokmgnclggaaGreat
open Go.RowKit
section rules
variable {P : Program} {ro : Option Nat} {n : Nat} {ds : List Deferred} {fs : List (Nat × Value)} {E : Env} {L : List Res} {ops : Array Oper} {Q : Exit → Act → World → Prop} {rest : List Oper} {o : Oper}
theorem G_callF {k : FuncId} [Ent P k] {f : Operand} {xs : List Operand} {ts : Array TypeId} {vs : List Value} {first cap args : Array Value} {d : Nat} {r : Value} (ho : o.op = .call { callee := .value f, args := xs.toArray, argTypes := ts })
    (hf : ev fs f = some (.func (.func k) first cap)) (hx : xs.mapM (ev fs) = some vs) (ha : args = first ++ vs.toArray ++ cap) (hd : o.dst = some d) (hn : Nat.blt d n = true) (hg : Goes ops fs o)
    (hc : CallV P k args E L r) (h : G n ds ((d, r) :: fs) E L (wpListIn (Wd ro) 0 P ops Q rest)) : G n ds fs E L (wpListIn (Wd ro) 0 P ops Q (o :: rest)) :=
  G_any hg (by rw [ho]; intro c hc; cases hc) fun a w hfr hw => by
    have e1 := evs_args hfr hx
    have e2 := hfr.eval hf
    have hrun : (execOp a.eval o).run P w = .ok (.enter k args) w := by
      subst ha
      simp only [execOp, ho, resolve, e2, Deferred.ofValue, e1]
      simp [invoke, Ent.ent]
    rw [hrun]
    simp only [Oper.uponIn_enter]
    refine ⟨fun h => by simp [Wd] at h, (Wd.calls (CallS.ofV hc w hw)).mono ?_⟩
    rintro e w' ⟨r', E', L', rfl, hE, hs, h1, h2, h3⟩
    subst h1 h2 h3
    simp only [hd]
    exact h _ _ (hfr.put hn _) hs
end rules
end Go.Proofs.YtimiokmgnclggaaGreat
set_option linter.unusedSimpArgs false
set_option linter.unusedVariables false
set_option maxHeartbeats 2000000
set_option maxRecDepth 20000
namespace Go.Proofs.YtimiokmgnclggaaGreat
open Go.RowKit
/-! config.Check: the first error of the checks. -/
def fz : List Int → Int
  | [] => 0
  | r :: l => if r ≠ 0 then r else fz l
theorem fz_at : ∀ (l : List Int) (i : Nat) (r : Int), (∀ j, j < i → l[j]? = some 0) → l[i]? = some r → r ≠ 0 → fz l = r := by
  intro l
  induction l with
  | nil => intro i r _ h; simp at h
  | cons x l ih =>
    intro i r h0 h1 h2
    cases i with
    | zero =>
      simp only [List.getElem?_cons_zero, Option.some.injEq] at h1
      subst h1
      simp [fz, h2]
    | succ i =>
      have hx : x = 0 := by simpa using h0 0 (by omega)
      subst hx
      simp only [fz, ne_eq, not_true_eq_false, if_false]
      exact ih i r (fun j hj => by simpa using h0 (j + 1) (by omega)) (by simpa using h1) h2
theorem fz_none : ∀ (l : List Int), (∀ j, j < l.length → l[j]? = some 0) → fz l = 0 := by
  intro l
  induction l with
  | nil => intro _; rfl
  | cons x l ih =>
    intro h
    have hx : x = 0 := by simpa using h 0 (by simp)
    subst hx
    simp only [fz, ne_eq, not_true_eq_false, if_false]
    exact ih fun j hj => by simpa using h (j + 1) (by simp; omega)
section
variable (E : Env) (L : List Res) (st rc at' : Int) (part : List UInt8) (tp : Option Addr) (tn tc : Nat) (e ea : Int) (b : Bool) (sp : Option Addr) (sn sc : Nat)
theorem cspots_call (gk : Int) (gp : Option Addr) (gn gc : Nat) (sep : List UInt8) (np : Option Addr) (nn nc : Nat) (start : Int) (pp : Option Addr) (pn pc : Nat) (g : Gr) (hg : GrE E (.agg #[.int .i64 gk, .slice gp gn gc, .string (S sep), .slice np nn nc, .int .i64 start, .slice pp pn pc]) g) (hl : Light g) (l : List Spt) (hs : SlE E 2 sp sn (spC l)) (hn : sn ≤ 9223372036854775807) :
    CallV Tryz.prog 35 #[ckV st rc at' part tp tn tc e ea b sp sn sc gk gp gn gc sep np nn nc start pp pn pc] E L (.int .i64 (chkS g l)) := by
  have hc := fun L0 => SCheck_call E L0 _ g hg hl sp sn sc l hs hn
  generalize chkS g l = x at *
  refine CallS.toV (CallS.intro (l := [_]) _ Tryz.func35 rfl Tryz.ntmps35 rfl ?_)
  refine G_seq (G_region ?_)
  (refine G_boxA rfl rfl rfl rfl (.none rfl) ?_; intro b1)
  refine Ga ?_
  refine G_end (X_then (G_seq (G_region ?_)))
  refine Gv (V_fieldAddr rfl rfl (by decide)) ?_
  refine Gv (V_loadF rfl rfl (.head _) (by simp only [Nat.zero_add, List.drop_succ_cons, List.drop_zero, List.take_succ_cons, List.take_zero]; rfl) (by rfl)) ?_
  refine Gv (V_fieldAddr rfl rfl (by decide)) ?_
  refine Gv (V_fieldAddr rfl rfl (by decide)) ?_
  refine Gv (V_load rfl rfl (Cell.own (.head _) rfl)) ?_
  refine G_callv (k := 51) (.mk rfl rfl rfl rfl) rfl rfl (.none rfl) (hc _) ?_
  refine Ga ?_
  refine G_end (X_then (G_ret ?_))
  refine G_leaveS (.drop _ (.nil _)) (by exact (.cons (.tmp rfl) (.nil))) rfl ?_ ?_
  · exact (.refl _)
  exact ⟨rfl, rfl⟩
theorem CCheck_core (g : Gr) (tp' : Option Addr) (tc' : Nat) (np : Option Addr) (nc : Nat) (pp : Option Addr) (pc : Nat)
    (hg : GrE E (.agg #[.int .i64 g.k, .slice tp' g.toks.length tc', .string (S g.sep), .slice np g.names.length nc, .int .i64 g.start, .slice pp g.prods.length pc]) g) (hl : Light g) (h0 : gcheck g = 0) (r0 r1 r2 r3 r4 r5 r6 r7 : Int)
    (x : Value) (hx : x = ckV st rc at' part tp tn tc e ea b sp sn sc g.k tp' g.toks.length tc' g.sep np g.names.length nc g.start pp g.prods.length pc)
    (k0 : ∀ L, CallV Tryz.prog 29 #[x] E L (.int .i64 r0)) (k1 : r0 = 0 → ∀ L, CallV Tryz.prog 30 #[x] E L (.int .i64 r1))
    (k2 : r0 = 0 ∧ r1 = 0 → ∀ L, CallV Tryz.prog 31 #[x] E L (.int .i64 r2))
    (k3 : r0 = 0 ∧ r1 = 0 ∧ r2 = 0 → ∀ L, CallV Tryz.prog 32 #[x] E L (.int .i64 r3))
    (k4 : r0 = 0 ∧ r1 = 0 ∧ r2 = 0 ∧ r3 = 0 → ∀ L, CallV Tryz.prog 33 #[x] E L (.int .i64 r4))
    (k5 : r0 = 0 ∧ r1 = 0 ∧ r2 = 0 ∧ r3 = 0 ∧ r4 = 0 → ∀ L, CallV Tryz.prog 34 #[x] E L (.int .i64 r5))
    (k6 : r0 = 0 ∧ r1 = 0 ∧ r2 = 0 ∧ r3 = 0 ∧ r4 = 0 ∧ r5 = 0 → ∀ L, CallV Tryz.prog 35 #[x] E L (.int .i64 r6))
    (k7 : r0 = 0 ∧ r1 = 0 ∧ r2 = 0 ∧ r3 = 0 ∧ r4 = 0 ∧ r5 = 0 ∧ r6 = 0 → ∀ L, CallV Tryz.prog 36 #[x] E L (.int .i64 r7)) :
    CallV Tryz.prog 15 #[.agg #[.int .i64 g.k, .slice tp' g.toks.length tc', .string (S g.sep), .slice np g.names.length nc, .int .i64 g.start, .slice pp g.prods.length pc], cfV st rc at' part tp tn tc e ea b sp sn sc] E L (.int .i64 (fz [r0, r1, r2, r3, r4, r5, r6, r7])) := by
  refine CallS.toV (CallS.intro (l := [_, _]) _ Tryz.func15 rfl Tryz.ntmps15 rfl ?_)
  refine G_seq (G_region ?_)
  (refine G_boxA rfl rfl rfl rfl (.none rfl) ?_; intro b2)
  (refine G_boxA rfl rfl rfl rfl (.none rfl) ?_; intro b3)
  refine Ga ?_
  refine G_end (X_then (G_seq (G_seq (G_region ?_))))
  refine Gv (V_loadA rfl rfl (Cells.own (.tail _ (.head _))) rfl) ?_
  refine G_callv (k := 28) (.mk rfl rfl rfl rfl) rfl rfl (.none rfl) (GCheck_call _ _ _ g hg hl) ?_
  rw [h0]
  refine Ga ?_
  refine G_end (X_then (G_seq (G_region ?_)))
  refine Gm ?_
  refine Gv (V_neq rfl rfl rfl) ?_
  refine G_end (X_then ?_)
  refine G_cond_f rfl (by kernel_rfl) ?_
  refine G_skip (X_then (G_seq (G_region ?_)))
  refine Gv (V_loadA rfl rfl (Cells.own (.head _)) rfl) ?_
  refine Gv (V_loadA rfl rfl (Cells.own (.tail _ (.head _))) rfl) ?_
  refine Gv (V_build rfl rfl (by simp [fillV, setLs, setL, Value.cells]; rfl)) ?_
  (refine G_alloc rfl rfl rfl (.none rfl) ?_; intro b6)
  refine G_storeA rfl rfl rfl rfl (by simp [Value.oneCell']) rfl (.none rfl) (.head _ _ _) rfl ?_
  refine G_end (X_then (G_seq (G_seq (G_region ?_))))
  refine Gv (V_loadA rfl rfl (Cells.own (.head _)) rfl) ?_
  refine Gv (V_makeFunc rfl rfl rfl) ?_
  refine Gv (V_loadA rfl rfl (Cells.own (.head _)) rfl) ?_
  refine Gv (V_makeFunc rfl rfl rfl) ?_
  refine Gv (V_loadA rfl rfl (Cells.own (.head _)) rfl) ?_
  refine Gv (V_makeFunc rfl rfl rfl) ?_
  refine Gv (V_loadA rfl rfl (Cells.own (.head _)) rfl) ?_
  refine Gv (V_makeFunc rfl rfl rfl) ?_
  refine Gv (V_loadA rfl rfl (Cells.own (.head _)) rfl) ?_
  refine Gv (V_makeFunc rfl rfl rfl) ?_
  refine Gv (V_loadA rfl rfl (Cells.own (.head _)) rfl) ?_
  refine Gv (V_makeFunc rfl rfl rfl) ?_
  refine Gv (V_loadA rfl rfl (Cells.own (.head _)) rfl) ?_
  refine Gv (V_makeFunc rfl rfl rfl) ?_
  refine Gv (V_loadA rfl rfl (Cells.own (.head _)) rfl) ?_
  refine Gv (V_makeFunc rfl rfl rfl) ?_
  refine Gv (V_buildArr rfl rfl (by simp [fillS, setLs, setL, Value.cells]; rfl)) ?_
  refine Gm ?_
  refine G_end (X_then (G_block ?_))
  refine G_loop (α := Nat) (fun i => [(34, .agg #[.func (.func 29) #[x] #[], .func (.func 30) #[x] #[], .func (.func 31) #[x] #[], .func (.func 32) #[x] #[], .func (.func 33) #[x] #[], .func (.func 34) #[x] #[], .func (.func 35) #[x] #[], .func (.func 36) #[x] #[]]), (35, .int .i64 (i : Nat))]) (fun _ => E) (fun _ => _)
    (fun i => i ≤ 8 ∧ ∀ j, j < i → [r0, r1, r2, r3, r4, r5, r6, r7][j]? = some 0) (fun i => 8 - i) 0 ⟨by omega, fun j hj => by omega⟩ ⟨by subst hx; rfl, rfl, trivial⟩ rfl rfl ?_
  rintro i ⟨hi, hall⟩
  have c0 : 0 < i → r0 = 0 := fun h => by simpa using hall 0 h
  have c1 : 1 < i → r1 = 0 := fun h => by simpa using hall 1 h
  have c2 : 2 < i → r2 = 0 := fun h => by simpa using hall 2 h
  have c3 : 3 < i → r3 = 0 := fun h => by simpa using hall 3 h
  have c4 : 4 < i → r4 = 0 := fun h => by simpa using hall 4 h
  have c5 : 5 < i → r5 = 0 := fun h => by simpa using hall 5 h
  have c6 : 6 < i → r6 = 0 := fun h => by simpa using hall 6 h
  have hcase : i = 0 ∨ i = 1 ∨ i = 2 ∨ i = 3 ∨ i = 4 ∨ i = 5 ∨ i = 6 ∨ i = 7 ∨ i = 8 := by omega
  rcases hcase with rfl | rfl | rfl | rfl | rfl | rfl | rfl | rfl | rfl
  · refine G_seq ?_
    refine G_region ?_
    refine Gv (V_lss rfl rfl rfl) ?_
    refine G_end (X_then (G_seq ?_))
    refine G_cond_t rfl (by kernel_rfl) ?_
    refine G_skip (X_then (G_seq (G_block (G_seq (G_region ?_)))))
    refine Gv (V_idxArr rfl rfl rfl (by omega) (by omega) rfl) ?_
    refine Ga ?_
    refine G_end (X_then (G_seq (G_region ?_)))
    refine Gm ?_
    refine G_callF (k := 29) rfl rfl rfl rfl rfl rfl (.none rfl) (k0  _) ?_
    by_cases hz : r0 = 0
    · refine Ga ?_
      refine G_end (X_then (G_seq (G_region ?_)))
      refine Gm ?_
      refine Gv (V_neq rfl rfl rfl) ?_
      refine G_end (X_then ?_)
      refine G_cond_f rfl (decide_eq_false (by omega)) ?_
      refine G_skip (X_block (X_then (G_region ?_)))
      refine Gv (V_add_i64 rfl rfl rfl (by omega) (by omega)) ?_
      refine Gm ?_
      refine G_end (X_then ?_)
      exact G_again 1 ⟨by omega, fun j hj => by
        by_cases e : j = 0
        · rw [e, ← hz]; rfl
        · exact hall j (by omega)⟩ (by omega) ⟨rfl, rfl, trivial⟩ rfl rfl
    · rw [fz_at _ 0 r0 hall rfl hz]
      refine Ga ?_
      refine G_end (X_then (G_seq (G_region ?_)))
      refine Gm ?_
      refine Gv (V_neq rfl rfl rfl) ?_
      refine G_end (X_then ?_)
      refine G_cond_t rfl (decide_eq_true (by omega)) ?_
      refine G_seq (G_region ?_)
      refine Gm ?_
      refine Ga ?_
      refine G_end (X_then (G_ret (X_block_ret (X_then_ret (X_then_ret (X_block_ret (X_then_ret ?_)))))))
      refine G_leaveS (.drop _ (.drop _ (.drop _ (.nil _)))) (by exact (.cons (.tmp rfl) (.nil))) rfl ?_ ?_
      · exact (.refl _)
      exact ⟨rfl, rfl⟩
  · refine G_seq ?_
    refine G_region ?_
    refine Gv (V_lss rfl rfl rfl) ?_
    refine G_end (X_then (G_seq ?_))
    refine G_cond_t rfl (by kernel_rfl) ?_
    refine G_skip (X_then (G_seq (G_block (G_seq (G_region ?_)))))
    refine Gv (V_idxArr rfl rfl rfl (by omega) (by omega) rfl) ?_
    refine Ga ?_
    refine G_end (X_then (G_seq (G_region ?_)))
    refine Gm ?_
    refine G_callF (k := 30) rfl rfl rfl rfl rfl rfl (.none rfl) (k1 (c0 (by omega)) _) ?_
    by_cases hz : r1 = 0
    · refine Ga ?_
      refine G_end (X_then (G_seq (G_region ?_)))
      refine Gm ?_
      refine Gv (V_neq rfl rfl rfl) ?_
      refine G_end (X_then ?_)
      refine G_cond_f rfl (decide_eq_false (by omega)) ?_
      refine G_skip (X_block (X_then (G_region ?_)))
      refine Gv (V_add_i64 rfl rfl rfl (by omega) (by omega)) ?_
      refine Gm ?_
      refine G_end (X_then ?_)
      exact G_again 2 ⟨by omega, fun j hj => by
        by_cases e : j = 1
        · rw [e, ← hz]; rfl
        · exact hall j (by omega)⟩ (by omega) ⟨rfl, rfl, trivial⟩ rfl rfl
    · rw [fz_at _ 1 r1 hall rfl hz]
      refine Ga ?_
      refine G_end (X_then (G_seq (G_region ?_)))
      refine Gm ?_
      refine Gv (V_neq rfl rfl rfl) ?_
      refine G_end (X_then ?_)
      refine G_cond_t rfl (decide_eq_true (by omega)) ?_
      refine G_seq (G_region ?_)
      refine Gm ?_
      refine Ga ?_
      refine G_end (X_then (G_ret (X_block_ret (X_then_ret (X_then_ret (X_block_ret (X_then_ret ?_)))))))
      refine G_leaveS (.drop _ (.drop _ (.drop _ (.nil _)))) (by exact (.cons (.tmp rfl) (.nil))) rfl ?_ ?_
      · exact (.refl _)
      exact ⟨rfl, rfl⟩
  · refine G_seq ?_
    refine G_region ?_
    refine Gv (V_lss rfl rfl rfl) ?_
    refine G_end (X_then (G_seq ?_))
    refine G_cond_t rfl (by kernel_rfl) ?_
    refine G_skip (X_then (G_seq (G_block (G_seq (G_region ?_)))))
    refine Gv (V_idxArr rfl rfl rfl (by omega) (by omega) rfl) ?_
    refine Ga ?_
    refine G_end (X_then (G_seq (G_region ?_)))
    refine Gm ?_
    refine G_callF (k := 31) rfl rfl rfl rfl rfl rfl (.none rfl) (k2 ⟨c0 (by omega), c1 (by omega)⟩ _) ?_
    by_cases hz : r2 = 0
    · refine Ga ?_
      refine G_end (X_then (G_seq (G_region ?_)))
      refine Gm ?_
      refine Gv (V_neq rfl rfl rfl) ?_
      refine G_end (X_then ?_)
      refine G_cond_f rfl (decide_eq_false (by omega)) ?_
      refine G_skip (X_block (X_then (G_region ?_)))
      refine Gv (V_add_i64 rfl rfl rfl (by omega) (by omega)) ?_
      refine Gm ?_
      refine G_end (X_then ?_)
      exact G_again 3 ⟨by omega, fun j hj => by
        by_cases e : j = 2
        · rw [e, ← hz]; rfl
        · exact hall j (by omega)⟩ (by omega) ⟨rfl, rfl, trivial⟩ rfl rfl
    · rw [fz_at _ 2 r2 hall rfl hz]
      refine Ga ?_
      refine G_end (X_then (G_seq (G_region ?_)))
      refine Gm ?_
      refine Gv (V_neq rfl rfl rfl) ?_
      refine G_end (X_then ?_)
      refine G_cond_t rfl (decide_eq_true (by omega)) ?_
      refine G_seq (G_region ?_)
      refine Gm ?_
      refine Ga ?_
      refine G_end (X_then (G_ret (X_block_ret (X_then_ret (X_then_ret (X_block_ret (X_then_ret ?_)))))))
      refine G_leaveS (.drop _ (.drop _ (.drop _ (.nil _)))) (by exact (.cons (.tmp rfl) (.nil))) rfl ?_ ?_
      · exact (.refl _)
      exact ⟨rfl, rfl⟩
  · refine G_seq ?_
    refine G_region ?_
    refine Gv (V_lss rfl rfl rfl) ?_
    refine G_end (X_then (G_seq ?_))
    refine G_cond_t rfl (by kernel_rfl) ?_
    refine G_skip (X_then (G_seq (G_block (G_seq (G_region ?_)))))
    refine Gv (V_idxArr rfl rfl rfl (by omega) (by omega) rfl) ?_
    refine Ga ?_
    refine G_end (X_then (G_seq (G_region ?_)))
    refine Gm ?_
    refine G_callF (k := 32) rfl rfl rfl rfl rfl rfl (.none rfl) (k3 ⟨c0 (by omega), c1 (by omega), c2 (by omega)⟩ _) ?_
    by_cases hz : r3 = 0
    · refine Ga ?_
      refine G_end (X_then (G_seq (G_region ?_)))
      refine Gm ?_
      refine Gv (V_neq rfl rfl rfl) ?_
      refine G_end (X_then ?_)
      refine G_cond_f rfl (decide_eq_false (by omega)) ?_
      refine G_skip (X_block (X_then (G_region ?_)))
      refine Gv (V_add_i64 rfl rfl rfl (by omega) (by omega)) ?_
      refine Gm ?_
      refine G_end (X_then ?_)
      exact G_again 4 ⟨by omega, fun j hj => by
        by_cases e : j = 3
        · rw [e, ← hz]; rfl
        · exact hall j (by omega)⟩ (by omega) ⟨rfl, rfl, trivial⟩ rfl rfl
    · rw [fz_at _ 3 r3 hall rfl hz]
      refine Ga ?_
      refine G_end (X_then (G_seq (G_region ?_)))
      refine Gm ?_
      refine Gv (V_neq rfl rfl rfl) ?_
      refine G_end (X_then ?_)
      refine G_cond_t rfl (decide_eq_true (by omega)) ?_
      refine G_seq (G_region ?_)
      refine Gm ?_
      refine Ga ?_
      refine G_end (X_then (G_ret (X_block_ret (X_then_ret (X_then_ret (X_block_ret (X_then_ret ?_)))))))
      refine G_leaveS (.drop _ (.drop _ (.drop _ (.nil _)))) (by exact (.cons (.tmp rfl) (.nil))) rfl ?_ ?_
      · exact (.refl _)
      exact ⟨rfl, rfl⟩
  · refine G_seq ?_
    refine G_region ?_
    refine Gv (V_lss rfl rfl rfl) ?_
    refine G_end (X_then (G_seq ?_))
    refine G_cond_t rfl (by kernel_rfl) ?_
    refine G_skip (X_then (G_seq (G_block (G_seq (G_region ?_)))))
    refine Gv (V_idxArr rfl rfl rfl (by omega) (by omega) rfl) ?_
    refine Ga ?_
    refine G_end (X_then (G_seq (G_region ?_)))
    refine Gm ?_
    refine G_callF (k := 33) rfl rfl rfl rfl rfl rfl (.none rfl) (k4 ⟨c0 (by omega), c1 (by omega), c2 (by omega), c3 (by omega)⟩ _) ?_
    by_cases hz : r4 = 0
    · refine Ga ?_
      refine G_end (X_then (G_seq (G_region ?_)))
      refine Gm ?_
      refine Gv (V_neq rfl rfl rfl) ?_
      refine G_end (X_then ?_)
      refine G_cond_f rfl (decide_eq_false (by omega)) ?_
      refine G_skip (X_block (X_then (G_region ?_)))
      refine Gv (V_add_i64 rfl rfl rfl (by omega) (by omega)) ?_
      refine Gm ?_
      refine G_end (X_then ?_)
      exact G_again 5 ⟨by omega, fun j hj => by
        by_cases e : j = 4
        · rw [e, ← hz]; rfl
        · exact hall j (by omega)⟩ (by omega) ⟨rfl, rfl, trivial⟩ rfl rfl
    · rw [fz_at _ 4 r4 hall rfl hz]
      refine Ga ?_
      refine G_end (X_then (G_seq (G_region ?_)))
      refine Gm ?_
      refine Gv (V_neq rfl rfl rfl) ?_
      refine G_end (X_then ?_)
      refine G_cond_t rfl (decide_eq_true (by omega)) ?_
      refine G_seq (G_region ?_)
      refine Gm ?_
      refine Ga ?_
      refine G_end (X_then (G_ret (X_block_ret (X_then_ret (X_then_ret (X_block_ret (X_then_ret ?_)))))))
      refine G_leaveS (.drop _ (.drop _ (.drop _ (.nil _)))) (by exact (.cons (.tmp rfl) (.nil))) rfl ?_ ?_
      · exact (.refl _)
      exact ⟨rfl, rfl⟩
  · refine G_seq ?_
    refine G_region ?_
    refine Gv (V_lss rfl rfl rfl) ?_
    refine G_end (X_then (G_seq ?_))
    refine G_cond_t rfl (by kernel_rfl) ?_
    refine G_skip (X_then (G_seq (G_block (G_seq (G_region ?_)))))
    refine Gv (V_idxArr rfl rfl rfl (by omega) (by omega) rfl) ?_
    refine Ga ?_
    refine G_end (X_then (G_seq (G_region ?_)))
    refine Gm ?_
    refine G_callF (k := 34) rfl rfl rfl rfl rfl rfl (.none rfl) (k5 ⟨c0 (by omega), c1 (by omega), c2 (by omega), c3 (by omega), c4 (by omega)⟩ _) ?_
    by_cases hz : r5 = 0
    · refine Ga ?_
      refine G_end (X_then (G_seq (G_region ?_)))
      refine Gm ?_
      refine Gv (V_neq rfl rfl rfl) ?_
      refine G_end (X_then ?_)
      refine G_cond_f rfl (decide_eq_false (by omega)) ?_
      refine G_skip (X_block (X_then (G_region ?_)))
      refine Gv (V_add_i64 rfl rfl rfl (by omega) (by omega)) ?_
      refine Gm ?_
      refine G_end (X_then ?_)
      exact G_again 6 ⟨by omega, fun j hj => by
        by_cases e : j = 5
        · rw [e, ← hz]; rfl
        · exact hall j (by omega)⟩ (by omega) ⟨rfl, rfl, trivial⟩ rfl rfl
    · rw [fz_at _ 5 r5 hall rfl hz]
      refine Ga ?_
      refine G_end (X_then (G_seq (G_region ?_)))
      refine Gm ?_
      refine Gv (V_neq rfl rfl rfl) ?_
      refine G_end (X_then ?_)
      refine G_cond_t rfl (decide_eq_true (by omega)) ?_
      refine G_seq (G_region ?_)
      refine Gm ?_
      refine Ga ?_
      refine G_end (X_then (G_ret (X_block_ret (X_then_ret (X_then_ret (X_block_ret (X_then_ret ?_)))))))
      refine G_leaveS (.drop _ (.drop _ (.drop _ (.nil _)))) (by exact (.cons (.tmp rfl) (.nil))) rfl ?_ ?_
      · exact (.refl _)
      exact ⟨rfl, rfl⟩
  · refine G_seq ?_
    refine G_region ?_
    refine Gv (V_lss rfl rfl rfl) ?_
    refine G_end (X_then (G_seq ?_))
    refine G_cond_t rfl (by kernel_rfl) ?_
    refine G_skip (X_then (G_seq (G_block (G_seq (G_region ?_)))))
    refine Gv (V_idxArr rfl rfl rfl (by omega) (by omega) rfl) ?_
    refine Ga ?_
    refine G_end (X_then (G_seq (G_region ?_)))
    refine Gm ?_
    refine G_callF (k := 35) rfl rfl rfl rfl rfl rfl (.none rfl) (k6 ⟨c0 (by omega), c1 (by omega), c2 (by omega), c3 (by omega), c4 (by omega), c5 (by omega)⟩ _) ?_
    by_cases hz : r6 = 0
    · refine Ga ?_
      refine G_end (X_then (G_seq (G_region ?_)))
      refine Gm ?_
      refine Gv (V_neq rfl rfl rfl) ?_
      refine G_end (X_then ?_)
      refine G_cond_f rfl (decide_eq_false (by omega)) ?_
      refine G_skip (X_block (X_then (G_region ?_)))
      refine Gv (V_add_i64 rfl rfl rfl (by omega) (by omega)) ?_
      refine Gm ?_
      refine G_end (X_then ?_)
      exact G_again 7 ⟨by omega, fun j hj => by
        by_cases e : j = 6
        · rw [e, ← hz]; rfl
        · exact hall j (by omega)⟩ (by omega) ⟨rfl, rfl, trivial⟩ rfl rfl
    · rw [fz_at _ 6 r6 hall rfl hz]
      refine Ga ?_
      refine G_end (X_then (G_seq (G_region ?_)))
      refine Gm ?_
      refine Gv (V_neq rfl rfl rfl) ?_
      refine G_end (X_then ?_)
      refine G_cond_t rfl (decide_eq_true (by omega)) ?_
      refine G_seq (G_region ?_)
      refine Gm ?_
      refine Ga ?_
      refine G_end (X_then (G_ret (X_block_ret (X_then_ret (X_then_ret (X_block_ret (X_then_ret ?_)))))))
      refine G_leaveS (.drop _ (.drop _ (.drop _ (.nil _)))) (by exact (.cons (.tmp rfl) (.nil))) rfl ?_ ?_
      · exact (.refl _)
      exact ⟨rfl, rfl⟩
  · refine G_seq ?_
    refine G_region ?_
    refine Gv (V_lss rfl rfl rfl) ?_
    refine G_end (X_then (G_seq ?_))
    refine G_cond_t rfl (by kernel_rfl) ?_
    refine G_skip (X_then (G_seq (G_block (G_seq (G_region ?_)))))
    refine Gv (V_idxArr rfl rfl rfl (by omega) (by omega) rfl) ?_
    refine Ga ?_
    refine G_end (X_then (G_seq (G_region ?_)))
    refine Gm ?_
    refine G_callF (k := 36) rfl rfl rfl rfl rfl rfl (.none rfl) (k7 ⟨c0 (by omega), c1 (by omega), c2 (by omega), c3 (by omega), c4 (by omega), c5 (by omega), c6 (by omega)⟩ _) ?_
    by_cases hz : r7 = 0
    · refine Ga ?_
      refine G_end (X_then (G_seq (G_region ?_)))
      refine Gm ?_
      refine Gv (V_neq rfl rfl rfl) ?_
      refine G_end (X_then ?_)
      refine G_cond_f rfl (decide_eq_false (by omega)) ?_
      refine G_skip (X_block (X_then (G_region ?_)))
      refine Gv (V_add_i64 rfl rfl rfl (by omega) (by omega)) ?_
      refine Gm ?_
      refine G_end (X_then ?_)
      exact G_again 8 ⟨by omega, fun j hj => by
        by_cases e : j = 7
        · rw [e, ← hz]; rfl
        · exact hall j (by omega)⟩ (by omega) ⟨rfl, rfl, trivial⟩ rfl rfl
    · rw [fz_at _ 7 r7 hall rfl hz]
      refine Ga ?_
      refine G_end (X_then (G_seq (G_region ?_)))
      refine Gm ?_
      refine Gv (V_neq rfl rfl rfl) ?_
      refine G_end (X_then ?_)
      refine G_cond_t rfl (decide_eq_true (by omega)) ?_
      refine G_seq (G_region ?_)
      refine Gm ?_
      refine Ga ?_
      refine G_end (X_then (G_ret (X_block_ret (X_then_ret (X_then_ret (X_block_ret (X_then_ret ?_)))))))
      refine G_leaveS (.drop _ (.drop _ (.drop _ (.nil _)))) (by exact (.cons (.tmp rfl) (.nil))) rfl ?_ ?_
      · exact (.refl _)
      exact ⟨rfl, rfl⟩
  · rw [fz_none _ (fun j hj => hall j (by simpa using hj))]
    refine G_seq (G_region ?_)
    refine Gv (V_lss rfl rfl rfl) ?_
    refine G_end (X_then (G_seq ?_))
    refine G_cond_f rfl (by kernel_rfl) ?_
    refine G_exit (X_then_exit (X_then_exit (X_block_hit (X_then (G_seq (G_region ?_))))))
    refine Ga ?_
    refine G_end (X_then (G_ret ?_))
    refine G_leaveS (.drop _ (.drop _ (.drop _ (.nil _)))) (by exact (.cons (.tmp rfl) (.nil))) rfl ?_ ?_
    · exact (.refl _)
    exact ⟨(by kernel_rfl), rfl⟩
end
end Go.Proofs.YtimiokmgnclggaaGreat
set_option linter.unusedSimpArgs false
set_option linter.unusedVariables false
set_option maxHeartbeats 2000000
set_option maxRecDepth 20000
namespace Go.Proofs.YtimiokmgnclggaaGreat
open Go.RowKit
/-! config.Check of configurations in the states Between and Inside, with a ring that is right; what they await and need. -/
def ckM (g : Gr) (st at' : Int) (part : List UInt8) (l : List Tok) (e ea : Int) (b : Bool) (us : List Spt) : Int :=
  fz [partM part g.toks.length e, placM at' part.length l e ea, chkS g us, formM st b l.length us.length e]
theorem CallV.castV {P : Program} {k : Nat} {args : Array Value} {E : Env} {L : List Res} {r r' : Value} (h : CallV P k args E L r) (e : r = r') : CallV P k args E L r' := e ▸ h
/-- What is awaited, if all is right. -/
def awC (g : Gr) (st : Int) (b : Bool) (us : List Spt) : Int × Int := if st ≠ 2 then (0, 0) else if b = false then (2, g.start) else awS g.prods us
def needC (g : Gr) (st : Int) (n : Nat) (e : Int) (b : Bool) (us : List Spt) : Int :=
  if e ≠ 0 ∨ (awC g st b us).1 = 3 then 0 else if (awC g st b us).1 = 2 then max 0 (g.k - n) else max 0 (1 - n)
theorem ckM_ok {g : Gr} {st at' : Int} {part : List UInt8} {l : List Tok} {e ea : Int} {b : Bool} {us : List Spt} (h : ckM g st at' part l e ea b us = 0) :
    partM part g.toks.length e = 0 ∧ placM at' part.length l e ea = 0 ∧ chkS g us = 0 ∧ formM st b l.length us.length e = 0 := by
  simp only [ckM, fz] at h
  split at h
  · contradiction
  · split at h
    · contradiction
    · split at h
      · contradiction
      · split at h
        · contradiction
        · omega
theorem ckM_of {g : Gr} {st at' : Int} {part : List UInt8} {l : List Tok} {e ea : Int} {b : Bool} {us : List Spt}
    (h1 : partM part g.toks.length e = 0) (h2 : placM at' part.length l e ea = 0) (h3 : chkS g us = 0) (h4 : formM st b l.length us.length e = 0) : ckM g st at' part l e ea b us = 0 := by
  simp [ckM, fz, h1, h2, h3, h4]
theorem noSep {terms : Int} {l : List Tok} (h : ∀ t, t ∈ l → tokB terms t = true) : (l.any fun t => decide (t.sym = terms)) = false := by
  rw [List.any_eq_false]
  intro t ht
  have := tokB_iff.1 (h t ht)
  simp only [decide_eq_true_eq]
  omega
section
variable (E : Env) (L : List Res) (st rc at' : Int) (part : List UInt8) (tp : Option Addr) (tn tc : Nat) (e ea : Int) (b : Bool) (sp : Option Addr) (sn sc : Nat)
  (gv : Value) (g : Gr) (hg : GrE E gv g) (hl : Light g) (h0 : gcheck g = 0)
include hg hl h0
variable (h3 : st = 1 ∨ st = 2) (hr : rngB rc at' = true) (hp : part.length ≤ 1) (l : List Tok) (hs : SlE E 3 tp tn (toks l)) (hgr : gringB g.k g.toks.length l e ea = true) (us : List Spt) (hu : SlE E 2 sp sn (spC us)) (hn : sn ≤ 9223372036854775807)
include h3 hr hp hs hgr hu hn
theorem CCheck_call : CallV Tryz.prog 15 #[gv, cfV st rc at' part tp tn tc e ea b sp sn sc] E L (.int .i64 (ckM g st at' part l e ea b us)) := by
  have hg' := hg
  obtain ⟨gp, gc, np, nc, pp, pc, rfl, _⟩ := hg
  have hq := gring_iff.1 hgr
  have hat : 0 ≤ at' ∧ at' ≤ 1099511627776 := by
    simp only [rngB, Bool.and_eq_true, decide_eq_true_eq] at hr
    exact hr.2
  refine CallV.castV (CCheck_core E L st rc at' part tp tn tc e ea b sp sn sc g gp gc np nc pp pc hg' hl h0 0 0 0 0 (partM part g.toks.length e) (placM at' part.length l e ea) (chkS g us) (formM st b tn sn e) _ rfl (fun L => ?_) (fun _ L => ?_) (fun _ L => ?_) (fun _ L => ?_) (fun _ L => ?_) (fun _ L => ?_) (fun _ L => ?_) (fun _ L => ?_)) ?_
  · have := cstate_call E L st rc at' part tp tn tc e ea b sp sn sc g.k gp g.toks.length gc g.sep np g.names.length nc g.start pp g.prods.length pc
    rwa [if_neg (by omega)] at this
  · have := cnumbers_call E L st rc at' part tp tn tc e ea b sp sn sc g.k gp g.toks.length gc g.sep np g.names.length nc g.start pp g.prods.length pc
    rwa [if_pos hr] at this
  · exact waitOk_call E L st rc at' part tp tn tc e ea b sp sn sc g.k gp g.toks.length gc g.sep np g.names.length nc g.start pp g.prods.length pc l hs hgr
  · have := cseps_call E L st rc at' part tp tn tc e ea b sp sn sc g.k gp g.toks.length gc g.sep np g.names.length nc g.start pp g.prods.length pc l hs (by have := hs.nT; have := hq.len; have := hq.k4; omega)
    rwa [noSep hq.tok, if_neg (by decide)] at this
  · exact cpart_call E L st rc at' part tp tn tc e ea b sp sn sc g.k gp g.toks.length gc g.sep np g.names.length nc g.start pp g.prods.length pc hp hq.t1 hq.t8 h3
  · exact cplaces_call E L st rc at' part tp tn tc e ea b sp sn sc g.k gp g.toks.length gc g.sep np g.names.length nc g.start pp g.prods.length pc l hs hgr hp hat h3
  · exact cspots_call E L st rc at' part tp tn tc e ea b sp sn sc g.k gp g.toks.length gc g.sep np g.names.length nc g.start pp g.prods.length pc g hg' hl us hu hn
  · exact cform_call E L st rc at' part tp tn tc e ea b sp sn sc g.k gp g.toks.length gc g.sep np g.names.length nc g.start pp g.prods.length pc h3
  · rw [ckM, ← hs.nT, ← hu.nSp]
    simp only [fz, ne_eq, not_true_eq_false, if_false]
theorem CAwaits_call : CallV Tryz.prog 10 #[gv, cfV st rc at' part tp tn tc e ea b sp sn sc] E L
    (.tuple #[.int .i64 (if ckM g st at' part l e ea b us = 0 then (awC g st b us).1 else 0), .int .i64 (if ckM g st at' part l e ea b us = 0 then (awC g st b us).2 else 0), .int .i64 (ckM g st at' part l e ea b us)]) := by
  have hc := fun L0 => CCheck_call E L0 st rc at' part tp tn tc e ea b sp sn sc gv g hg hl h0 h3 hr hp l hs hgr us hu hn
  have haw := fun L0 => Awaits_call E L0 gv g hg hl sp sn sc us hu hn
  by_cases hk : ckM g st at' part l e ea b us = 0
  · simp only [if_pos hk]
    have hok := (ckM_ok hk).2.2.1
    rw [hk] at hc ⊢
    unfold awaitM at haw
    simp only [hok, ne_eq, not_true_eq_false, if_false] at haw
    unfold awC
    rcases h3 with rfl | rfl
    · rw [if_pos (by decide)]
      obtain ⟨gp, gc, np, nc, pp, pc, rfl, _⟩ := hg
      refine CallS.toV (CallS.intro (l := [_, _]) _ Tryz.func10 rfl Tryz.ntmps10 rfl ?_)
      refine G_seq (G_region ?_)
      (refine G_boxA rfl rfl rfl rfl (.none rfl) ?_; intro b2)
      (refine G_boxA rfl rfl rfl rfl (.none rfl) ?_; intro b3)
      refine Ga ?_
      refine Ga ?_
      refine Ga ?_
      refine G_end (X_then (G_seq (G_seq (G_region ?_))))
      refine Gv (V_loadA rfl rfl (Cells.own (.tail _ (.head _))) rfl) ?_
      refine Gv (V_loadA rfl rfl (Cells.own (.head _)) rfl) ?_
      refine G_callv (k := 15) (.mk rfl rfl rfl rfl) rfl rfl (.none rfl) (hc _) ?_
      refine Ga ?_
      refine G_end (X_then (G_seq (G_region ?_)))
      refine Gm ?_
      refine Gv (V_neq rfl rfl rfl) ?_
      refine G_end (X_then ?_)
      refine G_cond_f rfl (by kernel_rfl) ?_
      refine G_skip (X_then (G_seq (G_block (G_seq (G_region ?_)))))
      refine Gv (V_fieldAddr rfl rfl (by decide)) ?_
      refine Gv (V_load rfl rfl (Cell.own (.head _) rfl)) ?_
      refine Gv (V_neq rfl rfl rfl) ?_
      refine Ga ?_
      refine G_end (X_then ?_)
      refine G_cond_t rfl (by kernel_rfl) ?_
      refine G_seq (G_region ?_)
      refine Ga ?_
      refine Ga ?_
      refine Ga ?_
      refine G_end (X_then (G_ret (X_block_ret (X_then_ret ?_))))
      refine G_leaveS (.drop _ (.drop _ (.nil _))) (by exact (.cons (.tmp rfl) (.cons (.tmp rfl) (.cons (.tmp rfl) (.nil))))) rfl ?_ ?_
      · exact (.refl _)
      exact ⟨(by kernel_rfl), rfl⟩
    · rw [if_neg (by decide)]
      cases b with
      | false =>
        rw [if_pos rfl]
        obtain ⟨gp, gc, np, nc, pp, pc, rfl, _⟩ := hg
        refine CallS.toV (CallS.intro (l := [_, _]) _ Tryz.func10 rfl Tryz.ntmps10 rfl ?_)
        refine G_seq (G_region ?_)
        (refine G_boxA rfl rfl rfl rfl (.none rfl) ?_; intro b2)
        (refine G_boxA rfl rfl rfl rfl (.none rfl) ?_; intro b3)
        refine Ga ?_
        refine Ga ?_
        refine Ga ?_
        refine G_end (X_then (G_seq (G_seq (G_region ?_))))
        refine Gv (V_loadA rfl rfl (Cells.own (.tail _ (.head _))) rfl) ?_
        refine Gv (V_loadA rfl rfl (Cells.own (.head _)) rfl) ?_
        refine G_callv (k := 15) (.mk rfl rfl rfl rfl) rfl rfl (.none rfl) (hc _) ?_
        refine Ga ?_
        refine G_end (X_then (G_seq (G_region ?_)))
        refine Gm ?_
        refine Gv (V_neq rfl rfl rfl) ?_
        refine G_end (X_then ?_)
        refine G_cond_f rfl (by kernel_rfl) ?_
        refine G_skip (X_then (G_seq (G_block (G_seq (G_region ?_)))))
        refine Gv (V_fieldAddr rfl rfl (by decide)) ?_
        refine Gv (V_load rfl rfl (Cell.own (.head _) rfl)) ?_
        refine Gv (V_neq rfl rfl rfl) ?_
        refine Ga ?_
        refine G_end (X_then ?_)
        refine G_cond_f rfl (by kernel_rfl) ?_
        refine G_seq (G_region ?_)
        refine Gv (V_fieldAddr rfl rfl (by decide)) ?_
        refine Gv (V_load rfl rfl (Cell.own (.head _) rfl)) ?_
        refine Gv (V_not rfl rfl) ?_
        refine Ga ?_
        refine G_end (X_then ?_)
        refine G_cond_t rfl (by kernel_rfl) ?_
        refine G_seq ?_
        refine G_draw mixed (by kernel_rfl) ?_
        refine Q_val (V_fieldAddr rfl rfl (by decide)) rfl rfl (.none rfl) ?_
        refine Q_val (V_load rfl rfl (Cell.own (.tail _ (.head _)) rfl)) rfl rfl (.none rfl) ?_
        refine Q_val (V_assign rfl rfl) rfl rfl (.none rfl) ?_
        refine Q_val (V_assign rfl rfl) rfl rfl (.none rfl) ?_
        refine Q_val (V_assign rfl rfl) rfl rfl (.none rfl) ?_
        refine Q_end ?_
        refine X_then (G_ret (X_block_ret (X_then_ret ?_)))
        refine G_leaveS (.drop _ (.drop _ (.nil _))) (by exact (.cons (.tmp rfl) (.cons (.tmp rfl) (.cons (.tmp rfl) (.nil))))) rfl ?_ ?_
        · exact (.refl _)
        exact ⟨rfl, rfl⟩
      | true =>
        rw [if_neg (by decide)]
        generalize awS g.prods us = r at *
        obtain ⟨gp, gc, np, nc, pp, pc, rfl, _⟩ := hg
        refine CallS.toV (CallS.intro (l := [_, _]) _ Tryz.func10 rfl Tryz.ntmps10 rfl ?_)
        refine G_seq (G_region ?_)
        (refine G_boxA rfl rfl rfl rfl (.none rfl) ?_; intro b2)
        (refine G_boxA rfl rfl rfl rfl (.none rfl) ?_; intro b3)
        refine Ga ?_
        refine Ga ?_
        refine Ga ?_
        refine G_end (X_then (G_seq (G_seq (G_region ?_))))
        refine Gv (V_loadA rfl rfl (Cells.own (.tail _ (.head _))) rfl) ?_
        refine Gv (V_loadA rfl rfl (Cells.own (.head _)) rfl) ?_
        refine G_callv (k := 15) (.mk rfl rfl rfl rfl) rfl rfl (.none rfl) (hc _) ?_
        refine Ga ?_
        refine G_end (X_then (G_seq (G_region ?_)))
        refine Gm ?_
        refine Gv (V_neq rfl rfl rfl) ?_
        refine G_end (X_then ?_)
        refine G_cond_f rfl (by kernel_rfl) ?_
        refine G_skip (X_then (G_seq (G_block (G_seq (G_region ?_)))))
        refine Gv (V_fieldAddr rfl rfl (by decide)) ?_
        refine Gv (V_load rfl rfl (Cell.own (.head _) rfl)) ?_
        refine Gv (V_neq rfl rfl rfl) ?_
        refine Ga ?_
        refine G_end (X_then ?_)
        refine G_cond_f rfl (by kernel_rfl) ?_
        refine G_seq (G_region ?_)
        refine Gv (V_fieldAddr rfl rfl (by decide)) ?_
        refine Gv (V_load rfl rfl (Cell.own (.head _) rfl)) ?_
        refine Gv (V_not rfl rfl) ?_
        refine Ga ?_
        refine G_end (X_then ?_)
        refine G_cond_f rfl (by kernel_rfl) ?_
        refine G_skip (X_block (X_then (G_seq (G_region ?_))))
        refine Gv (V_loadA rfl rfl (Cells.own (.tail _ (.head _))) rfl) ?_
        refine Gv (V_fieldAddr rfl rfl (by decide)) ?_
        refine Gv (V_load rfl rfl (Cell.own (.head _) rfl)) ?_
        refine G_callv (k := 26) (.mk rfl rfl rfl rfl) rfl rfl (.none rfl) (haw _) ?_
        refine Gv (V_extract rfl rfl rfl) ?_
        refine Gv (V_extract rfl rfl rfl) ?_
        refine Gv (V_extract rfl rfl rfl) ?_
        refine Ga ?_
        refine Ga ?_
        refine Ga ?_
        refine G_end (X_then (G_ret ?_))
        refine G_leaveS (.drop _ (.drop _ (.nil _))) (by exact (.cons (.tmp rfl) (.cons (.tmp rfl) (.cons (.tmp rfl) (.nil))))) rfl ?_ ?_
        · exact (.refl _)
        exact ⟨rfl, rfl⟩
  · simp only [if_neg hk]
    generalize ckM g st at' part l e ea b us = x at *
    obtain ⟨gp, gc, np, nc, pp, pc, rfl, _⟩ := hg
    refine CallS.toV (CallS.intro (l := [_, _]) _ Tryz.func10 rfl Tryz.ntmps10 rfl ?_)
    refine G_seq (G_region ?_)
    (refine G_boxA rfl rfl rfl rfl (.none rfl) ?_; intro b2)
    (refine G_boxA rfl rfl rfl rfl (.none rfl) ?_; intro b3)
    refine Ga ?_
    refine Ga ?_
    refine Ga ?_
    refine G_end (X_then (G_seq (G_seq (G_region ?_))))
    refine Gv (V_loadA rfl rfl (Cells.own (.tail _ (.head _))) rfl) ?_
    refine Gv (V_loadA rfl rfl (Cells.own (.head _)) rfl) ?_
    refine G_callv (k := 15) (.mk rfl rfl rfl rfl) rfl rfl (.none rfl) (hc _) ?_
    refine Ga ?_
    refine G_end (X_then (G_seq (G_region ?_)))
    refine Gm ?_
    refine Gv (V_neq rfl rfl rfl) ?_
    refine G_end (X_then ?_)
    refine G_cond_t rfl (decide_eq_true (by omega)) ?_
    refine G_seq (G_region ?_)
    refine Gm ?_
    refine Ga ?_
    refine Ga ?_
    refine Ga ?_
    refine G_end (X_then (G_ret (X_then_ret ?_)))
    refine G_leaveS (.drop _ (.drop _ (.nil _))) (by exact (.cons (.tmp rfl) (.cons (.tmp rfl) (.cons (.tmp rfl) (.nil))))) rfl ?_ ?_
    · exact (.refl _)
    exact ⟨rfl, rfl⟩
end
end Go.Proofs.YtimiokmgnclggaaGreat
