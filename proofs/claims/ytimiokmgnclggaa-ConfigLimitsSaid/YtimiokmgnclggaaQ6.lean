/-
  Rules and contracts, packed: G1, G2, G3.
-/
import Derived.Test.YtimiokmgnclggaaQ5
set_option maxHeartbeats 1000000
set_option linter.unusedSimpArgs false
set_option linter.unusedVariables false
set_option maxHeartbeats 2000000
set_option maxRecDepth 20000
namespace Go.Proofs.Ytimiokmgnclggaa
open Go.RowKit
/-! Configurations as plain data; limits, the first configuration. -/
structure Cfg where
  st : Int
  rc : Int
  at' : Int
  part : List UInt8
  toks : List Tok
  e : Int
  ea : Int
  begun : Bool
  stack : List Spt
abbrev cfV (st rc at' : Int) (part : List UInt8) (tp : Option Addr) (tn tc : Nat) (e ea : Int) (b : Bool) (sp : Option Addr) (sn sc : Nat) : Value :=
  .agg #[.int .i64 st, .int .i64 rc, .int .i64 at', .string (S part), .slice tp tn tc, .int .i64 e, .int .i64 ea, .bool b, .slice sp sn sc]
def limM (d q s r : Int) : Int := if d < 1 ∨ 64 < d then 21 else if q < 1 ∨ 64 < q then 6 else if ¬ (0 ≤ s ∧ s ≤ 1099511627776) ∨ ¬ (0 ≤ r ∧ r ≤ 1099511627776) then 2 else 0
def fstV (d q s r : Int) : Value := if limM d q s r = 0 then cfV 1 r s [] none 0 0 0 0 false none 0 0 else cfV 0 0 0 [] none 0 0 0 0 false none 0 0
section
variable (E : Env) (L : List Res)
theorem ccounts_call (n : Int) : CallV Try.prog 21 #[.int .i64 n] E L (.bool (decide (0 ≤ n) && decide (n ≤ 1099511627776))) := by
  refine CallS.toV (CallS.intro (l := [_]) _ Try.func21 rfl Try.ntmps21 rfl ?_)
  refine G_seq (G_region ?_)
  refine G_val (V_assign rfl rfl) rfl rfl (.none rfl) ?_
  refine G_end (X_then (G_seq (G_region ?_)))
  refine G_val (V_move rfl rfl) rfl rfl (.none rfl) ?_
  refine G_val (V_geq rfl rfl rfl) rfl rfl (.none rfl) ?_
  refine G_val (V_move rfl rfl) rfl rfl (.none rfl) ?_
  apply G_joinAnd 3 5 8 rfl
  · intro H1
    dsimp only [List.take]
    simp only [Bool.and_eq_true, Bool.or_eq_true, Bool.not_eq_true', Bool.not_eq_false', Bool.and_eq_false_iff, Bool.or_eq_false_iff, Bool.not_not, decide_eq_true_eq, decide_eq_false_iff_not, ne_eq, Decidable.not_not, Bool.decide_eq_true] at H1
    refine G_val (V_move rfl rfl) rfl rfl (.yes rfl rfl rfl rfl) ?_
    refine G_val (V_leq rfl rfl rfl) rfl rfl (.yes rfl rfl rfl rfl) ?_
    refine G_val (V_pick_t rfl rfl rfl) rfl rfl (.none rfl) ?_
    refine G_end ?_
    exact JQ_end 3 rfl rfl (by kernel_rfl)
  · intro H2
    dsimp only [List.take]
    simp only [Bool.and_eq_true, Bool.or_eq_true, Bool.not_eq_true', Bool.not_eq_false', Bool.and_eq_false_iff, Bool.or_eq_false_iff, Bool.not_not, decide_eq_true_eq, decide_eq_false_iff_not, ne_eq, Decidable.not_not, Bool.decide_eq_true] at H2
    refine G_stay (.no rfl rfl rfl rfl) rfl rfl ?_
    refine G_stay (.no rfl rfl rfl rfl) rfl rfl ?_
    refine G_val (V_pick_f rfl rfl rfl) rfl rfl (.none rfl) ?_
    refine G_end ?_
    exact JQ_end 3 rfl rfl (by kernel_rfl)
  dsimp only [List.drop]
  refine G_val (V_assign rfl rfl) rfl rfl (.none rfl) ?_
  refine G_end (X_then (G_ret ?_))
  refine G_leaveS (.nil _) (by exact (.cons (.tmp rfl) (.nil))) rfl ?_ ?_
  · exact (.refl _)
  exact ⟨rfl, rfl⟩
theorem ccount_call (n : Int) : CallV Try.prog 22 #[.int .i64 n] E L (.bool (decide (0 ≤ n) && decide (n ≤ 1099511627776))) := by
  refine CallS.toV (CallS.intro (l := [_]) _ Try.func22 rfl Try.ntmps22 rfl ?_)
  refine G_seq (G_region ?_)
  refine G_val (V_assign rfl rfl) rfl rfl (.none rfl) ?_
  refine G_end (X_then (G_seq (G_region ?_)))
  refine G_val (V_move rfl rfl) rfl rfl (.none rfl) ?_
  refine G_val (V_geq rfl rfl rfl) rfl rfl (.none rfl) ?_
  refine G_val (V_move rfl rfl) rfl rfl (.none rfl) ?_
  apply G_joinAnd 3 5 8 rfl
  · intro H1
    dsimp only [List.take]
    simp only [Bool.and_eq_true, Bool.or_eq_true, Bool.not_eq_true', Bool.not_eq_false', Bool.and_eq_false_iff, Bool.or_eq_false_iff, Bool.not_not, decide_eq_true_eq, decide_eq_false_iff_not, ne_eq, Decidable.not_not, Bool.decide_eq_true] at H1
    refine G_val (V_move rfl rfl) rfl rfl (.yes rfl rfl rfl rfl) ?_
    refine G_val (V_leq rfl rfl rfl) rfl rfl (.yes rfl rfl rfl rfl) ?_
    refine G_val (V_pick_t rfl rfl rfl) rfl rfl (.none rfl) ?_
    refine G_end ?_
    exact JQ_end 3 rfl rfl (by kernel_rfl)
  · intro H2
    dsimp only [List.take]
    simp only [Bool.and_eq_true, Bool.or_eq_true, Bool.not_eq_true', Bool.not_eq_false', Bool.and_eq_false_iff, Bool.or_eq_false_iff, Bool.not_not, decide_eq_true_eq, decide_eq_false_iff_not, ne_eq, Decidable.not_not, Bool.decide_eq_true] at H2
    refine G_stay (.no rfl rfl rfl rfl) rfl rfl ?_
    refine G_stay (.no rfl rfl rfl rfl) rfl rfl ?_
    refine G_val (V_pick_f rfl rfl rfl) rfl rfl (.none rfl) ?_
    refine G_end ?_
    exact JQ_end 3 rfl rfl (by kernel_rfl)
  dsimp only [List.drop]
  refine G_val (V_assign rfl rfl) rfl rfl (.none rfl) ?_
  refine G_end (X_then (G_ret ?_))
  refine G_leaveS (.nil _) (by exact (.cons (.tmp rfl) (.nil))) rfl ?_ ?_
  · exact (.refl _)
  exact ⟨rfl, rfl⟩
theorem Limits_call (d q s r : Int) : CallV Try.prog 9 #[.agg #[.int .i64 d, .int .i64 q, .int .i64 s, .int .i64 r]] E L (.int .i64 (limM d q s r)) := by
  refine CallS.toV (CallS.intro (l := [_]) _ Try.func9 rfl Try.ntmps9 rfl ?_)
  refine G_seq (G_region ?_)
  (refine G_boxA rfl rfl rfl rfl (.none rfl) ?_; intro b1)
  refine G_val (V_assign rfl rfl) rfl rfl (.none rfl) ?_
  refine G_end (X_then (G_seq (G_block (G_seq (G_region ?_)))))
  refine G_val (V_fieldAddr rfl rfl (by decide)) rfl rfl (.none rfl) ?_
  refine G_val (V_load rfl rfl (Cell.own (.head _) rfl)) rfl rfl (.none rfl) ?_
  refine G_val (V_lss rfl rfl rfl) rfl rfl (.none rfl) ?_
  refine G_val (V_move rfl rfl) rfl rfl (.none rfl) ?_
  apply G_joinOr 4 7 11 rfl
  · intro H1
    dsimp only [List.take]
    simp only [Bool.and_eq_true, Bool.or_eq_true, Bool.not_eq_true', Bool.not_eq_false', Bool.and_eq_false_iff, Bool.or_eq_false_iff, Bool.not_not, decide_eq_true_eq, decide_eq_false_iff_not, ne_eq, Decidable.not_not, Bool.decide_eq_true] at H1
    refine G_stay (.no rfl rfl rfl rfl) rfl rfl ?_
    refine G_stay (.no rfl rfl rfl rfl) rfl rfl ?_
    refine G_stay (.no rfl rfl rfl rfl) rfl rfl ?_
    refine G_val (V_pick_t rfl rfl rfl) rfl rfl (.none rfl) ?_
    refine G_end ?_
    exact JQ_end 4 rfl rfl (by kernel_rfl)
  · intro H2
    dsimp only [List.take]
    simp only [Bool.and_eq_true, Bool.or_eq_true, Bool.not_eq_true', Bool.not_eq_false', Bool.and_eq_false_iff, Bool.or_eq_false_iff, Bool.not_not, decide_eq_true_eq, decide_eq_false_iff_not, ne_eq, Decidable.not_not, Bool.decide_eq_true] at H2
    refine G_val (V_fieldAddr rfl rfl (by decide)) rfl rfl (.yes rfl rfl rfl rfl) ?_
    refine G_val (V_load rfl rfl (Cell.own (.head _) rfl)) rfl rfl (.yes rfl rfl rfl rfl) ?_
    refine G_val (V_gtr rfl rfl rfl) rfl rfl (.yes rfl rfl rfl rfl) ?_
    refine G_val (V_pick_f rfl rfl rfl) rfl rfl (.none rfl) ?_
    refine G_end ?_
    exact JQ_end 4 rfl rfl (by kernel_rfl)
  dsimp only [List.drop]
  refine G_val (V_assign rfl rfl) rfl rfl (.none rfl) ?_
  refine G_end (X_then ?_)
  refine G_cond rfl (fun H3 => ?_) (fun H3 => ?_)
  · simp only [Bool.and_eq_true, Bool.or_eq_true, Bool.not_eq_true', Bool.not_eq_false', Bool.and_eq_false_iff, Bool.or_eq_false_iff, Bool.not_not, decide_eq_true_eq, decide_eq_false_iff_not, ne_eq, Decidable.not_not, Bool.decide_eq_true] at H3
    refine G_seq (G_region ?_)
    refine G_val (V_assign rfl rfl) rfl rfl (.none rfl) ?_
    refine G_end (X_then (G_ret (X_block_ret (X_then_ret ?_))))
    refine G_leaveS (.drop _ (.nil _)) (by exact (.cons (.tmp rfl) (.nil))) rfl ?_ ?_
    · exact (.refl _)
    exact ⟨(by (simp (discharger := omega) only [resVal, limM, if_pos, if_neg]; first | done | rfl)), (by rfl)⟩
  simp only [Bool.and_eq_true, Bool.or_eq_true, Bool.not_eq_true', Bool.not_eq_false', Bool.and_eq_false_iff, Bool.or_eq_false_iff, Bool.not_not, decide_eq_true_eq, decide_eq_false_iff_not, ne_eq, Decidable.not_not, Bool.decide_eq_true] at H3
  refine G_seq (G_region ?_)
  refine G_val (V_fieldAddr rfl rfl (by decide)) rfl rfl (.none rfl) ?_
  refine G_val (V_load rfl rfl (Cell.own (.head _) rfl)) rfl rfl (.none rfl) ?_
  refine G_val (V_lss rfl rfl rfl) rfl rfl (.none rfl) ?_
  refine G_val (V_move rfl rfl) rfl rfl (.none rfl) ?_
  apply G_joinOr 4 16 20 rfl
  · intro H4
    dsimp only [List.take]
    simp only [Bool.and_eq_true, Bool.or_eq_true, Bool.not_eq_true', Bool.not_eq_false', Bool.and_eq_false_iff, Bool.or_eq_false_iff, Bool.not_not, decide_eq_true_eq, decide_eq_false_iff_not, ne_eq, Decidable.not_not, Bool.decide_eq_true] at H4
    refine G_stay (.no rfl rfl rfl rfl) rfl rfl ?_
    refine G_stay (.no rfl rfl rfl rfl) rfl rfl ?_
    refine G_stay (.no rfl rfl rfl rfl) rfl rfl ?_
    refine G_val (V_pick_t rfl rfl rfl) rfl rfl (.none rfl) ?_
    refine G_end ?_
    exact JQ_end 4 rfl rfl (by kernel_rfl)
  · intro H5
    dsimp only [List.take]
    simp only [Bool.and_eq_true, Bool.or_eq_true, Bool.not_eq_true', Bool.not_eq_false', Bool.and_eq_false_iff, Bool.or_eq_false_iff, Bool.not_not, decide_eq_true_eq, decide_eq_false_iff_not, ne_eq, Decidable.not_not, Bool.decide_eq_true] at H5
    refine G_val (V_fieldAddr rfl rfl (by decide)) rfl rfl (.yes rfl rfl rfl rfl) ?_
    refine G_val (V_load rfl rfl (Cell.own (.head _) rfl)) rfl rfl (.yes rfl rfl rfl rfl) ?_
    refine G_val (V_gtr rfl rfl rfl) rfl rfl (.yes rfl rfl rfl rfl) ?_
    refine G_val (V_pick_f rfl rfl rfl) rfl rfl (.none rfl) ?_
    refine G_end ?_
    exact JQ_end 4 rfl rfl (by kernel_rfl)
  dsimp only [List.drop]
  refine G_val (V_assign rfl rfl) rfl rfl (.none rfl) ?_
  refine G_end (X_then ?_)
  refine G_cond rfl (fun H6 => ?_) (fun H6 => ?_)
  · simp only [Bool.and_eq_true, Bool.or_eq_true, Bool.not_eq_true', Bool.not_eq_false', Bool.and_eq_false_iff, Bool.or_eq_false_iff, Bool.not_not, decide_eq_true_eq, decide_eq_false_iff_not, ne_eq, Decidable.not_not, Bool.decide_eq_true] at H6
    refine G_seq (G_region ?_)
    refine G_val (V_assign rfl rfl) rfl rfl (.none rfl) ?_
    refine G_end (X_then (G_ret (X_block_ret (X_then_ret ?_))))
    refine G_leaveS (.drop _ (.nil _)) (by exact (.cons (.tmp rfl) (.nil))) rfl ?_ ?_
    · exact (.refl _)
    exact ⟨(by (simp (discharger := omega) only [resVal, limM, if_pos, if_neg]; first | done | rfl)), (by rfl)⟩
  simp only [Bool.and_eq_true, Bool.or_eq_true, Bool.not_eq_true', Bool.not_eq_false', Bool.and_eq_false_iff, Bool.or_eq_false_iff, Bool.not_not, decide_eq_true_eq, decide_eq_false_iff_not, ne_eq, Decidable.not_not, Bool.decide_eq_true] at H6
  refine G_seq (G_region ?_)
  refine G_val (V_fieldAddr rfl rfl (by decide)) rfl rfl (.none rfl) ?_
  refine G_val (V_load rfl rfl (Cell.own (.head _) rfl)) rfl rfl (.none rfl) ?_
  refine G_callv (k := 21) (.mk rfl rfl rfl rfl) rfl rfl (.none rfl) (ccounts_call _ _ _) ?_
  refine G_val (V_not rfl rfl) rfl rfl (.none rfl) ?_
  refine G_val (V_move rfl rfl) rfl rfl (.none rfl) ?_
  apply G_joinOr 5 26 31 rfl
  · intro H7
    dsimp only [List.take]
    simp only [Bool.and_eq_true, Bool.or_eq_true, Bool.not_eq_true', Bool.not_eq_false', Bool.and_eq_false_iff, Bool.or_eq_false_iff, Bool.not_not, decide_eq_true_eq, decide_eq_false_iff_not, ne_eq, Decidable.not_not, Bool.decide_eq_true] at H7
    refine G_stay (.no rfl rfl rfl rfl) rfl rfl ?_
    refine G_stay (.no rfl rfl rfl rfl) rfl rfl ?_
    refine G_stay (.no rfl rfl rfl rfl) rfl rfl ?_
    refine G_stay (.no rfl rfl rfl rfl) rfl rfl ?_
    refine G_val (V_pick_t rfl rfl rfl) rfl rfl (.none rfl) ?_
    refine G_end ?_
    exact JQ_end 5 rfl rfl (by kernel_rfl)
  · intro H8
    dsimp only [List.take]
    simp only [Bool.and_eq_true, Bool.or_eq_true, Bool.not_eq_true', Bool.not_eq_false', Bool.and_eq_false_iff, Bool.or_eq_false_iff, Bool.not_not, decide_eq_true_eq, decide_eq_false_iff_not, ne_eq, Decidable.not_not, Bool.decide_eq_true] at H8
    refine G_val (V_fieldAddr rfl rfl (by decide)) rfl rfl (.yes rfl rfl rfl rfl) ?_
    refine G_val (V_load rfl rfl (Cell.own (.head _) rfl)) rfl rfl (.yes rfl rfl rfl rfl) ?_
    refine G_callv (k := 21) (.mk rfl rfl rfl rfl) rfl rfl (.yes rfl rfl rfl rfl) (ccounts_call _ _ _) ?_
    refine G_val (V_not rfl rfl) rfl rfl (.yes rfl rfl rfl rfl) ?_
    refine G_val (V_pick_f rfl rfl rfl) rfl rfl (.none rfl) ?_
    refine G_end ?_
    exact JQ_end 5 rfl rfl (by kernel_rfl)
  dsimp only [List.drop]
  refine G_val (V_assign rfl rfl) rfl rfl (.none rfl) ?_
  refine G_end (X_then ?_)
  refine G_cond rfl (fun H9 => ?_) (fun H9 => ?_)
  · simp only [Bool.and_eq_true, Bool.or_eq_true, Bool.not_eq_true', Bool.not_eq_false', Bool.and_eq_false_iff, Bool.or_eq_false_iff, Bool.not_not, decide_eq_true_eq, decide_eq_false_iff_not, ne_eq, Decidable.not_not, Bool.decide_eq_true] at H9
    refine G_seq (G_region ?_)
    refine G_val (V_assign rfl rfl) rfl rfl (.none rfl) ?_
    refine G_end (X_then (G_ret (X_block_ret (X_then_ret ?_))))
    refine G_leaveS (.drop _ (.nil _)) (by exact (.cons (.tmp rfl) (.nil))) rfl ?_ ?_
    · exact (.refl _)
    exact ⟨(by (simp (discharger := omega) only [resVal, limM, if_pos, if_neg]; first | done | rfl)), (by rfl)⟩
  simp only [Bool.and_eq_true, Bool.or_eq_true, Bool.not_eq_true', Bool.not_eq_false', Bool.and_eq_false_iff, Bool.or_eq_false_iff, Bool.not_not, decide_eq_true_eq, decide_eq_false_iff_not, ne_eq, Decidable.not_not, Bool.decide_eq_true] at H9
  refine G_skip (X_block (X_then (G_seq (G_region ?_))))
  refine G_val (V_assign rfl rfl) rfl rfl (.none rfl) ?_
  refine G_end (X_then (G_ret ?_))
  refine G_leaveS (.drop _ (.nil _)) (by exact (.cons (.tmp rfl) (.nil))) rfl ?_ ?_
  · exact (.refl _)
  exact ⟨(by (simp (discharger := omega) only [resVal, limM, if_pos, if_neg]; first | done | rfl)), (by rfl)⟩
theorem LimitsR_call (d q s r : Int) : CallV Try.prog 10 #[.agg #[.int .i64 d, .int .i64 q, .int .i64 s, .int .i64 r]] E L (.int .i64 (limM d q s r)) := by
  refine CallS.toV (CallS.intro (l := [_]) _ Try.func10 rfl Try.ntmps10 rfl ?_)
  refine G_seq (G_region ?_)
  (refine G_boxA rfl rfl rfl rfl (.none rfl) ?_; intro b1)
  refine G_val (V_assign rfl rfl) rfl rfl (.none rfl) ?_
  refine G_end (X_then (G_seq (G_block (G_seq (G_region ?_)))))
  refine G_val (V_fieldAddr rfl rfl (by decide)) rfl rfl (.none rfl) ?_
  refine G_val (V_load rfl rfl (Cell.own (.head _) rfl)) rfl rfl (.none rfl) ?_
  refine G_val (V_lss rfl rfl rfl) rfl rfl (.none rfl) ?_
  refine G_val (V_move rfl rfl) rfl rfl (.none rfl) ?_
  apply G_joinOr 4 7 11 rfl
  · intro H1
    dsimp only [List.take]
    simp only [Bool.and_eq_true, Bool.or_eq_true, Bool.not_eq_true', Bool.not_eq_false', Bool.and_eq_false_iff, Bool.or_eq_false_iff, Bool.not_not, decide_eq_true_eq, decide_eq_false_iff_not, ne_eq, Decidable.not_not, Bool.decide_eq_true] at H1
    refine G_stay (.no rfl rfl rfl rfl) rfl rfl ?_
    refine G_stay (.no rfl rfl rfl rfl) rfl rfl ?_
    refine G_stay (.no rfl rfl rfl rfl) rfl rfl ?_
    refine G_val (V_pick_t rfl rfl rfl) rfl rfl (.none rfl) ?_
    refine G_end ?_
    exact JQ_end 4 rfl rfl (by kernel_rfl)
  · intro H2
    dsimp only [List.take]
    simp only [Bool.and_eq_true, Bool.or_eq_true, Bool.not_eq_true', Bool.not_eq_false', Bool.and_eq_false_iff, Bool.or_eq_false_iff, Bool.not_not, decide_eq_true_eq, decide_eq_false_iff_not, ne_eq, Decidable.not_not, Bool.decide_eq_true] at H2
    refine G_val (V_fieldAddr rfl rfl (by decide)) rfl rfl (.yes rfl rfl rfl rfl) ?_
    refine G_val (V_load rfl rfl (Cell.own (.head _) rfl)) rfl rfl (.yes rfl rfl rfl rfl) ?_
    refine G_val (V_gtr rfl rfl rfl) rfl rfl (.yes rfl rfl rfl rfl) ?_
    refine G_val (V_pick_f rfl rfl rfl) rfl rfl (.none rfl) ?_
    refine G_end ?_
    exact JQ_end 4 rfl rfl (by kernel_rfl)
  dsimp only [List.drop]
  refine G_val (V_assign rfl rfl) rfl rfl (.none rfl) ?_
  refine G_end (X_then ?_)
  refine G_cond rfl (fun H3 => ?_) (fun H3 => ?_)
  · simp only [Bool.and_eq_true, Bool.or_eq_true, Bool.not_eq_true', Bool.not_eq_false', Bool.and_eq_false_iff, Bool.or_eq_false_iff, Bool.not_not, decide_eq_true_eq, decide_eq_false_iff_not, ne_eq, Decidable.not_not, Bool.decide_eq_true] at H3
    refine G_seq (G_region ?_)
    refine G_val (V_assign rfl rfl) rfl rfl (.none rfl) ?_
    refine G_end (X_then (G_ret (X_block_ret (X_then_ret ?_))))
    refine G_leaveS (.drop _ (.nil _)) (by exact (.cons (.tmp rfl) (.nil))) rfl ?_ ?_
    · exact (.refl _)
    exact ⟨(by (simp (discharger := omega) only [resVal, limM, if_pos, if_neg]; first | done | rfl)), (by rfl)⟩
  simp only [Bool.and_eq_true, Bool.or_eq_true, Bool.not_eq_true', Bool.not_eq_false', Bool.and_eq_false_iff, Bool.or_eq_false_iff, Bool.not_not, decide_eq_true_eq, decide_eq_false_iff_not, ne_eq, Decidable.not_not, Bool.decide_eq_true] at H3
  refine G_seq (G_region ?_)
  refine G_val (V_fieldAddr rfl rfl (by decide)) rfl rfl (.none rfl) ?_
  refine G_val (V_load rfl rfl (Cell.own (.head _) rfl)) rfl rfl (.none rfl) ?_
  refine G_val (V_lss rfl rfl rfl) rfl rfl (.none rfl) ?_
  refine G_val (V_move rfl rfl) rfl rfl (.none rfl) ?_
  apply G_joinOr 4 16 20 rfl
  · intro H4
    dsimp only [List.take]
    simp only [Bool.and_eq_true, Bool.or_eq_true, Bool.not_eq_true', Bool.not_eq_false', Bool.and_eq_false_iff, Bool.or_eq_false_iff, Bool.not_not, decide_eq_true_eq, decide_eq_false_iff_not, ne_eq, Decidable.not_not, Bool.decide_eq_true] at H4
    refine G_stay (.no rfl rfl rfl rfl) rfl rfl ?_
    refine G_stay (.no rfl rfl rfl rfl) rfl rfl ?_
    refine G_stay (.no rfl rfl rfl rfl) rfl rfl ?_
    refine G_val (V_pick_t rfl rfl rfl) rfl rfl (.none rfl) ?_
    refine G_end ?_
    exact JQ_end 4 rfl rfl (by kernel_rfl)
  · intro H5
    dsimp only [List.take]
    simp only [Bool.and_eq_true, Bool.or_eq_true, Bool.not_eq_true', Bool.not_eq_false', Bool.and_eq_false_iff, Bool.or_eq_false_iff, Bool.not_not, decide_eq_true_eq, decide_eq_false_iff_not, ne_eq, Decidable.not_not, Bool.decide_eq_true] at H5
    refine G_val (V_fieldAddr rfl rfl (by decide)) rfl rfl (.yes rfl rfl rfl rfl) ?_
    refine G_val (V_load rfl rfl (Cell.own (.head _) rfl)) rfl rfl (.yes rfl rfl rfl rfl) ?_
    refine G_val (V_gtr rfl rfl rfl) rfl rfl (.yes rfl rfl rfl rfl) ?_
    refine G_val (V_pick_f rfl rfl rfl) rfl rfl (.none rfl) ?_
    refine G_end ?_
    exact JQ_end 4 rfl rfl (by kernel_rfl)
  dsimp only [List.drop]
  refine G_val (V_assign rfl rfl) rfl rfl (.none rfl) ?_
  refine G_end (X_then ?_)
  refine G_cond rfl (fun H6 => ?_) (fun H6 => ?_)
  · simp only [Bool.and_eq_true, Bool.or_eq_true, Bool.not_eq_true', Bool.not_eq_false', Bool.and_eq_false_iff, Bool.or_eq_false_iff, Bool.not_not, decide_eq_true_eq, decide_eq_false_iff_not, ne_eq, Decidable.not_not, Bool.decide_eq_true] at H6
    refine G_seq (G_region ?_)
    refine G_val (V_assign rfl rfl) rfl rfl (.none rfl) ?_
    refine G_end (X_then (G_ret (X_block_ret (X_then_ret ?_))))
    refine G_leaveS (.drop _ (.nil _)) (by exact (.cons (.tmp rfl) (.nil))) rfl ?_ ?_
    · exact (.refl _)
    exact ⟨(by (simp (discharger := omega) only [resVal, limM, if_pos, if_neg]; first | done | rfl)), (by rfl)⟩
  simp only [Bool.and_eq_true, Bool.or_eq_true, Bool.not_eq_true', Bool.not_eq_false', Bool.and_eq_false_iff, Bool.or_eq_false_iff, Bool.not_not, decide_eq_true_eq, decide_eq_false_iff_not, ne_eq, Decidable.not_not, Bool.decide_eq_true] at H6
  refine G_seq (G_region ?_)
  refine G_val (V_fieldAddr rfl rfl (by decide)) rfl rfl (.none rfl) ?_
  refine G_val (V_load rfl rfl (Cell.own (.head _) rfl)) rfl rfl (.none rfl) ?_
  refine G_callv (k := 22) (.mk rfl rfl rfl rfl) rfl rfl (.none rfl) (ccount_call _ _ _) ?_
  refine G_val (V_not rfl rfl) rfl rfl (.none rfl) ?_
  refine G_val (V_move rfl rfl) rfl rfl (.none rfl) ?_
  apply G_joinOr 5 26 31 rfl
  · intro H7
    dsimp only [List.take]
    simp only [Bool.and_eq_true, Bool.or_eq_true, Bool.not_eq_true', Bool.not_eq_false', Bool.and_eq_false_iff, Bool.or_eq_false_iff, Bool.not_not, decide_eq_true_eq, decide_eq_false_iff_not, ne_eq, Decidable.not_not, Bool.decide_eq_true] at H7
    refine G_stay (.no rfl rfl rfl rfl) rfl rfl ?_
    refine G_stay (.no rfl rfl rfl rfl) rfl rfl ?_
    refine G_stay (.no rfl rfl rfl rfl) rfl rfl ?_
    refine G_stay (.no rfl rfl rfl rfl) rfl rfl ?_
    refine G_val (V_pick_t rfl rfl rfl) rfl rfl (.none rfl) ?_
    refine G_end ?_
    exact JQ_end 5 rfl rfl (by kernel_rfl)
  · intro H8
    dsimp only [List.take]
    simp only [Bool.and_eq_true, Bool.or_eq_true, Bool.not_eq_true', Bool.not_eq_false', Bool.and_eq_false_iff, Bool.or_eq_false_iff, Bool.not_not, decide_eq_true_eq, decide_eq_false_iff_not, ne_eq, Decidable.not_not, Bool.decide_eq_true] at H8
    refine G_val (V_fieldAddr rfl rfl (by decide)) rfl rfl (.yes rfl rfl rfl rfl) ?_
    refine G_val (V_load rfl rfl (Cell.own (.head _) rfl)) rfl rfl (.yes rfl rfl rfl rfl) ?_
    refine G_callv (k := 22) (.mk rfl rfl rfl rfl) rfl rfl (.yes rfl rfl rfl rfl) (ccount_call _ _ _) ?_
    refine G_val (V_not rfl rfl) rfl rfl (.yes rfl rfl rfl rfl) ?_
    refine G_val (V_pick_f rfl rfl rfl) rfl rfl (.none rfl) ?_
    refine G_end ?_
    exact JQ_end 5 rfl rfl (by kernel_rfl)
  dsimp only [List.drop]
  refine G_val (V_assign rfl rfl) rfl rfl (.none rfl) ?_
  refine G_end (X_then ?_)
  refine G_cond rfl (fun H9 => ?_) (fun H9 => ?_)
  · simp only [Bool.and_eq_true, Bool.or_eq_true, Bool.not_eq_true', Bool.not_eq_false', Bool.and_eq_false_iff, Bool.or_eq_false_iff, Bool.not_not, decide_eq_true_eq, decide_eq_false_iff_not, ne_eq, Decidable.not_not, Bool.decide_eq_true] at H9
    refine G_seq (G_region ?_)
    refine G_val (V_assign rfl rfl) rfl rfl (.none rfl) ?_
    refine G_end (X_then (G_ret (X_block_ret (X_then_ret ?_))))
    refine G_leaveS (.drop _ (.nil _)) (by exact (.cons (.tmp rfl) (.nil))) rfl ?_ ?_
    · exact (.refl _)
    exact ⟨(by (simp (discharger := omega) only [resVal, limM, if_pos, if_neg]; first | done | rfl)), (by rfl)⟩
  simp only [Bool.and_eq_true, Bool.or_eq_true, Bool.not_eq_true', Bool.not_eq_false', Bool.and_eq_false_iff, Bool.or_eq_false_iff, Bool.not_not, decide_eq_true_eq, decide_eq_false_iff_not, ne_eq, Decidable.not_not, Bool.decide_eq_true] at H9
  refine G_skip (X_block (X_then (G_seq (G_region ?_))))
  refine G_val (V_assign rfl rfl) rfl rfl (.none rfl) ?_
  refine G_end (X_then (G_ret ?_))
  refine G_leaveS (.drop _ (.nil _)) (by exact (.cons (.tmp rfl) (.nil))) rfl ?_ ?_
  · exact (.refl _)
  exact ⟨(by (simp (discharger := omega) only [resVal, limM, if_pos, if_neg]; first | done | rfl)), (by rfl)⟩
theorem New_call (d q s r : Int) : CallV Try.prog 7 #[.agg #[.int .i64 d, .int .i64 q, .int .i64 s, .int .i64 r]] E L (.tuple #[fstV d q s r, .int .i64 (limM d q s r)]) := by
  unfold fstV
  by_cases h : limM d q s r = 0
  · rw [if_pos h]
    have hc := fun L0 => Limits_call E L0 d q s r
    rw [h] at hc ⊢
    refine CallS.toV (CallS.intro (l := [_]) _ Try.func7 rfl Try.ntmps7 rfl ?_)
    refine G_seq (G_region ?_)
    (refine G_boxA rfl rfl rfl rfl (.none rfl) ?_; intro b1)
    (refine G_alloc rfl rfl rfl (.none rfl) ?_; intro b2)
    refine G_val (V_assign rfl rfl) rfl rfl (.none rfl) ?_
    refine G_end (X_then (G_seq (G_seq (G_region ?_))))
    refine G_val (V_loadA rfl rfl (Cells.own (.tail _ (.head _))) rfl) rfl rfl (.none rfl) ?_
    refine G_callv (k := 9) (.mk rfl rfl rfl rfl) rfl rfl (.none rfl) (hc _) ?_
    refine G_val (V_assign rfl rfl) rfl rfl (.none rfl) ?_
    refine G_end (X_then (G_seq (G_region ?_)))
    refine G_val (V_move rfl rfl) rfl rfl (.none rfl) ?_
    refine G_val (V_neq rfl rfl rfl) rfl rfl (.none rfl) ?_
    refine G_end (X_then ?_)
    refine G_cond_f rfl (by kernel_rfl) ?_
    refine G_skip (X_then (G_seq (G_region ?_)))
    refine G_val (V_fieldAddr rfl rfl (by decide)) rfl rfl (.none rfl) ?_
    refine G_val (V_load rfl rfl (Cell.own (.tail _ (.head _)) rfl)) rfl rfl (.none rfl) ?_
    refine G_val (V_fieldAddr rfl rfl (by decide)) rfl rfl (.none rfl) ?_
    refine G_val (V_load rfl rfl (Cell.own (.tail _ (.head _)) rfl)) rfl rfl (.none rfl) ?_
    refine G_val (V_build rfl rfl (by simp [fillV, setLs, setL, Value.cells]; rfl)) rfl rfl (.none rfl) ?_
    refine G_storeA rfl rfl rfl rfl (by simp [Value.oneCell']) rfl (.none rfl) (.head _ _ _) rfl ?_
    refine G_val (V_assign rfl rfl) rfl rfl (.none rfl) ?_
    refine G_end (X_then (G_ret ?_))
    refine G_leaveS (.drop _ (.drop _ (.nil _))) (by exact (.cons (.cellA rfl (Cells.own (.head _)) rfl) (.cons (.tmp rfl) (.nil)))) rfl ?_ ?_
    · exact (.refl _)
    exact ⟨rfl, rfl⟩
  · rw [if_neg h]
    have hc := fun L0 => Limits_call E L0 d q s r
    generalize limM d q s r = x at *
    refine CallS.toV (CallS.intro (l := [_]) _ Try.func7 rfl Try.ntmps7 rfl ?_)
    refine G_seq (G_region ?_)
    (refine G_boxA rfl rfl rfl rfl (.none rfl) ?_; intro b1)
    (refine G_alloc rfl rfl rfl (.none rfl) ?_; intro b2)
    refine G_val (V_assign rfl rfl) rfl rfl (.none rfl) ?_
    refine G_end (X_then (G_seq (G_seq (G_region ?_))))
    refine G_val (V_loadA rfl rfl (Cells.own (.tail _ (.head _))) rfl) rfl rfl (.none rfl) ?_
    refine G_callv (k := 9) (.mk rfl rfl rfl rfl) rfl rfl (.none rfl) (hc _) ?_
    refine G_val (V_assign rfl rfl) rfl rfl (.none rfl) ?_
    refine G_end (X_then (G_seq (G_region ?_)))
    refine G_val (V_move rfl rfl) rfl rfl (.none rfl) ?_
    refine G_val (V_neq rfl rfl rfl) rfl rfl (.none rfl) ?_
    refine G_end (X_then ?_)
    refine G_cond_t rfl (decide_eq_true (by omega)) ?_
    refine G_seq (G_region ?_)
    refine G_val (V_build rfl rfl (by simp [fillV, setLs, setL, Value.cells]; rfl)) rfl rfl (.none rfl) ?_
    refine G_val (V_move rfl rfl) rfl rfl (.none rfl) ?_
    refine G_storeA rfl rfl rfl rfl (by simp [Value.oneCell']) rfl (.none rfl) (.head _ _ _) rfl ?_
    refine G_val (V_assign rfl rfl) rfl rfl (.none rfl) ?_
    refine G_end (X_then (G_ret (X_then_ret ?_)))
    refine G_leaveS (.drop _ (.drop _ (.nil _))) (by exact (.cons (.cellA rfl (Cells.own (.head _)) rfl) (.cons (.tmp rfl) (.nil)))) rfl ?_ ?_
    · exact (.refl _)
    exact ⟨rfl, rfl⟩
theorem NewR_call (d q s r : Int) : CallV Try.prog 8 #[.agg #[.int .i64 d, .int .i64 q, .int .i64 s, .int .i64 r]] E L (.tuple #[fstV d q s r, .int .i64 (limM d q s r)]) := by
  unfold fstV
  by_cases h : limM d q s r = 0
  · rw [if_pos h]
    have hc := fun L0 => LimitsR_call E L0 d q s r
    rw [h] at hc ⊢
    refine CallS.toV (CallS.intro (l := [_]) _ Try.func8 rfl Try.ntmps8 rfl ?_)
    refine G_seq (G_region ?_)
    (refine G_boxA rfl rfl rfl rfl (.none rfl) ?_; intro b1)
    (refine G_alloc rfl rfl rfl (.none rfl) ?_; intro b2)
    refine G_val (V_assign rfl rfl) rfl rfl (.none rfl) ?_
    refine G_end (X_then (G_seq (G_seq (G_region ?_))))
    refine G_val (V_loadA rfl rfl (Cells.own (.tail _ (.head _))) rfl) rfl rfl (.none rfl) ?_
    refine G_callv (k := 10) (.mk rfl rfl rfl rfl) rfl rfl (.none rfl) (hc _) ?_
    refine G_val (V_assign rfl rfl) rfl rfl (.none rfl) ?_
    refine G_end (X_then (G_seq (G_region ?_)))
    refine G_val (V_move rfl rfl) rfl rfl (.none rfl) ?_
    refine G_val (V_neq rfl rfl rfl) rfl rfl (.none rfl) ?_
    refine G_end (X_then ?_)
    refine G_cond_f rfl (by kernel_rfl) ?_
    refine G_skip (X_then (G_seq (G_region ?_)))
    refine G_val (V_fieldAddr rfl rfl (by decide)) rfl rfl (.none rfl) ?_
    refine G_val (V_load rfl rfl (Cell.own (.tail _ (.head _)) rfl)) rfl rfl (.none rfl) ?_
    refine G_val (V_fieldAddr rfl rfl (by decide)) rfl rfl (.none rfl) ?_
    refine G_val (V_load rfl rfl (Cell.own (.tail _ (.head _)) rfl)) rfl rfl (.none rfl) ?_
    refine G_val (V_build rfl rfl (by simp [fillV, setLs, setL, Value.cells]; rfl)) rfl rfl (.none rfl) ?_
    refine G_storeA rfl rfl rfl rfl (by simp [Value.oneCell']) rfl (.none rfl) (.head _ _ _) rfl ?_
    refine G_val (V_assign rfl rfl) rfl rfl (.none rfl) ?_
    refine G_end (X_then (G_ret ?_))
    refine G_leaveS (.drop _ (.drop _ (.nil _))) (by exact (.cons (.cellA rfl (Cells.own (.head _)) rfl) (.cons (.tmp rfl) (.nil)))) rfl ?_ ?_
    · exact (.refl _)
    exact ⟨rfl, rfl⟩
  · rw [if_neg h]
    have hc := fun L0 => LimitsR_call E L0 d q s r
    generalize limM d q s r = x at *
    refine CallS.toV (CallS.intro (l := [_]) _ Try.func8 rfl Try.ntmps8 rfl ?_)
    refine G_seq (G_region ?_)
    (refine G_boxA rfl rfl rfl rfl (.none rfl) ?_; intro b1)
    (refine G_alloc rfl rfl rfl (.none rfl) ?_; intro b2)
    refine G_val (V_assign rfl rfl) rfl rfl (.none rfl) ?_
    refine G_end (X_then (G_seq (G_seq (G_region ?_))))
    refine G_val (V_loadA rfl rfl (Cells.own (.tail _ (.head _))) rfl) rfl rfl (.none rfl) ?_
    refine G_callv (k := 10) (.mk rfl rfl rfl rfl) rfl rfl (.none rfl) (hc _) ?_
    refine G_val (V_assign rfl rfl) rfl rfl (.none rfl) ?_
    refine G_end (X_then (G_seq (G_region ?_)))
    refine G_val (V_move rfl rfl) rfl rfl (.none rfl) ?_
    refine G_val (V_neq rfl rfl rfl) rfl rfl (.none rfl) ?_
    refine G_end (X_then ?_)
    refine G_cond_t rfl (decide_eq_true (by omega)) ?_
    refine G_seq (G_region ?_)
    refine G_val (V_build rfl rfl (by simp [fillV, setLs, setL, Value.cells]; rfl)) rfl rfl (.none rfl) ?_
    refine G_val (V_move rfl rfl) rfl rfl (.none rfl) ?_
    refine G_storeA rfl rfl rfl rfl (by simp [Value.oneCell']) rfl (.none rfl) (.head _ _ _) rfl ?_
    refine G_val (V_assign rfl rfl) rfl rfl (.none rfl) ?_
    refine G_end (X_then (G_ret (X_then_ret ?_)))
    refine G_leaveS (.drop _ (.drop _ (.nil _))) (by exact (.cons (.cellA rfl (Cells.own (.head _)) rfl) (.cons (.tmp rfl) (.nil)))) rfl ?_ ?_
    · exact (.refl _)
    exact ⟨rfl, rfl⟩
theorem Stopped_call (st rc at' : Int) (part : List UInt8) (tp : Option Addr) (tn tc : Nat) (e ea : Int) (b : Bool) (sp : Option Addr) (sn sc : Nat) :
    CallV Try.prog 41 #[cfV st rc at' part tp tn tc e ea b sp sn sc] E L (.bool (decide (st = 4) || decide (st = 5) || decide (st = 6))) := by
  refine CallS.toV (CallS.intro (l := [_]) _ Try.func41 rfl Try.ntmps41 rfl ?_)
  refine G_seq (G_region ?_)
  (refine G_boxA rfl rfl rfl rfl (.none rfl) ?_; intro b1)
  refine G_val (V_assign rfl rfl) rfl rfl (.none rfl) ?_
  refine G_end (X_then (G_seq (G_region ?_)))
  refine G_val (V_fieldAddr rfl rfl (by decide)) rfl rfl (.none rfl) ?_
  refine G_val (V_load rfl rfl (Cell.own (.head _) rfl)) rfl rfl (.none rfl) ?_
  refine G_val (V_eql rfl rfl rfl) rfl rfl (.none rfl) ?_
  refine G_val (V_move rfl rfl) rfl rfl (.none rfl) ?_
  apply G_joinOr 4 6 10 rfl
  · intro H1
    dsimp only [List.take]
    simp only [Bool.and_eq_true, Bool.or_eq_true, Bool.not_eq_true', Bool.not_eq_false', Bool.and_eq_false_iff, Bool.or_eq_false_iff, Bool.not_not, decide_eq_true_eq, decide_eq_false_iff_not, ne_eq, Decidable.not_not, Bool.decide_eq_true] at H1
    refine G_stay (.no rfl rfl rfl rfl) rfl rfl ?_
    refine G_stay (.no rfl rfl rfl rfl) rfl rfl ?_
    refine G_stay (.no rfl rfl rfl rfl) rfl rfl ?_
    refine G_val (V_pick_t rfl rfl rfl) rfl rfl (.none rfl) ?_
    refine G_end ?_
    exact JQ_end 4 rfl rfl (by kernel_rfl)
  · intro H2
    dsimp only [List.take]
    simp only [Bool.and_eq_true, Bool.or_eq_true, Bool.not_eq_true', Bool.not_eq_false', Bool.and_eq_false_iff, Bool.or_eq_false_iff, Bool.not_not, decide_eq_true_eq, decide_eq_false_iff_not, ne_eq, Decidable.not_not, Bool.decide_eq_true] at H2
    refine G_val (V_fieldAddr rfl rfl (by decide)) rfl rfl (.yes rfl rfl rfl rfl) ?_
    refine G_val (V_load rfl rfl (Cell.own (.head _) rfl)) rfl rfl (.yes rfl rfl rfl rfl) ?_
    refine G_val (V_eql rfl rfl rfl) rfl rfl (.yes rfl rfl rfl rfl) ?_
    refine G_val (V_pick_f rfl rfl rfl) rfl rfl (.none rfl) ?_
    refine G_end ?_
    exact JQ_end 4 rfl rfl (by kernel_rfl)
  dsimp only [List.drop]
  refine G_val (V_move rfl rfl) rfl rfl (.none rfl) ?_
  apply G_joinOr 4 11 15 rfl
  · intro H3
    dsimp only [List.take]
    simp only [Bool.and_eq_true, Bool.or_eq_true, Bool.not_eq_true', Bool.not_eq_false', Bool.and_eq_false_iff, Bool.or_eq_false_iff, Bool.not_not, decide_eq_true_eq, decide_eq_false_iff_not, ne_eq, Decidable.not_not, Bool.decide_eq_true] at H3
    refine G_stay (.no rfl rfl rfl rfl) rfl rfl ?_
    refine G_stay (.no rfl rfl rfl rfl) rfl rfl ?_
    refine G_stay (.no rfl rfl rfl rfl) rfl rfl ?_
    refine G_val (V_pick_t rfl rfl rfl) rfl rfl (.none rfl) ?_
    refine G_end ?_
    exact JQ_end 4 rfl rfl (by kernel_rfl)
  · intro H4
    dsimp only [List.take]
    simp only [Bool.and_eq_true, Bool.or_eq_true, Bool.not_eq_true', Bool.not_eq_false', Bool.and_eq_false_iff, Bool.or_eq_false_iff, Bool.not_not, decide_eq_true_eq, decide_eq_false_iff_not, ne_eq, Decidable.not_not, Bool.decide_eq_true] at H4
    refine G_val (V_fieldAddr rfl rfl (by decide)) rfl rfl (.yes rfl rfl rfl rfl) ?_
    refine G_val (V_load rfl rfl (Cell.own (.head _) rfl)) rfl rfl (.yes rfl rfl rfl rfl) ?_
    refine G_val (V_eql rfl rfl rfl) rfl rfl (.yes rfl rfl rfl rfl) ?_
    refine G_val (V_pick_f rfl rfl rfl) rfl rfl (.none rfl) ?_
    refine G_end ?_
    exact JQ_end 4 rfl rfl (by kernel_rfl)
  dsimp only [List.drop]
  refine G_val (V_assign rfl rfl) rfl rfl (.none rfl) ?_
  refine G_end (X_then (G_ret ?_))
  refine G_leaveS (.drop _ (.nil _)) (by exact (.cons (.tmp rfl) (.nil))) rfl ?_ ?_
  · exact (.refl _)
  exact ⟨rfl, rfl⟩
end
end Go.Proofs.Ytimiokmgnclggaa
set_option linter.unusedSimpArgs false
set_option linter.unusedVariables false
set_option maxHeartbeats 2000000
set_option maxRecDepth 20000
namespace Go.Proofs.Ytimiokmgnclggaa
open Go.RowKit
/-! Whether configurations are equal, and light. -/
theorem spt_ne {a b : Spt} (h : a ≠ b) : ¬ (a.1 = b.1 ∧ a.2 = b.2) := fun ⟨h1, h2⟩ => h (Prod.ext h1 h2)
section
variable (E : Env) (L : List Res)
theorem SameSpots_call (p q : Option Addr) (n m c d : Nat) (xs ys : List Spt) (hx : SlE E 2 p n (spC xs)) (hy : SlE E 2 q m (spC ys)) (hn : n ≤ 1000000) (hm : m ≤ 1000000) :
    CallV Try.prog 24 #[.slice p n c, .slice q m d] E L (.bool (decide (xs = ys))) := by
  have e1 := hx.nSp; have e2 := hy.nSp; subst e1 e2
  refine CallS.toV (CallS.intro (l := [_, _]) _ Try.func24 rfl Try.ntmps24 rfl ?_)
  by_cases hlen : xs.length ≠ ys.length
  · have hne : xs ≠ ys := fun h => hlen (congrArg List.length h)
    refine G_seq (G_region ?_)
    refine G_val (V_assign rfl rfl) rfl rfl (.none rfl) ?_
    refine G_end (X_then (G_seq (G_seq (G_region ?_))))
    refine G_val (V_move rfl rfl) rfl rfl (.none rfl) ?_
    refine G_val (V_lenS rfl rfl) rfl rfl (.none rfl) ?_
    refine G_val (V_move rfl rfl) rfl rfl (.none rfl) ?_
    refine G_val (V_lenS rfl rfl) rfl rfl (.none rfl) ?_
    refine G_val (V_neq rfl rfl rfl) rfl rfl (.none rfl) ?_
    refine G_end (X_then ?_)
    refine G_cond_t rfl (decide_eq_true (by omega)) ?_
    refine G_seq (G_region ?_)
    refine G_val (V_assign rfl rfl) rfl rfl (.none rfl) ?_
    refine G_end (X_then (G_ret (X_then_ret ?_)))
    refine G_leaveS (.nil _) (by exact (.cons (.tmp rfl) (.nil))) rfl ?_ ?_
    · exact (.refl _)
    exact ⟨(by (simp [resVal, *]; done)), (by rfl)⟩
  refine G_seq (G_region ?_)
  refine G_val (V_assign rfl rfl) rfl rfl (.none rfl) ?_
  refine G_end (X_then (G_seq (G_seq (G_region ?_))))
  refine G_val (V_move rfl rfl) rfl rfl (.none rfl) ?_
  refine G_val (V_lenS rfl rfl) rfl rfl (.none rfl) ?_
  refine G_val (V_move rfl rfl) rfl rfl (.none rfl) ?_
  refine G_val (V_lenS rfl rfl) rfl rfl (.none rfl) ?_
  refine G_val (V_neq rfl rfl rfl) rfl rfl (.none rfl) ?_
  refine G_end (X_then ?_)
  refine G_cond_f rfl (decide_eq_false (by omega)) ?_
  refine G_skip (X_then (G_seq (G_seq (G_region ?_))))
  refine G_val (V_assign rfl rfl) rfl rfl (.none rfl) ?_
  refine G_end (X_then (G_block ?_))
  refine G_loop (α := Nat) (fun k => [(0, .slice p xs.length c), (1, .slice q ys.length d), (5, .int .i64 k)]) (fun _ => E) (fun _ => L)
    (fun k => k ≤ xs.length ∧ xs.take k = ys.take k) (fun k => xs.length - k) 0 ⟨Nat.zero_le _, by simp⟩ ⟨rfl, rfl, rfl, trivial⟩ rfl rfl ?_
  rintro k ⟨hk, hall⟩
  by_cases hlt : k < xs.length
  · have hlt' : k < ys.length := by omega
    have h1 := spC_get (List.getElem?_eq_getElem hlt)
    have h2 := spC_get (List.getElem?_eq_getElem hlt')
    by_cases he : xs[k] = ys[k]
    · rw [← he] at h2
      refine G_seq (G_seq (G_region ?_))
      refine G_val (V_move rfl rfl) rfl rfl (.none rfl) ?_
      refine G_val (V_move rfl rfl) rfl rfl (.none rfl) ?_
      refine G_val (V_lenS rfl rfl) rfl rfl (.none rfl) ?_
      refine G_val (V_lss rfl rfl rfl) rfl rfl (.none rfl) ?_
      refine G_end (X_then ?_)
      refine G_cond_t rfl (decide_eq_true (by omega)) ?_
      refine G_skip (X_then (G_seq (G_block (G_seq ?_))))
      refine G_draw mixed (by kernel_rfl) ?_
      refine Q_val (V_move rfl rfl) rfl rfl (.none rfl) ?_
      refine Q_val (V_move rfl rfl) rfl rfl (.none rfl) ?_
      refine Q_val (V_idxAddr rfl rfl rfl (SlE.rd (by assumption)) (by omega) (by omega)) rfl rfl (.none rfl) ?_
      refine Q_val (V_loadAS rfl rfl (SlE.rd (by assumption)) (by assumption) (by simp) (by rfl)) rfl rfl (.none rfl) ?_
      refine Q_val (V_move rfl rfl) rfl rfl (.none rfl) ?_
      refine Q_val (V_move rfl rfl) rfl rfl (.none rfl) ?_
      refine Q_val (V_idxAddr rfl rfl rfl (SlE.rd (by assumption)) (by omega) (by omega)) rfl rfl (.none rfl) ?_
      refine Q_val (V_loadAS rfl rfl (SlE.rd (by assumption)) (by assumption) (by simp) (by rfl)) rfl rfl (.none rfl) ?_
      refine Q_val (V_aneq_47 rfl rfl rfl) rfl rfl (.none rfl) ?_
      refine Q_end ?_
      refine X_then ?_
      refine G_cond_f rfl (decide_eq_false (by omega)) ?_
      refine G_skip (X_block (X_then (G_region ?_)))
      refine G_val (V_move rfl rfl) rfl rfl (.none rfl) ?_
      refine G_val (V_add_i64 rfl rfl rfl (by omega) (by omega)) rfl rfl (.none rfl) ?_
      refine G_val (V_assign rfl rfl) rfl rfl (.none rfl) ?_
      refine G_end (X_then ?_)
      exact G_again (k + 1) ⟨hlt, take_next hall hlt hlt' he⟩ (by omega) ⟨rfl, rfl, rfl, trivial⟩ rfl rfl
    · have hne : xs ≠ ys := fun h => he (by subst h; rfl)
      have hne2 := spt_ne he
      refine G_seq (G_seq (G_region ?_))
      refine G_val (V_move rfl rfl) rfl rfl (.none rfl) ?_
      refine G_val (V_move rfl rfl) rfl rfl (.none rfl) ?_
      refine G_val (V_lenS rfl rfl) rfl rfl (.none rfl) ?_
      refine G_val (V_lss rfl rfl rfl) rfl rfl (.none rfl) ?_
      refine G_end (X_then ?_)
      refine G_cond_t rfl (decide_eq_true (by omega)) ?_
      refine G_skip (X_then (G_seq (G_block (G_seq ?_))))
      refine G_draw mixed (by kernel_rfl) ?_
      refine Q_val (V_move rfl rfl) rfl rfl (.none rfl) ?_
      refine Q_val (V_move rfl rfl) rfl rfl (.none rfl) ?_
      refine Q_val (V_idxAddr rfl rfl rfl (SlE.rd (by assumption)) (by omega) (by omega)) rfl rfl (.none rfl) ?_
      refine Q_val (V_loadAS rfl rfl (SlE.rd (by assumption)) (by assumption) (by simp) (by rfl)) rfl rfl (.none rfl) ?_
      refine Q_val (V_move rfl rfl) rfl rfl (.none rfl) ?_
      refine Q_val (V_move rfl rfl) rfl rfl (.none rfl) ?_
      refine Q_val (V_idxAddr rfl rfl rfl (SlE.rd (by assumption)) (by omega) (by omega)) rfl rfl (.none rfl) ?_
      refine Q_val (V_loadAS rfl rfl (SlE.rd (by assumption)) (by assumption) (by simp) (by rfl)) rfl rfl (.none rfl) ?_
      refine Q_val (V_aneq_47 rfl rfl rfl) rfl rfl (.none rfl) ?_
      refine Q_end ?_
      refine X_then ?_
      refine G_cond_t rfl (decide_eq_true (by omega)) ?_
      refine G_seq (G_region ?_)
      refine G_val (V_assign rfl rfl) rfl rfl (.none rfl) ?_
      refine G_end (X_then (G_ret (X_block_ret (X_then_ret (X_then_ret (X_block_ret (X_then_ret ?_)))))))
      refine G_leaveS (.nil _) (by exact (.cons (.tmp rfl) (.nil))) rfl ?_ ?_
      · exact (.refl _)
      exact ⟨(by (simp [resVal, *]; done)), (by rfl)⟩
  · have heq : xs = ys := by rw [List.take_of_length_le (by omega), List.take_of_length_le (by omega)] at hall; exact hall
    refine G_seq (G_seq (G_region ?_))
    refine G_val (V_move rfl rfl) rfl rfl (.none rfl) ?_
    refine G_val (V_move rfl rfl) rfl rfl (.none rfl) ?_
    refine G_val (V_lenS rfl rfl) rfl rfl (.none rfl) ?_
    refine G_val (V_lss rfl rfl rfl) rfl rfl (.none rfl) ?_
    refine G_end (X_then ?_)
    refine G_cond_f rfl (decide_eq_false (by omega)) ?_
    refine G_exit (X_then_exit (X_then_exit (X_block_hit (X_then (G_seq (G_region ?_))))))
    refine G_val (V_assign rfl rfl) rfl rfl (.none rfl) ?_
    refine G_end (X_then (G_ret ?_))
    refine G_leaveS (.nil _) (by exact (.cons (.tmp rfl) (.nil))) rfl ?_ ?_
    · exact (.refl _)
    exact ⟨(by (simp [resVal, *]; done)), (by rfl)⟩
theorem Same25_call (p q : Option Addr) (n m c d : Nat) (xs ys : List Spt) (hx : SlE E 2 p n (spC xs)) (hy : SlE E 2 q m (spC ys)) (hn : n ≤ 1000000) (hm : m ≤ 1000000) :
    CallV Try.prog 28 #[.slice p n c, .slice q m d] E L (.bool (decide (xs = ys))) := by
  have e1 := hx.nSp; have e2 := hy.nSp; subst e1 e2
  refine CallS.toV (CallS.intro (l := [_, _]) _ Try.func28 rfl Try.ntmps28 rfl ?_)
  by_cases hlen : xs.length ≠ ys.length
  · have hne : xs ≠ ys := fun h => hlen (congrArg List.length h)
    refine G_seq (G_region ?_)
    refine G_val (V_assign rfl rfl) rfl rfl (.none rfl) ?_
    refine G_end (X_then (G_seq (G_seq (G_region ?_))))
    refine G_val (V_move rfl rfl) rfl rfl (.none rfl) ?_
    refine G_val (V_lenS rfl rfl) rfl rfl (.none rfl) ?_
    refine G_val (V_move rfl rfl) rfl rfl (.none rfl) ?_
    refine G_val (V_lenS rfl rfl) rfl rfl (.none rfl) ?_
    refine G_val (V_neq rfl rfl rfl) rfl rfl (.none rfl) ?_
    refine G_end (X_then ?_)
    refine G_cond_t rfl (decide_eq_true (by omega)) ?_
    refine G_seq (G_region ?_)
    refine G_val (V_assign rfl rfl) rfl rfl (.none rfl) ?_
    refine G_end (X_then (G_ret (X_then_ret ?_)))
    refine G_leaveS (.nil _) (by exact (.cons (.tmp rfl) (.nil))) rfl ?_ ?_
    · exact (.refl _)
    exact ⟨(by (simp [resVal, *]; done)), (by rfl)⟩
  refine G_seq (G_region ?_)
  refine G_val (V_assign rfl rfl) rfl rfl (.none rfl) ?_
  refine G_end (X_then (G_seq (G_seq (G_region ?_))))
  refine G_val (V_move rfl rfl) rfl rfl (.none rfl) ?_
  refine G_val (V_lenS rfl rfl) rfl rfl (.none rfl) ?_
  refine G_val (V_move rfl rfl) rfl rfl (.none rfl) ?_
  refine G_val (V_lenS rfl rfl) rfl rfl (.none rfl) ?_
  refine G_val (V_neq rfl rfl rfl) rfl rfl (.none rfl) ?_
  refine G_end (X_then ?_)
  refine G_cond_f rfl (decide_eq_false (by omega)) ?_
  refine G_skip (X_then (G_seq (G_seq (G_region ?_))))
  refine G_val (V_assign rfl rfl) rfl rfl (.none rfl) ?_
  refine G_end (X_then (G_block ?_))
  refine G_loop (α := Nat) (fun k => [(0, .slice p xs.length c), (1, .slice q ys.length d), (5, .int .i64 k)]) (fun _ => E) (fun _ => L)
    (fun k => k ≤ xs.length ∧ xs.take k = ys.take k) (fun k => xs.length - k) 0 ⟨Nat.zero_le _, by simp⟩ ⟨rfl, rfl, rfl, trivial⟩ rfl rfl ?_
  rintro k ⟨hk, hall⟩
  by_cases hlt : k < xs.length
  · have hlt' : k < ys.length := by omega
    have h1 := spC_get (List.getElem?_eq_getElem hlt)
    have h2 := spC_get (List.getElem?_eq_getElem hlt')
    by_cases he : xs[k] = ys[k]
    · rw [← he] at h2
      refine G_seq (G_seq (G_region ?_))
      refine G_val (V_move rfl rfl) rfl rfl (.none rfl) ?_
      refine G_val (V_move rfl rfl) rfl rfl (.none rfl) ?_
      refine G_val (V_lenS rfl rfl) rfl rfl (.none rfl) ?_
      refine G_val (V_lss rfl rfl rfl) rfl rfl (.none rfl) ?_
      refine G_end (X_then ?_)
      refine G_cond_t rfl (decide_eq_true (by omega)) ?_
      refine G_skip (X_then (G_seq (G_block (G_seq ?_))))
      refine G_draw mixed (by kernel_rfl) ?_
      refine Q_val (V_move rfl rfl) rfl rfl (.none rfl) ?_
      refine Q_val (V_move rfl rfl) rfl rfl (.none rfl) ?_
      refine Q_val (V_idxAddr rfl rfl rfl (SlE.rd (by assumption)) (by omega) (by omega)) rfl rfl (.none rfl) ?_
      refine Q_val (V_loadAS rfl rfl (SlE.rd (by assumption)) (by assumption) (by simp) (by rfl)) rfl rfl (.none rfl) ?_
      refine Q_val (V_move rfl rfl) rfl rfl (.none rfl) ?_
      refine Q_val (V_move rfl rfl) rfl rfl (.none rfl) ?_
      refine Q_val (V_idxAddr rfl rfl rfl (SlE.rd (by assumption)) (by omega) (by omega)) rfl rfl (.none rfl) ?_
      refine Q_val (V_loadAS rfl rfl (SlE.rd (by assumption)) (by assumption) (by simp) (by rfl)) rfl rfl (.none rfl) ?_
      refine Q_val (V_aneq_47 rfl rfl rfl) rfl rfl (.none rfl) ?_
      refine Q_end ?_
      refine X_then ?_
      refine G_cond_f rfl (decide_eq_false (by omega)) ?_
      refine G_skip (X_block (X_then (G_region ?_)))
      refine G_val (V_move rfl rfl) rfl rfl (.none rfl) ?_
      refine G_val (V_add_i64 rfl rfl rfl (by omega) (by omega)) rfl rfl (.none rfl) ?_
      refine G_val (V_assign rfl rfl) rfl rfl (.none rfl) ?_
      refine G_end (X_then ?_)
      exact G_again (k + 1) ⟨hlt, take_next hall hlt hlt' he⟩ (by omega) ⟨rfl, rfl, rfl, trivial⟩ rfl rfl
    · have hne : xs ≠ ys := fun h => he (by subst h; rfl)
      have hne2 := spt_ne he
      refine G_seq (G_seq (G_region ?_))
      refine G_val (V_move rfl rfl) rfl rfl (.none rfl) ?_
      refine G_val (V_move rfl rfl) rfl rfl (.none rfl) ?_
      refine G_val (V_lenS rfl rfl) rfl rfl (.none rfl) ?_
      refine G_val (V_lss rfl rfl rfl) rfl rfl (.none rfl) ?_
      refine G_end (X_then ?_)
      refine G_cond_t rfl (decide_eq_true (by omega)) ?_
      refine G_skip (X_then (G_seq (G_block (G_seq ?_))))
      refine G_draw mixed (by kernel_rfl) ?_
      refine Q_val (V_move rfl rfl) rfl rfl (.none rfl) ?_
      refine Q_val (V_move rfl rfl) rfl rfl (.none rfl) ?_
      refine Q_val (V_idxAddr rfl rfl rfl (SlE.rd (by assumption)) (by omega) (by omega)) rfl rfl (.none rfl) ?_
      refine Q_val (V_loadAS rfl rfl (SlE.rd (by assumption)) (by assumption) (by simp) (by rfl)) rfl rfl (.none rfl) ?_
      refine Q_val (V_move rfl rfl) rfl rfl (.none rfl) ?_
      refine Q_val (V_move rfl rfl) rfl rfl (.none rfl) ?_
      refine Q_val (V_idxAddr rfl rfl rfl (SlE.rd (by assumption)) (by omega) (by omega)) rfl rfl (.none rfl) ?_
      refine Q_val (V_loadAS rfl rfl (SlE.rd (by assumption)) (by assumption) (by simp) (by rfl)) rfl rfl (.none rfl) ?_
      refine Q_val (V_aneq_47 rfl rfl rfl) rfl rfl (.none rfl) ?_
      refine Q_end ?_
      refine X_then ?_
      refine G_cond_t rfl (decide_eq_true (by omega)) ?_
      refine G_seq (G_region ?_)
      refine G_val (V_assign rfl rfl) rfl rfl (.none rfl) ?_
      refine G_end (X_then (G_ret (X_block_ret (X_then_ret (X_then_ret (X_block_ret (X_then_ret ?_)))))))
      refine G_leaveS (.nil _) (by exact (.cons (.tmp rfl) (.nil))) rfl ?_ ?_
      · exact (.refl _)
      exact ⟨(by (simp [resVal, *]; done)), (by rfl)⟩
  · have heq : xs = ys := by rw [List.take_of_length_le (by omega), List.take_of_length_le (by omega)] at hall; exact hall
    refine G_seq (G_seq (G_region ?_))
    refine G_val (V_move rfl rfl) rfl rfl (.none rfl) ?_
    refine G_val (V_move rfl rfl) rfl rfl (.none rfl) ?_
    refine G_val (V_lenS rfl rfl) rfl rfl (.none rfl) ?_
    refine G_val (V_lss rfl rfl rfl) rfl rfl (.none rfl) ?_
    refine G_end (X_then ?_)
    refine G_cond_f rfl (decide_eq_false (by omega)) ?_
    refine G_exit (X_then_exit (X_then_exit (X_block_hit (X_then (G_seq (G_region ?_))))))
    refine G_val (V_assign rfl rfl) rfl rfl (.none rfl) ?_
    refine G_end (X_then (G_ret ?_))
    refine G_leaveS (.nil _) (by exact (.cons (.tmp rfl) (.nil))) rfl ?_ ?_
    · exact (.refl _)
    exact ⟨(by (simp [resVal, *]; done)), (by rfl)⟩
theorem EqualSp_call (p q : Option Addr) (n m c d : Nat) (xs ys : List Spt) (hx : SlE E 2 p n (spC xs)) (hy : SlE E 2 q m (spC ys)) (hn : n ≤ 1000000) (hm : m ≤ 1000000) :
    CallV Try.prog 44 #[.slice p n c, .slice q m d] E L (.bool (decide (xs = ys))) := by
  have e1 := hx.nSp; have e2 := hy.nSp; subst e1 e2
  refine CallS.toV (CallS.intro (l := [_, _]) _ Try.func44 rfl Try.ntmps44 rfl ?_)
  by_cases hlen : xs.length ≠ ys.length
  · have hne : xs ≠ ys := fun h => hlen (congrArg List.length h)
    refine G_seq (G_region ?_)
    refine G_val (V_assign rfl rfl) rfl rfl (.none rfl) ?_
    refine G_end (X_then (G_seq (G_seq (G_region ?_))))
    refine G_val (V_move rfl rfl) rfl rfl (.none rfl) ?_
    refine G_val (V_lenS rfl rfl) rfl rfl (.none rfl) ?_
    refine G_val (V_move rfl rfl) rfl rfl (.none rfl) ?_
    refine G_val (V_lenS rfl rfl) rfl rfl (.none rfl) ?_
    refine G_val (V_neq rfl rfl rfl) rfl rfl (.none rfl) ?_
    refine G_end (X_then ?_)
    refine G_cond_t rfl (decide_eq_true (by omega)) ?_
    refine G_seq (G_region ?_)
    refine G_val (V_assign rfl rfl) rfl rfl (.none rfl) ?_
    refine G_end (X_then (G_ret (X_then_ret ?_)))
    refine G_leaveS (.nil _) (by exact (.cons (.tmp rfl) (.nil))) rfl ?_ ?_
    · exact (.refl _)
    exact ⟨(by (simp [resVal, *]; done)), (by rfl)⟩
  refine G_seq (G_region ?_)
  refine G_val (V_assign rfl rfl) rfl rfl (.none rfl) ?_
  refine G_end (X_then (G_seq (G_seq (G_region ?_))))
  refine G_val (V_move rfl rfl) rfl rfl (.none rfl) ?_
  refine G_val (V_lenS rfl rfl) rfl rfl (.none rfl) ?_
  refine G_val (V_move rfl rfl) rfl rfl (.none rfl) ?_
  refine G_val (V_lenS rfl rfl) rfl rfl (.none rfl) ?_
  refine G_val (V_neq rfl rfl rfl) rfl rfl (.none rfl) ?_
  refine G_end (X_then ?_)
  refine G_cond_f rfl (decide_eq_false (by omega)) ?_
  refine G_skip (X_then (G_seq (G_seq (G_region ?_))))
  refine G_val (V_move rfl rfl) rfl rfl (.none rfl) ?_
  refine G_val (V_lenS rfl rfl) rfl rfl (.none rfl) ?_
  refine G_val (V_move rfl rfl) rfl rfl (.none rfl) ?_
  refine G_end (X_then (G_block ?_))
  refine G_loop (α := Nat) (fun k => [(0, .slice p xs.length c), (1, .slice q ys.length d), (12, .int .i64 xs.length), (13, .int .i64 k)]) (fun _ => E) (fun _ => L)
    (fun k => k ≤ xs.length ∧ xs.take k = ys.take k) (fun k => xs.length - k) 0 ⟨Nat.zero_le _, by simp⟩ ⟨rfl, rfl, rfl, rfl, trivial⟩ rfl rfl ?_
  rintro k ⟨hk, hall⟩
  by_cases hlt : k < xs.length
  · have hlt' : k < ys.length := by omega
    have h1 := spC_get (List.getElem?_eq_getElem hlt)
    have h2 := spC_get (List.getElem?_eq_getElem hlt')
    by_cases he : xs[k] = ys[k]
    · rw [← he] at h2
      refine G_seq (G_region ?_)
      refine G_val (V_lss rfl rfl rfl) rfl rfl (.none rfl) ?_
      refine G_end (X_then (G_seq ?_))
      refine G_cond_t rfl (decide_eq_true (by omega)) ?_
      refine G_skip (X_then (G_seq (G_block (G_seq (G_region ?_)))))
      refine G_val (V_move rfl rfl) rfl rfl (.none rfl) ?_
      refine G_val (V_assign rfl rfl) rfl rfl (.none rfl) ?_
      refine G_end (X_then (G_seq ?_))
      refine G_draw mixed (by kernel_rfl) ?_
      refine Q_val (V_move rfl rfl) rfl rfl (.none rfl) ?_
      refine Q_val (V_move rfl rfl) rfl rfl (.none rfl) ?_
      refine Q_val (V_idxAddr rfl rfl rfl (SlE.rd (by assumption)) (by omega) (by omega)) rfl rfl (.none rfl) ?_
      refine Q_val (V_loadAS rfl rfl (SlE.rd (by assumption)) (by assumption) (by simp) (by rfl)) rfl rfl (.none rfl) ?_
      refine Q_val (V_move rfl rfl) rfl rfl (.none rfl) ?_
      refine Q_val (V_move rfl rfl) rfl rfl (.none rfl) ?_
      refine Q_val (V_idxAddr rfl rfl rfl (SlE.rd (by assumption)) (by omega) (by omega)) rfl rfl (.none rfl) ?_
      refine Q_val (V_loadAS rfl rfl (SlE.rd (by assumption)) (by assumption) (by simp) (by rfl)) rfl rfl (.none rfl) ?_
      refine Q_val (V_aneq_47 rfl rfl rfl) rfl rfl (.none rfl) ?_
      refine Q_end ?_
      refine X_then ?_
      refine G_cond_f rfl (decide_eq_false (by omega)) ?_
      refine G_skip (X_block (X_then (G_region ?_)))
      refine G_val (V_add_i64 rfl rfl rfl (by omega) (by omega)) rfl rfl (.none rfl) ?_
      refine G_val (V_move rfl rfl) rfl rfl (.none rfl) ?_
      refine G_end (X_then ?_)
      exact G_again (k + 1) ⟨hlt, take_next hall hlt hlt' he⟩ (by omega) ⟨rfl, rfl, rfl, rfl, trivial⟩ rfl rfl
    · have hne : xs ≠ ys := fun h => he (by subst h; rfl)
      have hne2 := spt_ne he
      refine G_seq (G_region ?_)
      refine G_val (V_lss rfl rfl rfl) rfl rfl (.none rfl) ?_
      refine G_end (X_then (G_seq ?_))
      refine G_cond_t rfl (decide_eq_true (by omega)) ?_
      refine G_skip (X_then (G_seq (G_block (G_seq (G_region ?_)))))
      refine G_val (V_move rfl rfl) rfl rfl (.none rfl) ?_
      refine G_val (V_assign rfl rfl) rfl rfl (.none rfl) ?_
      refine G_end (X_then (G_seq ?_))
      refine G_draw mixed (by kernel_rfl) ?_
      refine Q_val (V_move rfl rfl) rfl rfl (.none rfl) ?_
      refine Q_val (V_move rfl rfl) rfl rfl (.none rfl) ?_
      refine Q_val (V_idxAddr rfl rfl rfl (SlE.rd (by assumption)) (by omega) (by omega)) rfl rfl (.none rfl) ?_
      refine Q_val (V_loadAS rfl rfl (SlE.rd (by assumption)) (by assumption) (by simp) (by rfl)) rfl rfl (.none rfl) ?_
      refine Q_val (V_move rfl rfl) rfl rfl (.none rfl) ?_
      refine Q_val (V_move rfl rfl) rfl rfl (.none rfl) ?_
      refine Q_val (V_idxAddr rfl rfl rfl (SlE.rd (by assumption)) (by omega) (by omega)) rfl rfl (.none rfl) ?_
      refine Q_val (V_loadAS rfl rfl (SlE.rd (by assumption)) (by assumption) (by simp) (by rfl)) rfl rfl (.none rfl) ?_
      refine Q_val (V_aneq_47 rfl rfl rfl) rfl rfl (.none rfl) ?_
      refine Q_end ?_
      refine X_then ?_
      refine G_cond_t rfl (decide_eq_true (by omega)) ?_
      refine G_seq (G_region ?_)
      refine G_val (V_assign rfl rfl) rfl rfl (.none rfl) ?_
      refine G_end (X_then (G_ret (X_block_ret (X_then_ret (X_then_ret (X_block_ret (X_then_ret ?_)))))))
      refine G_leaveS (.nil _) (by exact (.cons (.tmp rfl) (.nil))) rfl ?_ ?_
      · exact (.refl _)
      exact ⟨(by (simp [resVal, *]; done)), (by rfl)⟩
  · have heq : xs = ys := by rw [List.take_of_length_le (by omega), List.take_of_length_le (by omega)] at hall; exact hall
    refine G_seq (G_region ?_)
    refine G_val (V_lss rfl rfl rfl) rfl rfl (.none rfl) ?_
    refine G_end (X_then (G_seq ?_))
    refine G_cond_f rfl (decide_eq_false (by omega)) ?_
    refine G_exit (X_then_exit (X_then_exit (X_block_hit (X_then (G_seq (G_region ?_))))))
    refine G_val (V_assign rfl rfl) rfl rfl (.none rfl) ?_
    refine G_end (X_then (G_ret ?_))
    refine G_leaveS (.nil _) (by exact (.cons (.tmp rfl) (.nil))) rfl ?_ ?_
    · exact (.refl _)
    exact ⟨(by (simp [resVal, *]; done)), (by rfl)⟩
theorem EqualTk_call (p q : Option Addr) (n m c d : Nat) (xs ys : List Tok) (hx : SlE E 3 p n (toks xs)) (hy : SlE E 3 q m (toks ys)) (hn : n ≤ 1000000) (hm : m ≤ 1000000) :
    CallV Try.prog 43 #[.slice p n c, .slice q m d] E L (.bool (decide (xs = ys))) := by
  have e1 := hx.nT; have e2 := hy.nT; subst e1 e2
  refine CallS.toV (CallS.intro (l := [_, _]) _ Try.func43 rfl Try.ntmps43 rfl ?_)
  by_cases hlen : xs.length ≠ ys.length
  · have hne : xs ≠ ys := fun h => hlen (congrArg List.length h)
    refine G_seq (G_region ?_)
    refine G_val (V_assign rfl rfl) rfl rfl (.none rfl) ?_
    refine G_end (X_then (G_seq (G_seq (G_region ?_))))
    refine G_val (V_move rfl rfl) rfl rfl (.none rfl) ?_
    refine G_val (V_lenS rfl rfl) rfl rfl (.none rfl) ?_
    refine G_val (V_move rfl rfl) rfl rfl (.none rfl) ?_
    refine G_val (V_lenS rfl rfl) rfl rfl (.none rfl) ?_
    refine G_val (V_neq rfl rfl rfl) rfl rfl (.none rfl) ?_
    refine G_end (X_then ?_)
    refine G_cond_t rfl (decide_eq_true (by omega)) ?_
    refine G_seq (G_region ?_)
    refine G_val (V_assign rfl rfl) rfl rfl (.none rfl) ?_
    refine G_end (X_then (G_ret (X_then_ret ?_)))
    refine G_leaveS (.nil _) (by exact (.cons (.tmp rfl) (.nil))) rfl ?_ ?_
    · exact (.refl _)
    exact ⟨(by (simp [resVal, *]; done)), (by rfl)⟩
  refine G_seq (G_region ?_)
  refine G_val (V_assign rfl rfl) rfl rfl (.none rfl) ?_
  refine G_end (X_then (G_seq (G_seq (G_region ?_))))
  refine G_val (V_move rfl rfl) rfl rfl (.none rfl) ?_
  refine G_val (V_lenS rfl rfl) rfl rfl (.none rfl) ?_
  refine G_val (V_move rfl rfl) rfl rfl (.none rfl) ?_
  refine G_val (V_lenS rfl rfl) rfl rfl (.none rfl) ?_
  refine G_val (V_neq rfl rfl rfl) rfl rfl (.none rfl) ?_
  refine G_end (X_then ?_)
  refine G_cond_f rfl (decide_eq_false (by omega)) ?_
  refine G_skip (X_then (G_seq (G_seq (G_region ?_))))
  refine G_val (V_move rfl rfl) rfl rfl (.none rfl) ?_
  refine G_val (V_lenS rfl rfl) rfl rfl (.none rfl) ?_
  refine G_val (V_move rfl rfl) rfl rfl (.none rfl) ?_
  refine G_end (X_then (G_block ?_))
  refine G_loop (α := Nat) (fun k => [(0, .slice p xs.length c), (1, .slice q ys.length d), (12, .int .i64 xs.length), (13, .int .i64 k)]) (fun _ => E) (fun _ => L)
    (fun k => k ≤ xs.length ∧ xs.take k = ys.take k) (fun k => xs.length - k) 0 ⟨Nat.zero_le _, by simp⟩ ⟨rfl, rfl, rfl, rfl, trivial⟩ rfl rfl ?_
  rintro k ⟨hk, hall⟩
  by_cases hlt : k < xs.length
  · have hlt' : k < ys.length := by omega
    have h1 := toks_get (List.getElem?_eq_getElem hlt)
    have h2 := toks_get (List.getElem?_eq_getElem hlt')
    by_cases he : xs[k] = ys[k]
    · rw [← he] at h2
      refine G_seq (G_region ?_)
      refine G_val (V_lss rfl rfl rfl) rfl rfl (.none rfl) ?_
      refine G_end (X_then (G_seq ?_))
      refine G_cond_t rfl (decide_eq_true (by omega)) ?_
      refine G_skip (X_then (G_seq (G_block (G_seq (G_region ?_)))))
      refine G_val (V_move rfl rfl) rfl rfl (.none rfl) ?_
      refine G_val (V_assign rfl rfl) rfl rfl (.none rfl) ?_
      refine G_end (X_then (G_seq ?_))
      refine G_draw mixed (by kernel_rfl) ?_
      refine Q_val (V_move rfl rfl) rfl rfl (.none rfl) ?_
      refine Q_val (V_move rfl rfl) rfl rfl (.none rfl) ?_
      refine Q_val (V_idxAddr rfl rfl rfl (SlE.rd (by assumption)) (by omega) (by omega)) rfl rfl (.none rfl) ?_
      refine Q_val (V_loadAS rfl rfl (SlE.rd (by assumption)) (by assumption) (by simp) (by rfl)) rfl rfl (.none rfl) ?_
      refine Q_val (V_move rfl rfl) rfl rfl (.none rfl) ?_
      refine Q_val (V_move rfl rfl) rfl rfl (.none rfl) ?_
      refine Q_val (V_idxAddr rfl rfl rfl (SlE.rd (by assumption)) (by omega) (by omega)) rfl rfl (.none rfl) ?_
      refine Q_val (V_loadAS rfl rfl (SlE.rd (by assumption)) (by assumption) (by simp) (by rfl)) rfl rfl (.none rfl) ?_
      refine Q_val (V_aneq_49 rfl rfl rfl) rfl rfl (.none rfl) ?_
      refine Q_end ?_
      refine X_then ?_
      refine G_cond_f rfl (by simp [*]; done) ?_
      refine G_skip (X_block (X_then (G_region ?_)))
      refine G_val (V_add_i64 rfl rfl rfl (by omega) (by omega)) rfl rfl (.none rfl) ?_
      refine G_val (V_move rfl rfl) rfl rfl (.none rfl) ?_
      refine G_end (X_then ?_)
      exact G_again (k + 1) ⟨hlt, take_next hall hlt hlt' he⟩ (by omega) ⟨rfl, rfl, rfl, rfl, trivial⟩ rfl rfl
    · have hne : xs ≠ ys := fun h => he (by subst h; rfl)
      have hne2 := tok_ne he
      refine G_seq (G_region ?_)
      refine G_val (V_lss rfl rfl rfl) rfl rfl (.none rfl) ?_
      refine G_end (X_then (G_seq ?_))
      refine G_cond_t rfl (decide_eq_true (by omega)) ?_
      refine G_skip (X_then (G_seq (G_block (G_seq (G_region ?_)))))
      refine G_val (V_move rfl rfl) rfl rfl (.none rfl) ?_
      refine G_val (V_assign rfl rfl) rfl rfl (.none rfl) ?_
      refine G_end (X_then (G_seq ?_))
      refine G_draw mixed (by kernel_rfl) ?_
      refine Q_val (V_move rfl rfl) rfl rfl (.none rfl) ?_
      refine Q_val (V_move rfl rfl) rfl rfl (.none rfl) ?_
      refine Q_val (V_idxAddr rfl rfl rfl (SlE.rd (by assumption)) (by omega) (by omega)) rfl rfl (.none rfl) ?_
      refine Q_val (V_loadAS rfl rfl (SlE.rd (by assumption)) (by assumption) (by simp) (by rfl)) rfl rfl (.none rfl) ?_
      refine Q_val (V_move rfl rfl) rfl rfl (.none rfl) ?_
      refine Q_val (V_move rfl rfl) rfl rfl (.none rfl) ?_
      refine Q_val (V_idxAddr rfl rfl rfl (SlE.rd (by assumption)) (by omega) (by omega)) rfl rfl (.none rfl) ?_
      refine Q_val (V_loadAS rfl rfl (SlE.rd (by assumption)) (by assumption) (by simp) (by rfl)) rfl rfl (.none rfl) ?_
      refine Q_val (V_aneq_49 rfl rfl rfl) rfl rfl (.none rfl) ?_
      refine Q_end ?_
      refine X_then ?_
      refine G_cond_t rfl (decide_eq_true (by omega)) ?_
      refine G_seq (G_region ?_)
      refine G_val (V_assign rfl rfl) rfl rfl (.none rfl) ?_
      refine G_end (X_then (G_ret (X_block_ret (X_then_ret (X_then_ret (X_block_ret (X_then_ret ?_)))))))
      refine G_leaveS (.nil _) (by exact (.cons (.tmp rfl) (.nil))) rfl ?_ ?_
      · exact (.refl _)
      exact ⟨(by (simp [resVal, *]; done)), (by rfl)⟩
  · have heq : xs = ys := by rw [List.take_of_length_le (by omega), List.take_of_length_le (by omega)] at hall; exact hall
    refine G_seq (G_region ?_)
    refine G_val (V_lss rfl rfl rfl) rfl rfl (.none rfl) ?_
    refine G_end (X_then (G_seq ?_))
    refine G_cond_f rfl (decide_eq_false (by omega)) ?_
    refine G_exit (X_then_exit (X_then_exit (X_block_hit (X_then (G_seq (G_region ?_))))))
    refine G_val (V_assign rfl rfl) rfl rfl (.none rfl) ?_
    refine G_end (X_then (G_ret ?_))
    refine G_leaveS (.nil _) (by exact (.cons (.tmp rfl) (.nil))) rfl ?_ ?_
    · exact (.refl _)
    exact ⟨(by (simp [resVal, *]; done)), (by rfl)⟩
theorem equalSp_call (p q : Option Addr) (n m c d : Nat) (xs ys : List Spt) (hx : SlE E 2 p n (spC xs)) (hy : SlE E 2 q m (spC ys)) (hn : n ≤ 1000000) (hm : m ≤ 1000000) :
    CallV Try.prog 26 #[.slice p n c, .slice q m d] E L (.bool (decide (xs = ys))) := by
  refine CallS.toV (CallS.intro (l := [_, _]) _ Try.func26 rfl Try.ntmps26 rfl ?_)
  refine G_seq (G_region ?_)
  refine G_val (V_assign rfl rfl) rfl rfl (.none rfl) ?_
  refine G_end (X_then (G_seq (G_region ?_)))
  refine G_val (V_move rfl rfl) rfl rfl (.none rfl) ?_
  refine G_val (V_move rfl rfl) rfl rfl (.none rfl) ?_
  refine G_callv (k := 44) (.mk rfl rfl rfl rfl) rfl rfl (.none rfl) (EqualSp_call _ _ _ _ _ _ _ _ _ _ (by assumption) (by assumption) (by assumption) (by assumption)) ?_
  refine G_val (V_assign rfl rfl) rfl rfl (.none rfl) ?_
  refine G_end (X_then (G_ret ?_))
  refine G_leaveS (.nil _) (by exact (.cons (.tmp rfl) (.nil))) rfl ?_ ?_
  · exact (.refl _)
  exact ⟨rfl, rfl⟩
theorem equalTk_call (p q : Option Addr) (n m c d : Nat) (xs ys : List Tok) (hx : SlE E 3 p n (toks xs)) (hy : SlE E 3 q m (toks ys)) (hn : n ≤ 1000000) (hm : m ≤ 1000000) :
    CallV Try.prog 25 #[.slice p n c, .slice q m d] E L (.bool (decide (xs = ys))) := by
  refine CallS.toV (CallS.intro (l := [_, _]) _ Try.func25 rfl Try.ntmps25 rfl ?_)
  refine G_seq (G_region ?_)
  refine G_val (V_assign rfl rfl) rfl rfl (.none rfl) ?_
  refine G_end (X_then (G_seq (G_region ?_)))
  refine G_val (V_move rfl rfl) rfl rfl (.none rfl) ?_
  refine G_val (V_move rfl rfl) rfl rfl (.none rfl) ?_
  refine G_callv (k := 43) (.mk rfl rfl rfl rfl) rfl rfl (.none rfl) (EqualTk_call _ _ _ _ _ _ _ _ _ _ (by assumption) (by assumption) (by assumption) (by assumption)) ?_
  refine G_val (V_assign rfl rfl) rfl rfl (.none rfl) ?_
  refine G_end (X_then (G_ret ?_))
  refine G_leaveS (.nil _) (by exact (.cons (.tmp rfl) (.nil))) rfl ?_ ?_
  · exact (.refl _)
  exact ⟨rfl, rfl⟩
theorem Same26_call (p q : Option Addr) (n m c d : Nat) (e ea e' ea' : Int) (xs ys : List Tok) (hx : SlE E 3 p n (toks xs)) (hy : SlE E 3 q m (toks ys)) (hn : n ≤ 1000000) (hm : m ≤ 1000000) :
    CallV Try.prog 27 #[.agg #[.slice p n c, .int .i64 e, .int .i64 ea], .agg #[.slice q m d, .int .i64 e', .int .i64 ea']] E L (.bool (decide (e = e') && decide (ea = ea') && decide (xs = ys))) := by
  have e1 := hx.nT; have e2 := hy.nT; subst e1 e2
  by_cases h1 : e = e'
  · by_cases h2 : ea = ea'
    · subst h1 h2
      simp only [decide_true, Bool.true_and]
      by_cases hlen : xs.length ≠ ys.length
      · have hne : xs ≠ ys := fun h => hlen (congrArg List.length h)
        refine CallS.toV (CallS.intro (l := [_, _]) _ Try.func27 rfl Try.ntmps27 rfl ?_)
        refine G_seq (G_region ?_)
        (refine G_boxA rfl rfl rfl rfl (.none rfl) ?_; intro b2)
        (refine G_boxA rfl rfl rfl rfl (.none rfl) ?_; intro b3)
        refine G_val (V_assign rfl rfl) rfl rfl (.none rfl) ?_
        refine G_end (X_then (G_seq (G_seq (G_region ?_))))
        refine G_val (V_fieldAddr rfl rfl (by decide)) rfl rfl (.none rfl) ?_
        refine G_val (V_load rfl rfl (Cell.own (.tail _ (.head _)) rfl)) rfl rfl (.none rfl) ?_
        refine G_val (V_fieldAddr rfl rfl (by decide)) rfl rfl (.none rfl) ?_
        refine G_val (V_load rfl rfl (Cell.own (.head _) rfl)) rfl rfl (.none rfl) ?_
        refine G_val (V_neq rfl rfl rfl) rfl rfl (.none rfl) ?_
        refine G_val (V_move rfl rfl) rfl rfl (.none rfl) ?_
        refine G.bool_f 11 rfl (decide_eq_false (by omega)) ?_
        refine G_val (V_fieldAddr rfl rfl (by decide)) rfl rfl (.yes rfl rfl rfl rfl) ?_
        refine G_val (V_load rfl rfl (Cell.own (.tail _ (.head _)) rfl)) rfl rfl (.yes rfl rfl rfl rfl) ?_
        refine G_val (V_fieldAddr rfl rfl (by decide)) rfl rfl (.yes rfl rfl rfl rfl) ?_
        refine G_val (V_load rfl rfl (Cell.own (.head _) rfl)) rfl rfl (.yes rfl rfl rfl rfl) ?_
        refine G_val (V_neq rfl rfl rfl) rfl rfl (.yes rfl rfl rfl rfl) ?_
        refine G_val (V_pick_f rfl rfl rfl) rfl rfl (.none rfl) ?_
        refine G_val (V_move rfl rfl) rfl rfl (.none rfl) ?_
        refine G.bool_f 18 rfl (decide_eq_false (by omega)) ?_
        refine G_val (V_fieldAddr rfl rfl (by decide)) rfl rfl (.yes rfl rfl rfl rfl) ?_
        refine G_val (V_load rfl rfl (Cell.own (.tail _ (.head _)) rfl)) rfl rfl (.yes rfl rfl rfl rfl) ?_
        refine G_val (V_lenS rfl rfl) rfl rfl (.yes rfl rfl rfl rfl) ?_
        refine G_val (V_fieldAddr rfl rfl (by decide)) rfl rfl (.yes rfl rfl rfl rfl) ?_
        refine G_val (V_load rfl rfl (Cell.own (.head _) rfl)) rfl rfl (.yes rfl rfl rfl rfl) ?_
        refine G_val (V_lenS rfl rfl) rfl rfl (.yes rfl rfl rfl rfl) ?_
        refine G_val (V_neq rfl rfl rfl) rfl rfl (.yes rfl rfl rfl rfl) ?_
        refine G_val (V_pick_f rfl rfl rfl) rfl rfl (.none rfl) ?_
        refine G_end (X_then ?_)
        refine G_cond_t rfl (decide_eq_true (by omega)) ?_
        refine G_seq (G_region ?_)
        refine G_val (V_assign rfl rfl) rfl rfl (.none rfl) ?_
        refine G_end (X_then (G_ret (X_then_ret ?_)))
        refine G_leaveS (.drop _ (.drop _ (.nil _))) (by exact (.cons (.tmp rfl) (.nil))) rfl ?_ ?_
        · exact (.refl _)
        exact ⟨(by (simp [resVal, *]; done)), (by rfl)⟩
      refine CallS.toV (CallS.intro (l := [_, _]) _ Try.func27 rfl Try.ntmps27 rfl ?_)
      refine G_seq (G_region ?_)
      (refine G_boxA rfl rfl rfl rfl (.none rfl) ?_; intro b2)
      (refine G_boxA rfl rfl rfl rfl (.none rfl) ?_; intro b3)
      refine G_val (V_assign rfl rfl) rfl rfl (.none rfl) ?_
      refine G_end (X_then (G_seq (G_seq (G_region ?_))))
      refine G_val (V_fieldAddr rfl rfl (by decide)) rfl rfl (.none rfl) ?_
      refine G_val (V_load rfl rfl (Cell.own (.tail _ (.head _)) rfl)) rfl rfl (.none rfl) ?_
      refine G_val (V_fieldAddr rfl rfl (by decide)) rfl rfl (.none rfl) ?_
      refine G_val (V_load rfl rfl (Cell.own (.head _) rfl)) rfl rfl (.none rfl) ?_
      refine G_val (V_neq rfl rfl rfl) rfl rfl (.none rfl) ?_
      refine G_val (V_move rfl rfl) rfl rfl (.none rfl) ?_
      refine G.bool_f 11 rfl (decide_eq_false (by omega)) ?_
      refine G_val (V_fieldAddr rfl rfl (by decide)) rfl rfl (.yes rfl rfl rfl rfl) ?_
      refine G_val (V_load rfl rfl (Cell.own (.tail _ (.head _)) rfl)) rfl rfl (.yes rfl rfl rfl rfl) ?_
      refine G_val (V_fieldAddr rfl rfl (by decide)) rfl rfl (.yes rfl rfl rfl rfl) ?_
      refine G_val (V_load rfl rfl (Cell.own (.head _) rfl)) rfl rfl (.yes rfl rfl rfl rfl) ?_
      refine G_val (V_neq rfl rfl rfl) rfl rfl (.yes rfl rfl rfl rfl) ?_
      refine G_val (V_pick_f rfl rfl rfl) rfl rfl (.none rfl) ?_
      refine G_val (V_move rfl rfl) rfl rfl (.none rfl) ?_
      refine G.bool_f 18 rfl (decide_eq_false (by omega)) ?_
      refine G_val (V_fieldAddr rfl rfl (by decide)) rfl rfl (.yes rfl rfl rfl rfl) ?_
      refine G_val (V_load rfl rfl (Cell.own (.tail _ (.head _)) rfl)) rfl rfl (.yes rfl rfl rfl rfl) ?_
      refine G_val (V_lenS rfl rfl) rfl rfl (.yes rfl rfl rfl rfl) ?_
      refine G_val (V_fieldAddr rfl rfl (by decide)) rfl rfl (.yes rfl rfl rfl rfl) ?_
      refine G_val (V_load rfl rfl (Cell.own (.head _) rfl)) rfl rfl (.yes rfl rfl rfl rfl) ?_
      refine G_val (V_lenS rfl rfl) rfl rfl (.yes rfl rfl rfl rfl) ?_
      refine G_val (V_neq rfl rfl rfl) rfl rfl (.yes rfl rfl rfl rfl) ?_
      refine G_val (V_pick_f rfl rfl rfl) rfl rfl (.none rfl) ?_
      refine G_end (X_then ?_)
      refine G_cond_f rfl (decide_eq_false (by omega)) ?_
      refine G_skip (X_then (G_seq (G_seq (G_region ?_))))
      refine G_val (V_assign rfl rfl) rfl rfl (.none rfl) ?_
      refine G_end (X_then (G_block ?_))
      refine G_loop (α := Nat) (fun k => [(2, .pointer (some ⟨b2, 0, none⟩)), (3, .pointer (some ⟨b3, 0, none⟩)), (5, .int .i64 k)]) (fun _ => E)
        (fun _ => .blk b3 (.cells #[.slice q ys.length d, .int .i64 e, .int .i64 ea] 26 (0, 0)) :: .blk b2 (.cells #[.slice p xs.length c, .int .i64 e, .int .i64 ea] 26 (0, 0)) :: L)
        (fun k => k ≤ xs.length ∧ xs.take k = ys.take k) (fun k => xs.length - k) 0 ⟨Nat.zero_le _, by simp⟩ ⟨rfl, rfl, rfl, trivial⟩ rfl rfl ?_
      rintro k ⟨hk, hall⟩
      by_cases hlt : k < xs.length
      · have hlt' : k < ys.length := by omega
        have h1 := toks_get (List.getElem?_eq_getElem hlt)
        have h2 := toks_get (List.getElem?_eq_getElem hlt')
        by_cases he : xs[k] = ys[k]
        · rw [← he] at h2
          refine G_seq (G_seq (G_region ?_))
          refine G_val (V_move rfl rfl) rfl rfl (.none rfl) ?_
          refine G_val (V_fieldAddr rfl rfl (by decide)) rfl rfl (.none rfl) ?_
          refine G_val (V_load rfl rfl (Cell.own (.tail _ (.head _)) rfl)) rfl rfl (.none rfl) ?_
          refine G_val (V_lenS rfl rfl) rfl rfl (.none rfl) ?_
          refine G_val (V_lss rfl rfl rfl) rfl rfl (.none rfl) ?_
          refine G_end (X_then ?_)
          refine G_cond_t rfl (decide_eq_true (by omega)) ?_
          refine G_skip (X_then (G_seq (G_block (G_seq ?_))))
          refine G_draw mixed (by kernel_rfl) ?_
          refine Q_val (V_fieldAddr rfl rfl (by decide)) rfl rfl (.none rfl) ?_
          refine Q_val (V_load rfl rfl (Cell.own (.tail _ (.head _)) rfl)) rfl rfl (.none rfl) ?_
          refine Q_val (V_move rfl rfl) rfl rfl (.none rfl) ?_
          refine Q_val (V_idxAddr rfl rfl rfl (SlE.rd (by assumption)) (by omega) (by omega)) rfl rfl (.none rfl) ?_
          refine Q_val (V_loadAS rfl rfl (SlE.rd (by assumption)) (by assumption) (by simp) (by rfl)) rfl rfl (.none rfl) ?_
          refine Q_val (V_fieldAddr rfl rfl (by decide)) rfl rfl (.none rfl) ?_
          refine Q_val (V_load rfl rfl (Cell.own (.head _) rfl)) rfl rfl (.none rfl) ?_
          refine Q_val (V_move rfl rfl) rfl rfl (.none rfl) ?_
          refine Q_val (V_idxAddr rfl rfl rfl (SlE.rd (by assumption)) (by omega) (by omega)) rfl rfl (.none rfl) ?_
          refine Q_val (V_loadAS rfl rfl (SlE.rd (by assumption)) (by assumption) (by simp) (by rfl)) rfl rfl (.none rfl) ?_
          refine Q_val (V_aneq_49 rfl rfl rfl) rfl rfl (.none rfl) ?_
          refine Q_end ?_
          refine X_then ?_
          refine G_cond_f rfl (by simp [*]; done) ?_
          refine G_skip (X_block (X_then (G_region ?_)))
          refine G_val (V_move rfl rfl) rfl rfl (.none rfl) ?_
          refine G_val (V_add_i64 rfl rfl rfl (by omega) (by omega)) rfl rfl (.none rfl) ?_
          refine G_val (V_assign rfl rfl) rfl rfl (.none rfl) ?_
          refine G_end (X_then ?_)
          exact G_again (k + 1) ⟨hlt, take_next hall hlt hlt' he⟩ (by omega) ⟨rfl, rfl, rfl, trivial⟩ rfl rfl
        · have hne : xs ≠ ys := fun h => he (by subst h; rfl)
          have hne2 := tok_ne he
          refine G_seq (G_seq (G_region ?_))
          refine G_val (V_move rfl rfl) rfl rfl (.none rfl) ?_
          refine G_val (V_fieldAddr rfl rfl (by decide)) rfl rfl (.none rfl) ?_
          refine G_val (V_load rfl rfl (Cell.own (.tail _ (.head _)) rfl)) rfl rfl (.none rfl) ?_
          refine G_val (V_lenS rfl rfl) rfl rfl (.none rfl) ?_
          refine G_val (V_lss rfl rfl rfl) rfl rfl (.none rfl) ?_
          refine G_end (X_then ?_)
          refine G_cond_t rfl (decide_eq_true (by omega)) ?_
          refine G_skip (X_then (G_seq (G_block (G_seq ?_))))
          refine G_draw mixed (by kernel_rfl) ?_
          refine Q_val (V_fieldAddr rfl rfl (by decide)) rfl rfl (.none rfl) ?_
          refine Q_val (V_load rfl rfl (Cell.own (.tail _ (.head _)) rfl)) rfl rfl (.none rfl) ?_
          refine Q_val (V_move rfl rfl) rfl rfl (.none rfl) ?_
          refine Q_val (V_idxAddr rfl rfl rfl (SlE.rd (by assumption)) (by omega) (by omega)) rfl rfl (.none rfl) ?_
          refine Q_val (V_loadAS rfl rfl (SlE.rd (by assumption)) (by assumption) (by simp) (by rfl)) rfl rfl (.none rfl) ?_
          refine Q_val (V_fieldAddr rfl rfl (by decide)) rfl rfl (.none rfl) ?_
          refine Q_val (V_load rfl rfl (Cell.own (.head _) rfl)) rfl rfl (.none rfl) ?_
          refine Q_val (V_move rfl rfl) rfl rfl (.none rfl) ?_
          refine Q_val (V_idxAddr rfl rfl rfl (SlE.rd (by assumption)) (by omega) (by omega)) rfl rfl (.none rfl) ?_
          refine Q_val (V_loadAS rfl rfl (SlE.rd (by assumption)) (by assumption) (by simp) (by rfl)) rfl rfl (.none rfl) ?_
          refine Q_val (V_aneq_49 rfl rfl rfl) rfl rfl (.none rfl) ?_
          refine Q_end ?_
          refine X_then ?_
          refine G_cond_t rfl (decide_eq_true (by omega)) ?_
          refine G_seq (G_region ?_)
          refine G_val (V_assign rfl rfl) rfl rfl (.none rfl) ?_
          refine G_end (X_then (G_ret (X_block_ret (X_then_ret (X_then_ret (X_block_ret (X_then_ret ?_)))))))
          refine G_leaveS (.drop _ (.drop _ (.nil _))) (by exact (.cons (.tmp rfl) (.nil))) rfl ?_ ?_
          · exact (.refl _)
          exact ⟨(by (simp [resVal, *]; done)), (by rfl)⟩
      · have heq : xs = ys := by rw [List.take_of_length_le (by omega), List.take_of_length_le (by omega)] at hall; exact hall
        refine G_seq (G_seq (G_region ?_))
        refine G_val (V_move rfl rfl) rfl rfl (.none rfl) ?_
        refine G_val (V_fieldAddr rfl rfl (by decide)) rfl rfl (.none rfl) ?_
        refine G_val (V_load rfl rfl (Cell.own (.tail _ (.head _)) rfl)) rfl rfl (.none rfl) ?_
        refine G_val (V_lenS rfl rfl) rfl rfl (.none rfl) ?_
        refine G_val (V_lss rfl rfl rfl) rfl rfl (.none rfl) ?_
        refine G_end (X_then ?_)
        refine G_cond_f rfl (decide_eq_false (by omega)) ?_
        refine G_exit (X_then_exit (X_then_exit (X_block_hit (X_then (G_seq (G_region ?_))))))
        refine G_val (V_assign rfl rfl) rfl rfl (.none rfl) ?_
        refine G_end (X_then (G_ret ?_))
        refine G_leaveS (.drop _ (.drop _ (.nil _))) (by exact (.cons (.tmp rfl) (.nil))) rfl ?_ ?_
        · exact (.refl _)
        exact ⟨(by (simp [resVal, *]; done)), (by rfl)⟩
    · simp only [h2, decide_false, Bool.and_false, Bool.false_and]
      refine CallS.toV (CallS.intro (l := [_, _]) _ Try.func27 rfl Try.ntmps27 rfl ?_)
      refine G_seq (G_region ?_)
      (refine G_boxA rfl rfl rfl rfl (.none rfl) ?_; intro b2)
      (refine G_boxA rfl rfl rfl rfl (.none rfl) ?_; intro b3)
      refine G_val (V_assign rfl rfl) rfl rfl (.none rfl) ?_
      refine G_end (X_then (G_seq (G_seq (G_region ?_))))
      refine G_val (V_fieldAddr rfl rfl (by decide)) rfl rfl (.none rfl) ?_
      refine G_val (V_load rfl rfl (Cell.own (.tail _ (.head _)) rfl)) rfl rfl (.none rfl) ?_
      refine G_val (V_fieldAddr rfl rfl (by decide)) rfl rfl (.none rfl) ?_
      refine G_val (V_load rfl rfl (Cell.own (.head _) rfl)) rfl rfl (.none rfl) ?_
      refine G_val (V_neq rfl rfl rfl) rfl rfl (.none rfl) ?_
      refine G_val (V_move rfl rfl) rfl rfl (.none rfl) ?_
      refine G.bool_f 11 rfl (decide_eq_false (by omega)) ?_
      refine G_val (V_fieldAddr rfl rfl (by decide)) rfl rfl (.yes rfl rfl rfl rfl) ?_
      refine G_val (V_load rfl rfl (Cell.own (.tail _ (.head _)) rfl)) rfl rfl (.yes rfl rfl rfl rfl) ?_
      refine G_val (V_fieldAddr rfl rfl (by decide)) rfl rfl (.yes rfl rfl rfl rfl) ?_
      refine G_val (V_load rfl rfl (Cell.own (.head _) rfl)) rfl rfl (.yes rfl rfl rfl rfl) ?_
      refine G_val (V_neq rfl rfl rfl) rfl rfl (.yes rfl rfl rfl rfl) ?_
      refine G_val (V_pick_f rfl rfl rfl) rfl rfl (.none rfl) ?_
      refine G_val (V_move rfl rfl) rfl rfl (.none rfl) ?_
      refine G.bool_t 18 rfl (decide_eq_true (by omega)) ?_
      refine G_stay (.no rfl rfl rfl rfl) rfl rfl ?_
      refine G_stay (.no rfl rfl rfl rfl) rfl rfl ?_
      refine G_stay (.no rfl rfl rfl rfl) rfl rfl ?_
      refine G_stay (.no rfl rfl rfl rfl) rfl rfl ?_
      refine G_stay (.no rfl rfl rfl rfl) rfl rfl ?_
      refine G_stay (.no rfl rfl rfl rfl) rfl rfl ?_
      refine G_stay (.no rfl rfl rfl rfl) rfl rfl ?_
      refine G_val (V_pick_t rfl rfl rfl) rfl rfl (.none rfl) ?_
      refine G_end (X_then ?_)
      refine G_cond_t rfl rfl ?_
      refine G_seq (G_region ?_)
      refine G_val (V_assign rfl rfl) rfl rfl (.none rfl) ?_
      refine G_end (X_then (G_ret (X_then_ret ?_)))
      refine G_leaveS (.drop _ (.drop _ (.nil _))) (by exact (.cons (.tmp rfl) (.nil))) rfl ?_ ?_
      · exact (.refl _)
      exact ⟨(by kernel_rfl), rfl⟩
  · simp only [h1, decide_false, Bool.false_and]
    refine CallS.toV (CallS.intro (l := [_, _]) _ Try.func27 rfl Try.ntmps27 rfl ?_)
    refine G_seq (G_region ?_)
    (refine G_boxA rfl rfl rfl rfl (.none rfl) ?_; intro b2)
    (refine G_boxA rfl rfl rfl rfl (.none rfl) ?_; intro b3)
    refine G_val (V_assign rfl rfl) rfl rfl (.none rfl) ?_
    refine G_end (X_then (G_seq (G_seq (G_region ?_))))
    refine G_val (V_fieldAddr rfl rfl (by decide)) rfl rfl (.none rfl) ?_
    refine G_val (V_load rfl rfl (Cell.own (.tail _ (.head _)) rfl)) rfl rfl (.none rfl) ?_
    refine G_val (V_fieldAddr rfl rfl (by decide)) rfl rfl (.none rfl) ?_
    refine G_val (V_load rfl rfl (Cell.own (.head _) rfl)) rfl rfl (.none rfl) ?_
    refine G_val (V_neq rfl rfl rfl) rfl rfl (.none rfl) ?_
    refine G_val (V_move rfl rfl) rfl rfl (.none rfl) ?_
    refine G.bool_t 11 rfl (decide_eq_true (by omega)) ?_
    refine G_stay (.no rfl rfl rfl rfl) rfl rfl ?_
    refine G_stay (.no rfl rfl rfl rfl) rfl rfl ?_
    refine G_stay (.no rfl rfl rfl rfl) rfl rfl ?_
    refine G_stay (.no rfl rfl rfl rfl) rfl rfl ?_
    refine G_stay (.no rfl rfl rfl rfl) rfl rfl ?_
    refine G_val (V_pick_t rfl rfl rfl) rfl rfl (.none rfl) ?_
    refine G_val (V_move rfl rfl) rfl rfl (.none rfl) ?_
    refine G_stay (.no rfl rfl rfl rfl) rfl rfl ?_
    refine G_stay (.no rfl rfl rfl rfl) rfl rfl ?_
    refine G_stay (.no rfl rfl rfl rfl) rfl rfl ?_
    refine G_stay (.no rfl rfl rfl rfl) rfl rfl ?_
    refine G_stay (.no rfl rfl rfl rfl) rfl rfl ?_
    refine G_stay (.no rfl rfl rfl rfl) rfl rfl ?_
    refine G_stay (.no rfl rfl rfl rfl) rfl rfl ?_
    refine G_val (V_pick_t rfl rfl rfl) rfl rfl (.none rfl) ?_
    refine G_end (X_then ?_)
    refine G_cond_t rfl rfl ?_
    refine G_seq (G_region ?_)
    refine G_val (V_assign rfl rfl) rfl rfl (.none rfl) ?_
    refine G_end (X_then (G_ret (X_then_ret ?_)))
    refine G_leaveS (.drop _ (.drop _ (.nil _))) (by exact (.cons (.tmp rfl) (.nil))) rfl ?_ ?_
    · exact (.refl _)
    exact ⟨(by kernel_rfl), rfl⟩
end
end Go.Proofs.Ytimiokmgnclggaa
set_option linter.unusedSimpArgs false
set_option linter.unusedVariables false
set_option maxHeartbeats 2000000
set_option maxRecDepth 20000
namespace Go.Proofs.Ytimiokmgnclggaa
open Go.RowKit
/-! Whether configurations are equal, and light. -/
theorem toks_text {l : List Tok} {k : Nat} {t : Tok} (h : l[k]? = some t) : (toks l)[k * 3 + 1]? = some (.string (S t.text)) := by
  have h2 : (((toks l).drop (k * 3)).take 3)[1]? = some (.string (S t.text)) := by rw [toks_get h]; rfl
  simpa [List.getElem?_take, List.getElem?_drop] using h2
theorem toks_at {l : List Tok} {k : Nat} {t : Tok} (h : l[k]? = some t) : (toks l)[k * 3 + 2]? = some (.int .i64 t.at') := by
  have h2 : (((toks l).drop (k * 3)).take 3)[2]? = some (.int .i64 t.at') := by rw [toks_get h]; rfl
  simpa [List.getElem?_take, List.getElem?_drop] using h2
def lightT (l : List Tok) : Bool := l.all fun t => decide (t.text.length ≤ 100)
section
variable (E : Env) (L : List Res) (st rc at' st' rc' at'' : Int) (part part' : List UInt8) (tp tp' : Option Addr) (tn tc tn' tc' : Nat) (e ea e' ea' : Int) (b b' : Bool) (sp sp' : Option Addr) (sn sc sn' sc' : Nat) (xs ys : List Tok) (us vs : List Spt)
abbrev sameC (st rc at' st' rc' at'' : Int) (part part' : List UInt8) (e ea e' ea' : Int) (b b' : Bool) (xs ys : List Tok) (us vs : List Spt) : Bool :=
  decide (st = st') && decide (rc = rc') && decide (at' = at'') && decide (part = part') && decide (b = b') && (decide (e = e') && decide (ea = ea') && decide (xs = ys)) && decide (us = vs)
abbrev sameP (st rc at' st' rc' at'' : Int) (part part' : List UInt8) (e ea e' ea' : Int) (b b' : Bool) (xs ys : List Tok) (us vs : List Spt) : Bool :=
  decide (st = st') && decide (rc = rc') && decide (at' = at'') && decide (part = part') && decide (b = b') && decide (e = e') && decide (ea = ea') && decide (xs = ys) && decide (us = vs)
theorem sameP_eq : sameP st rc at' st' rc' at'' part part' e ea e' ea' b b' xs ys us vs = sameC st rc at' st' rc' at'' part part' e ea e' ea' b b' xs ys us vs := by
  simp only [sameP, sameC, Bool.and_assoc]
theorem SameConf_call (h1 : SlE E 3 tp tn (toks xs)) (h2 : SlE E 3 tp' tn' (toks ys)) (h3 : SlE E 2 sp sn (spC us)) (h4 : SlE E 2 sp' sn' (spC vs)) (n1 : tn ≤ 1000000) (n2 : tn' ≤ 1000000) (n3 : sn ≤ 1000000) (n4 : sn' ≤ 1000000) :
    CallV Try.prog 11 #[cfV st rc at' part tp tn tc e ea b sp sn sc, cfV st' rc' at'' part' tp' tn' tc' e' ea' b' sp' sn' sc'] E L (.bool (sameC st rc at' st' rc' at'' part part' e ea e' ea' b b' xs ys us vs)) := by
  refine CallS.toV (CallS.intro (l := [_, _]) _ Try.func11 rfl Try.ntmps11 rfl ?_)
  refine G_seq (G_region ?_)
  (refine G_boxA rfl rfl rfl rfl (.none rfl) ?_; intro b2)
  (refine G_boxA rfl rfl rfl rfl (.none rfl) ?_; intro b3)
  refine G_val (V_assign rfl rfl) rfl rfl (.none rfl) ?_
  refine G_end (X_then (G_seq (G_region ?_)))
  refine G_val (V_fieldAddr rfl rfl (by decide)) rfl rfl (.none rfl) ?_
  refine G_val (V_load rfl rfl (Cell.own (.tail _ (.head _)) rfl)) rfl rfl (.none rfl) ?_
  refine G_val (V_fieldAddr rfl rfl (by decide)) rfl rfl (.none rfl) ?_
  refine G_val (V_load rfl rfl (Cell.own (.head _) rfl)) rfl rfl (.none rfl) ?_
  refine G_val (V_eql rfl rfl rfl) rfl rfl (.none rfl) ?_
  refine G_val (V_move rfl rfl) rfl rfl (.none rfl) ?_
  apply G_joinAnd 6 10 16 rfl
  · intro H1
    dsimp only [List.take]
    simp only [Bool.and_eq_true, Bool.or_eq_true, Bool.not_eq_true', Bool.not_eq_false', Bool.and_eq_false_iff, Bool.or_eq_false_iff, Bool.not_not, decide_eq_true_eq, decide_eq_false_iff_not, ne_eq, Decidable.not_not, Bool.decide_eq_true] at H1
    refine G_val (V_fieldAddr rfl rfl (by decide)) rfl rfl (.yes rfl rfl rfl rfl) ?_
    refine G_val (V_load rfl rfl (Cell.own (.tail _ (.head _)) rfl)) rfl rfl (.yes rfl rfl rfl rfl) ?_
    refine G_val (V_fieldAddr rfl rfl (by decide)) rfl rfl (.yes rfl rfl rfl rfl) ?_
    refine G_val (V_load rfl rfl (Cell.own (.head _) rfl)) rfl rfl (.yes rfl rfl rfl rfl) ?_
    refine G_val (V_eql rfl rfl rfl) rfl rfl (.yes rfl rfl rfl rfl) ?_
    refine G_val (V_pick_t rfl rfl rfl) rfl rfl (.none rfl) ?_
    refine G_end ?_
    exact JQ_end 6 rfl rfl (by kernel_rfl)
  · intro H2
    dsimp only [List.take]
    simp only [Bool.and_eq_true, Bool.or_eq_true, Bool.not_eq_true', Bool.not_eq_false', Bool.and_eq_false_iff, Bool.or_eq_false_iff, Bool.not_not, decide_eq_true_eq, decide_eq_false_iff_not, ne_eq, Decidable.not_not, Bool.decide_eq_true] at H2
    refine G_stay (.no rfl rfl rfl rfl) rfl rfl ?_
    refine G_stay (.no rfl rfl rfl rfl) rfl rfl ?_
    refine G_stay (.no rfl rfl rfl rfl) rfl rfl ?_
    refine G_stay (.no rfl rfl rfl rfl) rfl rfl ?_
    refine G_stay (.no rfl rfl rfl rfl) rfl rfl ?_
    refine G_val (V_pick_f rfl rfl rfl) rfl rfl (.none rfl) ?_
    refine G_end ?_
    exact JQ_end 6 rfl rfl (by kernel_rfl)
  dsimp only [List.drop]
  refine G_val (V_move rfl rfl) rfl rfl (.none rfl) ?_
  apply G_joinAnd 6 17 23 rfl
  · intro H3
    dsimp only [List.take]
    simp only [Bool.and_eq_true, Bool.or_eq_true, Bool.not_eq_true', Bool.not_eq_false', Bool.and_eq_false_iff, Bool.or_eq_false_iff, Bool.not_not, decide_eq_true_eq, decide_eq_false_iff_not, ne_eq, Decidable.not_not, Bool.decide_eq_true] at H3
    refine G_val (V_fieldAddr rfl rfl (by decide)) rfl rfl (.yes rfl rfl rfl rfl) ?_
    refine G_val (V_load rfl rfl (Cell.own (.tail _ (.head _)) rfl)) rfl rfl (.yes rfl rfl rfl rfl) ?_
    refine G_val (V_fieldAddr rfl rfl (by decide)) rfl rfl (.yes rfl rfl rfl rfl) ?_
    refine G_val (V_load rfl rfl (Cell.own (.head _) rfl)) rfl rfl (.yes rfl rfl rfl rfl) ?_
    refine G_val (V_eql rfl rfl rfl) rfl rfl (.yes rfl rfl rfl rfl) ?_
    refine G_val (V_pick_t rfl rfl rfl) rfl rfl (.none rfl) ?_
    refine G_end ?_
    exact JQ_end 6 rfl rfl (by kernel_rfl)
  · intro H4
    dsimp only [List.take]
    simp only [Bool.and_eq_true, Bool.or_eq_true, Bool.not_eq_true', Bool.not_eq_false', Bool.and_eq_false_iff, Bool.or_eq_false_iff, Bool.not_not, decide_eq_true_eq, decide_eq_false_iff_not, ne_eq, Decidable.not_not, Bool.decide_eq_true] at H4
    refine G_stay (.no rfl rfl rfl rfl) rfl rfl ?_
    refine G_stay (.no rfl rfl rfl rfl) rfl rfl ?_
    refine G_stay (.no rfl rfl rfl rfl) rfl rfl ?_
    refine G_stay (.no rfl rfl rfl rfl) rfl rfl ?_
    refine G_stay (.no rfl rfl rfl rfl) rfl rfl ?_
    refine G_val (V_pick_f rfl rfl rfl) rfl rfl (.none rfl) ?_
    refine G_end ?_
    exact JQ_end 6 rfl rfl (by kernel_rfl)
  dsimp only [List.drop]
  refine G_val (V_move rfl rfl) rfl rfl (.none rfl) ?_
  apply G_joinAnd 6 24 30 rfl
  · intro H5
    dsimp only [List.take]
    simp only [Bool.and_eq_true, Bool.or_eq_true, Bool.not_eq_true', Bool.not_eq_false', Bool.and_eq_false_iff, Bool.or_eq_false_iff, Bool.not_not, decide_eq_true_eq, decide_eq_false_iff_not, ne_eq, Decidable.not_not, Bool.decide_eq_true] at H5
    refine G_val (V_fieldAddr rfl rfl (by decide)) rfl rfl (.yes rfl rfl rfl rfl) ?_
    refine G_val (V_load rfl rfl (Cell.own (.tail _ (.head _)) rfl)) rfl rfl (.yes rfl rfl rfl rfl) ?_
    refine G_val (V_fieldAddr rfl rfl (by decide)) rfl rfl (.yes rfl rfl rfl rfl) ?_
    refine G_val (V_load rfl rfl (Cell.own (.head _) rfl)) rfl rfl (.yes rfl rfl rfl rfl) ?_
    refine G_val (V_seql rfl rfl rfl) rfl rfl (.yes rfl rfl rfl rfl) ?_
    refine G_val (V_pick_t rfl rfl rfl) rfl rfl (.none rfl) ?_
    refine G_end ?_
    exact JQ_end 6 rfl rfl (by kernel_rfl)
  · intro H6
    dsimp only [List.take]
    simp only [Bool.and_eq_true, Bool.or_eq_true, Bool.not_eq_true', Bool.not_eq_false', Bool.and_eq_false_iff, Bool.or_eq_false_iff, Bool.not_not, decide_eq_true_eq, decide_eq_false_iff_not, ne_eq, Decidable.not_not, Bool.decide_eq_true] at H6
    refine G_stay (.no rfl rfl rfl rfl) rfl rfl ?_
    refine G_stay (.no rfl rfl rfl rfl) rfl rfl ?_
    refine G_stay (.no rfl rfl rfl rfl) rfl rfl ?_
    refine G_stay (.no rfl rfl rfl rfl) rfl rfl ?_
    refine G_stay (.no rfl rfl rfl rfl) rfl rfl ?_
    refine G_val (V_pick_f rfl rfl rfl) rfl rfl (.none rfl) ?_
    refine G_end ?_
    exact JQ_end 6 rfl rfl (by kernel_rfl)
  dsimp only [List.drop]
  refine G_val (V_move rfl rfl) rfl rfl (.none rfl) ?_
  apply G_joinAnd 6 31 37 rfl
  · intro H7
    dsimp only [List.take]
    simp only [Bool.and_eq_true, Bool.or_eq_true, Bool.not_eq_true', Bool.not_eq_false', Bool.and_eq_false_iff, Bool.or_eq_false_iff, Bool.not_not, decide_eq_true_eq, decide_eq_false_iff_not, ne_eq, Decidable.not_not, Bool.decide_eq_true] at H7
    refine G_val (V_fieldAddr rfl rfl (by decide)) rfl rfl (.yes rfl rfl rfl rfl) ?_
    refine G_val (V_load rfl rfl (Cell.own (.tail _ (.head _)) rfl)) rfl rfl (.yes rfl rfl rfl rfl) ?_
    refine G_val (V_fieldAddr rfl rfl (by decide)) rfl rfl (.yes rfl rfl rfl rfl) ?_
    refine G_val (V_load rfl rfl (Cell.own (.head _) rfl)) rfl rfl (.yes rfl rfl rfl rfl) ?_
    refine G_val (V_beql rfl rfl rfl) rfl rfl (.yes rfl rfl rfl rfl) ?_
    refine G_val (V_pick_t rfl rfl rfl) rfl rfl (.none rfl) ?_
    refine G_end ?_
    exact JQ_end 6 rfl rfl (by kernel_rfl)
  · intro H8
    dsimp only [List.take]
    simp only [Bool.and_eq_true, Bool.or_eq_true, Bool.not_eq_true', Bool.not_eq_false', Bool.and_eq_false_iff, Bool.or_eq_false_iff, Bool.not_not, decide_eq_true_eq, decide_eq_false_iff_not, ne_eq, Decidable.not_not, Bool.decide_eq_true] at H8
    refine G_stay (.no rfl rfl rfl rfl) rfl rfl ?_
    refine G_stay (.no rfl rfl rfl rfl) rfl rfl ?_
    refine G_stay (.no rfl rfl rfl rfl) rfl rfl ?_
    refine G_stay (.no rfl rfl rfl rfl) rfl rfl ?_
    refine G_stay (.no rfl rfl rfl rfl) rfl rfl ?_
    refine G_val (V_pick_f rfl rfl rfl) rfl rfl (.none rfl) ?_
    refine G_end ?_
    exact JQ_end 6 rfl rfl (by kernel_rfl)
  dsimp only [List.drop]
  refine G_val (V_move rfl rfl) rfl rfl (.none rfl) ?_
  apply G_joinAnd 6 38 44 rfl
  · intro H9
    dsimp only [List.take]
    simp only [Bool.and_eq_true, Bool.or_eq_true, Bool.not_eq_true', Bool.not_eq_false', Bool.and_eq_false_iff, Bool.or_eq_false_iff, Bool.not_not, decide_eq_true_eq, decide_eq_false_iff_not, ne_eq, Decidable.not_not, Bool.decide_eq_true] at H9
    refine G_val (V_fieldAddr rfl rfl (by decide)) rfl rfl (.yes rfl rfl rfl rfl) ?_
    refine G_val (V_loadF rfl rfl (.tail _ (.head _)) (by simp only [Nat.zero_add, List.drop_succ_cons, List.drop_zero, List.take_succ_cons, List.take_zero]; rfl) (by rfl)) rfl rfl (.yes rfl rfl rfl rfl) ?_
    refine G_val (V_fieldAddr rfl rfl (by decide)) rfl rfl (.yes rfl rfl rfl rfl) ?_
    refine G_val (V_loadF rfl rfl (.head _) (by simp only [Nat.zero_add, List.drop_succ_cons, List.drop_zero, List.take_succ_cons, List.take_zero]; rfl) (by rfl)) rfl rfl (.yes rfl rfl rfl rfl) ?_
    refine G_callv (k := 23) (.mk rfl rfl rfl rfl) rfl rfl (.yes rfl rfl rfl rfl) (SameRing_call _ _ _ _ _ _ _ _ _ _ _ _ _ _ (by assumption) (by assumption) (by assumption) (by assumption)) ?_
    refine G_val (V_pick_t rfl rfl rfl) rfl rfl (.none rfl) ?_
    refine G_end ?_
    exact JQ_end 6 rfl rfl (by kernel_rfl)
  · intro H10
    dsimp only [List.take]
    simp only [Bool.and_eq_true, Bool.or_eq_true, Bool.not_eq_true', Bool.not_eq_false', Bool.and_eq_false_iff, Bool.or_eq_false_iff, Bool.not_not, decide_eq_true_eq, decide_eq_false_iff_not, ne_eq, Decidable.not_not, Bool.decide_eq_true] at H10
    refine G_stay (.no rfl rfl rfl rfl) rfl rfl ?_
    refine G_stay (.no rfl rfl rfl rfl) rfl rfl ?_
    refine G_stay (.no rfl rfl rfl rfl) rfl rfl ?_
    refine G_stay (.no rfl rfl rfl rfl) rfl rfl ?_
    refine G_stay (.no rfl rfl rfl rfl) rfl rfl ?_
    refine G_val (V_pick_f rfl rfl rfl) rfl rfl (.none rfl) ?_
    refine G_end ?_
    exact JQ_end 6 rfl rfl (by kernel_rfl)
  dsimp only [List.drop]
  refine G_val (V_move rfl rfl) rfl rfl (.none rfl) ?_
  apply G_joinAnd 6 45 51 rfl
  · intro H11
    dsimp only [List.take]
    simp only [Bool.and_eq_true, Bool.or_eq_true, Bool.not_eq_true', Bool.not_eq_false', Bool.and_eq_false_iff, Bool.or_eq_false_iff, Bool.not_not, decide_eq_true_eq, decide_eq_false_iff_not, ne_eq, Decidable.not_not, Bool.decide_eq_true] at H11
    refine G_val (V_fieldAddr rfl rfl (by decide)) rfl rfl (.yes rfl rfl rfl rfl) ?_
    refine G_val (V_load rfl rfl (Cell.own (.tail _ (.head _)) rfl)) rfl rfl (.yes rfl rfl rfl rfl) ?_
    refine G_val (V_fieldAddr rfl rfl (by decide)) rfl rfl (.yes rfl rfl rfl rfl) ?_
    refine G_val (V_load rfl rfl (Cell.own (.head _) rfl)) rfl rfl (.yes rfl rfl rfl rfl) ?_
    refine G_callv (k := 24) (.mk rfl rfl rfl rfl) rfl rfl (.yes rfl rfl rfl rfl) (SameSpots_call _ _ _ _ _ _ _ _ _ _ (by assumption) (by assumption) (by assumption) (by assumption)) ?_
    refine G_val (V_pick_t rfl rfl rfl) rfl rfl (.none rfl) ?_
    refine G_end ?_
    exact JQ_end 6 rfl rfl (by kernel_rfl)
  · intro H12
    dsimp only [List.take]
    simp only [Bool.and_eq_true, Bool.or_eq_true, Bool.not_eq_true', Bool.not_eq_false', Bool.and_eq_false_iff, Bool.or_eq_false_iff, Bool.not_not, decide_eq_true_eq, decide_eq_false_iff_not, ne_eq, Decidable.not_not, Bool.decide_eq_true] at H12
    refine G_stay (.no rfl rfl rfl rfl) rfl rfl ?_
    refine G_stay (.no rfl rfl rfl rfl) rfl rfl ?_
    refine G_stay (.no rfl rfl rfl rfl) rfl rfl ?_
    refine G_stay (.no rfl rfl rfl rfl) rfl rfl ?_
    refine G_stay (.no rfl rfl rfl rfl) rfl rfl ?_
    refine G_val (V_pick_f rfl rfl rfl) rfl rfl (.none rfl) ?_
    refine G_end ?_
    exact JQ_end 6 rfl rfl (by kernel_rfl)
  dsimp only [List.drop]
  refine G_val (V_assign rfl rfl) rfl rfl (.none rfl) ?_
  refine G_end (X_then (G_ret ?_))
  refine G_leaveS (.drop _ (.drop _ (.nil _))) (by exact (.cons (.tmp rfl) (.nil))) rfl ?_ ?_
  · exact (.refl _)
  exact ⟨rfl, rfl⟩
theorem Same27_call (h1 : SlE E 3 tp tn (toks xs)) (h2 : SlE E 3 tp' tn' (toks ys)) (h3 : SlE E 2 sp sn (spC us)) (h4 : SlE E 2 sp' sn' (spC vs)) (n1 : tn ≤ 1000000) (n2 : tn' ≤ 1000000) (n3 : sn ≤ 1000000) (n4 : sn' ≤ 1000000) :
    CallV Try.prog 13 #[cfV st rc at' part tp tn tc e ea b sp sn sc, cfV st' rc' at'' part' tp' tn' tc' e' ea' b' sp' sn' sc'] E L (.bool (sameC st rc at' st' rc' at'' part part' e ea e' ea' b b' xs ys us vs)) := by
  refine CallS.toV (CallS.intro (l := [_, _]) _ Try.func13 rfl Try.ntmps13 rfl ?_)
  refine G_seq (G_region ?_)
  (refine G_boxA rfl rfl rfl rfl (.none rfl) ?_; intro b2)
  (refine G_boxA rfl rfl rfl rfl (.none rfl) ?_; intro b3)
  refine G_val (V_assign rfl rfl) rfl rfl (.none rfl) ?_
  refine G_end (X_then (G_seq (G_region ?_)))
  refine G_val (V_fieldAddr rfl rfl (by decide)) rfl rfl (.none rfl) ?_
  refine G_val (V_load rfl rfl (Cell.own (.tail _ (.head _)) rfl)) rfl rfl (.none rfl) ?_
  refine G_val (V_fieldAddr rfl rfl (by decide)) rfl rfl (.none rfl) ?_
  refine G_val (V_load rfl rfl (Cell.own (.head _) rfl)) rfl rfl (.none rfl) ?_
  refine G_val (V_eql rfl rfl rfl) rfl rfl (.none rfl) ?_
  refine G_val (V_move rfl rfl) rfl rfl (.none rfl) ?_
  apply G_joinAnd 6 10 16 rfl
  · intro H1
    dsimp only [List.take]
    simp only [Bool.and_eq_true, Bool.or_eq_true, Bool.not_eq_true', Bool.not_eq_false', Bool.and_eq_false_iff, Bool.or_eq_false_iff, Bool.not_not, decide_eq_true_eq, decide_eq_false_iff_not, ne_eq, Decidable.not_not, Bool.decide_eq_true] at H1
    refine G_val (V_fieldAddr rfl rfl (by decide)) rfl rfl (.yes rfl rfl rfl rfl) ?_
    refine G_val (V_load rfl rfl (Cell.own (.tail _ (.head _)) rfl)) rfl rfl (.yes rfl rfl rfl rfl) ?_
    refine G_val (V_fieldAddr rfl rfl (by decide)) rfl rfl (.yes rfl rfl rfl rfl) ?_
    refine G_val (V_load rfl rfl (Cell.own (.head _) rfl)) rfl rfl (.yes rfl rfl rfl rfl) ?_
    refine G_val (V_eql rfl rfl rfl) rfl rfl (.yes rfl rfl rfl rfl) ?_
    refine G_val (V_pick_t rfl rfl rfl) rfl rfl (.none rfl) ?_
    refine G_end ?_
    exact JQ_end 6 rfl rfl (by kernel_rfl)
  · intro H2
    dsimp only [List.take]
    simp only [Bool.and_eq_true, Bool.or_eq_true, Bool.not_eq_true', Bool.not_eq_false', Bool.and_eq_false_iff, Bool.or_eq_false_iff, Bool.not_not, decide_eq_true_eq, decide_eq_false_iff_not, ne_eq, Decidable.not_not, Bool.decide_eq_true] at H2
    refine G_stay (.no rfl rfl rfl rfl) rfl rfl ?_
    refine G_stay (.no rfl rfl rfl rfl) rfl rfl ?_
    refine G_stay (.no rfl rfl rfl rfl) rfl rfl ?_
    refine G_stay (.no rfl rfl rfl rfl) rfl rfl ?_
    refine G_stay (.no rfl rfl rfl rfl) rfl rfl ?_
    refine G_val (V_pick_f rfl rfl rfl) rfl rfl (.none rfl) ?_
    refine G_end ?_
    exact JQ_end 6 rfl rfl (by kernel_rfl)
  dsimp only [List.drop]
  refine G_val (V_move rfl rfl) rfl rfl (.none rfl) ?_
  apply G_joinAnd 6 17 23 rfl
  · intro H3
    dsimp only [List.take]
    simp only [Bool.and_eq_true, Bool.or_eq_true, Bool.not_eq_true', Bool.not_eq_false', Bool.and_eq_false_iff, Bool.or_eq_false_iff, Bool.not_not, decide_eq_true_eq, decide_eq_false_iff_not, ne_eq, Decidable.not_not, Bool.decide_eq_true] at H3
    refine G_val (V_fieldAddr rfl rfl (by decide)) rfl rfl (.yes rfl rfl rfl rfl) ?_
    refine G_val (V_load rfl rfl (Cell.own (.tail _ (.head _)) rfl)) rfl rfl (.yes rfl rfl rfl rfl) ?_
    refine G_val (V_fieldAddr rfl rfl (by decide)) rfl rfl (.yes rfl rfl rfl rfl) ?_
    refine G_val (V_load rfl rfl (Cell.own (.head _) rfl)) rfl rfl (.yes rfl rfl rfl rfl) ?_
    refine G_val (V_eql rfl rfl rfl) rfl rfl (.yes rfl rfl rfl rfl) ?_
    refine G_val (V_pick_t rfl rfl rfl) rfl rfl (.none rfl) ?_
    refine G_end ?_
    exact JQ_end 6 rfl rfl (by kernel_rfl)
  · intro H4
    dsimp only [List.take]
    simp only [Bool.and_eq_true, Bool.or_eq_true, Bool.not_eq_true', Bool.not_eq_false', Bool.and_eq_false_iff, Bool.or_eq_false_iff, Bool.not_not, decide_eq_true_eq, decide_eq_false_iff_not, ne_eq, Decidable.not_not, Bool.decide_eq_true] at H4
    refine G_stay (.no rfl rfl rfl rfl) rfl rfl ?_
    refine G_stay (.no rfl rfl rfl rfl) rfl rfl ?_
    refine G_stay (.no rfl rfl rfl rfl) rfl rfl ?_
    refine G_stay (.no rfl rfl rfl rfl) rfl rfl ?_
    refine G_stay (.no rfl rfl rfl rfl) rfl rfl ?_
    refine G_val (V_pick_f rfl rfl rfl) rfl rfl (.none rfl) ?_
    refine G_end ?_
    exact JQ_end 6 rfl rfl (by kernel_rfl)
  dsimp only [List.drop]
  refine G_val (V_move rfl rfl) rfl rfl (.none rfl) ?_
  apply G_joinAnd 6 24 30 rfl
  · intro H5
    dsimp only [List.take]
    simp only [Bool.and_eq_true, Bool.or_eq_true, Bool.not_eq_true', Bool.not_eq_false', Bool.and_eq_false_iff, Bool.or_eq_false_iff, Bool.not_not, decide_eq_true_eq, decide_eq_false_iff_not, ne_eq, Decidable.not_not, Bool.decide_eq_true] at H5
    refine G_val (V_fieldAddr rfl rfl (by decide)) rfl rfl (.yes rfl rfl rfl rfl) ?_
    refine G_val (V_load rfl rfl (Cell.own (.tail _ (.head _)) rfl)) rfl rfl (.yes rfl rfl rfl rfl) ?_
    refine G_val (V_fieldAddr rfl rfl (by decide)) rfl rfl (.yes rfl rfl rfl rfl) ?_
    refine G_val (V_load rfl rfl (Cell.own (.head _) rfl)) rfl rfl (.yes rfl rfl rfl rfl) ?_
    refine G_val (V_seql rfl rfl rfl) rfl rfl (.yes rfl rfl rfl rfl) ?_
    refine G_val (V_pick_t rfl rfl rfl) rfl rfl (.none rfl) ?_
    refine G_end ?_
    exact JQ_end 6 rfl rfl (by kernel_rfl)
  · intro H6
    dsimp only [List.take]
    simp only [Bool.and_eq_true, Bool.or_eq_true, Bool.not_eq_true', Bool.not_eq_false', Bool.and_eq_false_iff, Bool.or_eq_false_iff, Bool.not_not, decide_eq_true_eq, decide_eq_false_iff_not, ne_eq, Decidable.not_not, Bool.decide_eq_true] at H6
    refine G_stay (.no rfl rfl rfl rfl) rfl rfl ?_
    refine G_stay (.no rfl rfl rfl rfl) rfl rfl ?_
    refine G_stay (.no rfl rfl rfl rfl) rfl rfl ?_
    refine G_stay (.no rfl rfl rfl rfl) rfl rfl ?_
    refine G_stay (.no rfl rfl rfl rfl) rfl rfl ?_
    refine G_val (V_pick_f rfl rfl rfl) rfl rfl (.none rfl) ?_
    refine G_end ?_
    exact JQ_end 6 rfl rfl (by kernel_rfl)
  dsimp only [List.drop]
  refine G_val (V_move rfl rfl) rfl rfl (.none rfl) ?_
  apply G_joinAnd 6 31 37 rfl
  · intro H7
    dsimp only [List.take]
    simp only [Bool.and_eq_true, Bool.or_eq_true, Bool.not_eq_true', Bool.not_eq_false', Bool.and_eq_false_iff, Bool.or_eq_false_iff, Bool.not_not, decide_eq_true_eq, decide_eq_false_iff_not, ne_eq, Decidable.not_not, Bool.decide_eq_true] at H7
    refine G_val (V_fieldAddr rfl rfl (by decide)) rfl rfl (.yes rfl rfl rfl rfl) ?_
    refine G_val (V_load rfl rfl (Cell.own (.tail _ (.head _)) rfl)) rfl rfl (.yes rfl rfl rfl rfl) ?_
    refine G_val (V_fieldAddr rfl rfl (by decide)) rfl rfl (.yes rfl rfl rfl rfl) ?_
    refine G_val (V_load rfl rfl (Cell.own (.head _) rfl)) rfl rfl (.yes rfl rfl rfl rfl) ?_
    refine G_val (V_beql rfl rfl rfl) rfl rfl (.yes rfl rfl rfl rfl) ?_
    refine G_val (V_pick_t rfl rfl rfl) rfl rfl (.none rfl) ?_
    refine G_end ?_
    exact JQ_end 6 rfl rfl (by kernel_rfl)
  · intro H8
    dsimp only [List.take]
    simp only [Bool.and_eq_true, Bool.or_eq_true, Bool.not_eq_true', Bool.not_eq_false', Bool.and_eq_false_iff, Bool.or_eq_false_iff, Bool.not_not, decide_eq_true_eq, decide_eq_false_iff_not, ne_eq, Decidable.not_not, Bool.decide_eq_true] at H8
    refine G_stay (.no rfl rfl rfl rfl) rfl rfl ?_
    refine G_stay (.no rfl rfl rfl rfl) rfl rfl ?_
    refine G_stay (.no rfl rfl rfl rfl) rfl rfl ?_
    refine G_stay (.no rfl rfl rfl rfl) rfl rfl ?_
    refine G_stay (.no rfl rfl rfl rfl) rfl rfl ?_
    refine G_val (V_pick_f rfl rfl rfl) rfl rfl (.none rfl) ?_
    refine G_end ?_
    exact JQ_end 6 rfl rfl (by kernel_rfl)
  dsimp only [List.drop]
  refine G_val (V_move rfl rfl) rfl rfl (.none rfl) ?_
  apply G_joinAnd 6 38 44 rfl
  · intro H9
    dsimp only [List.take]
    simp only [Bool.and_eq_true, Bool.or_eq_true, Bool.not_eq_true', Bool.not_eq_false', Bool.and_eq_false_iff, Bool.or_eq_false_iff, Bool.not_not, decide_eq_true_eq, decide_eq_false_iff_not, ne_eq, Decidable.not_not, Bool.decide_eq_true] at H9
    refine G_val (V_fieldAddr rfl rfl (by decide)) rfl rfl (.yes rfl rfl rfl rfl) ?_
    refine G_val (V_loadF rfl rfl (.tail _ (.head _)) (by simp only [Nat.zero_add, List.drop_succ_cons, List.drop_zero, List.take_succ_cons, List.take_zero]; rfl) (by rfl)) rfl rfl (.yes rfl rfl rfl rfl) ?_
    refine G_val (V_fieldAddr rfl rfl (by decide)) rfl rfl (.yes rfl rfl rfl rfl) ?_
    refine G_val (V_loadF rfl rfl (.head _) (by simp only [Nat.zero_add, List.drop_succ_cons, List.drop_zero, List.take_succ_cons, List.take_zero]; rfl) (by rfl)) rfl rfl (.yes rfl rfl rfl rfl) ?_
    refine G_callv (k := 27) (.mk rfl rfl rfl rfl) rfl rfl (.yes rfl rfl rfl rfl) (Same26_call _ _ _ _ _ _ _ _ _ _ _ _ _ _ (by assumption) (by assumption) (by assumption) (by assumption)) ?_
    refine G_val (V_pick_t rfl rfl rfl) rfl rfl (.none rfl) ?_
    refine G_end ?_
    exact JQ_end 6 rfl rfl (by kernel_rfl)
  · intro H10
    dsimp only [List.take]
    simp only [Bool.and_eq_true, Bool.or_eq_true, Bool.not_eq_true', Bool.not_eq_false', Bool.and_eq_false_iff, Bool.or_eq_false_iff, Bool.not_not, decide_eq_true_eq, decide_eq_false_iff_not, ne_eq, Decidable.not_not, Bool.decide_eq_true] at H10
    refine G_stay (.no rfl rfl rfl rfl) rfl rfl ?_
    refine G_stay (.no rfl rfl rfl rfl) rfl rfl ?_
    refine G_stay (.no rfl rfl rfl rfl) rfl rfl ?_
    refine G_stay (.no rfl rfl rfl rfl) rfl rfl ?_
    refine G_stay (.no rfl rfl rfl rfl) rfl rfl ?_
    refine G_val (V_pick_f rfl rfl rfl) rfl rfl (.none rfl) ?_
    refine G_end ?_
    exact JQ_end 6 rfl rfl (by kernel_rfl)
  dsimp only [List.drop]
  refine G_val (V_move rfl rfl) rfl rfl (.none rfl) ?_
  apply G_joinAnd 6 45 51 rfl
  · intro H11
    dsimp only [List.take]
    simp only [Bool.and_eq_true, Bool.or_eq_true, Bool.not_eq_true', Bool.not_eq_false', Bool.and_eq_false_iff, Bool.or_eq_false_iff, Bool.not_not, decide_eq_true_eq, decide_eq_false_iff_not, ne_eq, Decidable.not_not, Bool.decide_eq_true] at H11
    refine G_val (V_fieldAddr rfl rfl (by decide)) rfl rfl (.yes rfl rfl rfl rfl) ?_
    refine G_val (V_load rfl rfl (Cell.own (.tail _ (.head _)) rfl)) rfl rfl (.yes rfl rfl rfl rfl) ?_
    refine G_val (V_fieldAddr rfl rfl (by decide)) rfl rfl (.yes rfl rfl rfl rfl) ?_
    refine G_val (V_load rfl rfl (Cell.own (.head _) rfl)) rfl rfl (.yes rfl rfl rfl rfl) ?_
    refine G_callv (k := 28) (.mk rfl rfl rfl rfl) rfl rfl (.yes rfl rfl rfl rfl) (Same25_call _ _ _ _ _ _ _ _ _ _ (by assumption) (by assumption) (by assumption) (by assumption)) ?_
    refine G_val (V_pick_t rfl rfl rfl) rfl rfl (.none rfl) ?_
    refine G_end ?_
    exact JQ_end 6 rfl rfl (by kernel_rfl)
  · intro H12
    dsimp only [List.take]
    simp only [Bool.and_eq_true, Bool.or_eq_true, Bool.not_eq_true', Bool.not_eq_false', Bool.and_eq_false_iff, Bool.or_eq_false_iff, Bool.not_not, decide_eq_true_eq, decide_eq_false_iff_not, ne_eq, Decidable.not_not, Bool.decide_eq_true] at H12
    refine G_stay (.no rfl rfl rfl rfl) rfl rfl ?_
    refine G_stay (.no rfl rfl rfl rfl) rfl rfl ?_
    refine G_stay (.no rfl rfl rfl rfl) rfl rfl ?_
    refine G_stay (.no rfl rfl rfl rfl) rfl rfl ?_
    refine G_stay (.no rfl rfl rfl rfl) rfl rfl ?_
    refine G_val (V_pick_f rfl rfl rfl) rfl rfl (.none rfl) ?_
    refine G_end ?_
    exact JQ_end 6 rfl rfl (by kernel_rfl)
  dsimp only [List.drop]
  refine G_val (V_assign rfl rfl) rfl rfl (.none rfl) ?_
  refine G_end (X_then (G_ret ?_))
  refine G_leaveS (.drop _ (.drop _ (.nil _))) (by exact (.cons (.tmp rfl) (.nil))) rfl ?_ ?_
  · exact (.refl _)
  exact ⟨rfl, rfl⟩
theorem CSame_call (h1 : SlE E 3 tp tn (toks xs)) (h2 : SlE E 3 tp' tn' (toks ys)) (h3 : SlE E 2 sp sn (spC us)) (h4 : SlE E 2 sp' sn' (spC vs)) (n1 : tn ≤ 1000000) (n2 : tn' ≤ 1000000) (n3 : sn ≤ 1000000) (n4 : sn' ≤ 1000000) :
    CallV Try.prog 12 #[cfV st rc at' part tp tn tc e ea b sp sn sc, cfV st' rc' at'' part' tp' tn' tc' e' ea' b' sp' sn' sc'] E L (.bool (sameC st rc at' st' rc' at'' part part' e ea e' ea' b b' xs ys us vs)) := by
  rw [← sameP_eq]
  refine CallS.toV (CallS.intro (l := [_, _]) _ Try.func12 rfl Try.ntmps12 rfl ?_)
  refine G_seq (G_region ?_)
  (refine G_boxA rfl rfl rfl rfl (.none rfl) ?_; intro b2)
  (refine G_boxA rfl rfl rfl rfl (.none rfl) ?_; intro b3)
  refine G_val (V_assign rfl rfl) rfl rfl (.none rfl) ?_
  refine G_end (X_then (G_seq (G_region ?_)))
  refine G_val (V_fieldAddr rfl rfl (by decide)) rfl rfl (.none rfl) ?_
  refine G_val (V_load rfl rfl (Cell.own (.tail _ (.head _)) rfl)) rfl rfl (.none rfl) ?_
  refine G_val (V_fieldAddr rfl rfl (by decide)) rfl rfl (.none rfl) ?_
  refine G_val (V_load rfl rfl (Cell.own (.head _) rfl)) rfl rfl (.none rfl) ?_
  refine G_val (V_eql rfl rfl rfl) rfl rfl (.none rfl) ?_
  refine G_val (V_move rfl rfl) rfl rfl (.none rfl) ?_
  apply G_joinAnd 6 11 17 rfl
  · intro H1
    dsimp only [List.take]
    simp only [Bool.and_eq_true, Bool.or_eq_true, Bool.not_eq_true', Bool.not_eq_false', Bool.and_eq_false_iff, Bool.or_eq_false_iff, Bool.not_not, decide_eq_true_eq, decide_eq_false_iff_not, ne_eq, Decidable.not_not, Bool.decide_eq_true] at H1
    refine G_val (V_fieldAddr rfl rfl (by decide)) rfl rfl (.yes rfl rfl rfl rfl) ?_
    refine G_val (V_load rfl rfl (Cell.own (.tail _ (.head _)) rfl)) rfl rfl (.yes rfl rfl rfl rfl) ?_
    refine G_val (V_fieldAddr rfl rfl (by decide)) rfl rfl (.yes rfl rfl rfl rfl) ?_
    refine G_val (V_load rfl rfl (Cell.own (.head _) rfl)) rfl rfl (.yes rfl rfl rfl rfl) ?_
    refine G_val (V_eql rfl rfl rfl) rfl rfl (.yes rfl rfl rfl rfl) ?_
    refine G_val (V_pick_t rfl rfl rfl) rfl rfl (.none rfl) ?_
    refine G_end ?_
    exact JQ_end 6 rfl rfl (by kernel_rfl)
  · intro H2
    dsimp only [List.take]
    simp only [Bool.and_eq_true, Bool.or_eq_true, Bool.not_eq_true', Bool.not_eq_false', Bool.and_eq_false_iff, Bool.or_eq_false_iff, Bool.not_not, decide_eq_true_eq, decide_eq_false_iff_not, ne_eq, Decidable.not_not, Bool.decide_eq_true] at H2
    refine G_stay (.no rfl rfl rfl rfl) rfl rfl ?_
    refine G_stay (.no rfl rfl rfl rfl) rfl rfl ?_
    refine G_stay (.no rfl rfl rfl rfl) rfl rfl ?_
    refine G_stay (.no rfl rfl rfl rfl) rfl rfl ?_
    refine G_stay (.no rfl rfl rfl rfl) rfl rfl ?_
    refine G_val (V_pick_f rfl rfl rfl) rfl rfl (.none rfl) ?_
    refine G_end ?_
    exact JQ_end 6 rfl rfl (by kernel_rfl)
  dsimp only [List.drop]
  refine G_val (V_move rfl rfl) rfl rfl (.none rfl) ?_
  apply G_joinAnd 6 18 24 rfl
  · intro H3
    dsimp only [List.take]
    simp only [Bool.and_eq_true, Bool.or_eq_true, Bool.not_eq_true', Bool.not_eq_false', Bool.and_eq_false_iff, Bool.or_eq_false_iff, Bool.not_not, decide_eq_true_eq, decide_eq_false_iff_not, ne_eq, Decidable.not_not, Bool.decide_eq_true] at H3
    refine G_val (V_fieldAddr rfl rfl (by decide)) rfl rfl (.yes rfl rfl rfl rfl) ?_
    refine G_val (V_load rfl rfl (Cell.own (.tail _ (.head _)) rfl)) rfl rfl (.yes rfl rfl rfl rfl) ?_
    refine G_val (V_fieldAddr rfl rfl (by decide)) rfl rfl (.yes rfl rfl rfl rfl) ?_
    refine G_val (V_load rfl rfl (Cell.own (.head _) rfl)) rfl rfl (.yes rfl rfl rfl rfl) ?_
    refine G_val (V_eql rfl rfl rfl) rfl rfl (.yes rfl rfl rfl rfl) ?_
    refine G_val (V_pick_t rfl rfl rfl) rfl rfl (.none rfl) ?_
    refine G_end ?_
    exact JQ_end 6 rfl rfl (by kernel_rfl)
  · intro H4
    dsimp only [List.take]
    simp only [Bool.and_eq_true, Bool.or_eq_true, Bool.not_eq_true', Bool.not_eq_false', Bool.and_eq_false_iff, Bool.or_eq_false_iff, Bool.not_not, decide_eq_true_eq, decide_eq_false_iff_not, ne_eq, Decidable.not_not, Bool.decide_eq_true] at H4
    refine G_stay (.no rfl rfl rfl rfl) rfl rfl ?_
    refine G_stay (.no rfl rfl rfl rfl) rfl rfl ?_
    refine G_stay (.no rfl rfl rfl rfl) rfl rfl ?_
    refine G_stay (.no rfl rfl rfl rfl) rfl rfl ?_
    refine G_stay (.no rfl rfl rfl rfl) rfl rfl ?_
    refine G_val (V_pick_f rfl rfl rfl) rfl rfl (.none rfl) ?_
    refine G_end ?_
    exact JQ_end 6 rfl rfl (by kernel_rfl)
  dsimp only [List.drop]
  refine G_val (V_move rfl rfl) rfl rfl (.none rfl) ?_
  apply G_joinAnd 6 25 31 rfl
  · intro H5
    dsimp only [List.take]
    simp only [Bool.and_eq_true, Bool.or_eq_true, Bool.not_eq_true', Bool.not_eq_false', Bool.and_eq_false_iff, Bool.or_eq_false_iff, Bool.not_not, decide_eq_true_eq, decide_eq_false_iff_not, ne_eq, Decidable.not_not, Bool.decide_eq_true] at H5
    refine G_val (V_fieldAddr rfl rfl (by decide)) rfl rfl (.yes rfl rfl rfl rfl) ?_
    refine G_val (V_load rfl rfl (Cell.own (.tail _ (.head _)) rfl)) rfl rfl (.yes rfl rfl rfl rfl) ?_
    refine G_val (V_fieldAddr rfl rfl (by decide)) rfl rfl (.yes rfl rfl rfl rfl) ?_
    refine G_val (V_load rfl rfl (Cell.own (.head _) rfl)) rfl rfl (.yes rfl rfl rfl rfl) ?_
    refine G_val (V_seql rfl rfl rfl) rfl rfl (.yes rfl rfl rfl rfl) ?_
    refine G_val (V_pick_t rfl rfl rfl) rfl rfl (.none rfl) ?_
    refine G_end ?_
    exact JQ_end 6 rfl rfl (by kernel_rfl)
  · intro H6
    dsimp only [List.take]
    simp only [Bool.and_eq_true, Bool.or_eq_true, Bool.not_eq_true', Bool.not_eq_false', Bool.and_eq_false_iff, Bool.or_eq_false_iff, Bool.not_not, decide_eq_true_eq, decide_eq_false_iff_not, ne_eq, Decidable.not_not, Bool.decide_eq_true] at H6
    refine G_stay (.no rfl rfl rfl rfl) rfl rfl ?_
    refine G_stay (.no rfl rfl rfl rfl) rfl rfl ?_
    refine G_stay (.no rfl rfl rfl rfl) rfl rfl ?_
    refine G_stay (.no rfl rfl rfl rfl) rfl rfl ?_
    refine G_stay (.no rfl rfl rfl rfl) rfl rfl ?_
    refine G_val (V_pick_f rfl rfl rfl) rfl rfl (.none rfl) ?_
    refine G_end ?_
    exact JQ_end 6 rfl rfl (by kernel_rfl)
  dsimp only [List.drop]
  refine G_val (V_move rfl rfl) rfl rfl (.none rfl) ?_
  apply G_joinAnd 6 32 38 rfl
  · intro H7
    dsimp only [List.take]
    simp only [Bool.and_eq_true, Bool.or_eq_true, Bool.not_eq_true', Bool.not_eq_false', Bool.and_eq_false_iff, Bool.or_eq_false_iff, Bool.not_not, decide_eq_true_eq, decide_eq_false_iff_not, ne_eq, Decidable.not_not, Bool.decide_eq_true] at H7
    refine G_val (V_fieldAddr rfl rfl (by decide)) rfl rfl (.yes rfl rfl rfl rfl) ?_
    refine G_val (V_load rfl rfl (Cell.own (.tail _ (.head _)) rfl)) rfl rfl (.yes rfl rfl rfl rfl) ?_
    refine G_val (V_fieldAddr rfl rfl (by decide)) rfl rfl (.yes rfl rfl rfl rfl) ?_
    refine G_val (V_load rfl rfl (Cell.own (.head _) rfl)) rfl rfl (.yes rfl rfl rfl rfl) ?_
    refine G_val (V_beql rfl rfl rfl) rfl rfl (.yes rfl rfl rfl rfl) ?_
    refine G_val (V_pick_t rfl rfl rfl) rfl rfl (.none rfl) ?_
    refine G_end ?_
    exact JQ_end 6 rfl rfl (by kernel_rfl)
  · intro H8
    dsimp only [List.take]
    simp only [Bool.and_eq_true, Bool.or_eq_true, Bool.not_eq_true', Bool.not_eq_false', Bool.and_eq_false_iff, Bool.or_eq_false_iff, Bool.not_not, decide_eq_true_eq, decide_eq_false_iff_not, ne_eq, Decidable.not_not, Bool.decide_eq_true] at H8
    refine G_stay (.no rfl rfl rfl rfl) rfl rfl ?_
    refine G_stay (.no rfl rfl rfl rfl) rfl rfl ?_
    refine G_stay (.no rfl rfl rfl rfl) rfl rfl ?_
    refine G_stay (.no rfl rfl rfl rfl) rfl rfl ?_
    refine G_stay (.no rfl rfl rfl rfl) rfl rfl ?_
    refine G_val (V_pick_f rfl rfl rfl) rfl rfl (.none rfl) ?_
    refine G_end ?_
    exact JQ_end 6 rfl rfl (by kernel_rfl)
  dsimp only [List.drop]
  refine G_val (V_assign rfl rfl) rfl rfl (.none rfl) ?_
  refine G_end (X_then (G_seq (G_region ?_)))
  refine G_val (V_move rfl rfl) rfl rfl (.none rfl) ?_
  refine G_val (V_move rfl rfl) rfl rfl (.none rfl) ?_
  apply G_joinAnd 8 40 48 rfl
  · intro H9
    dsimp only [List.take]
    simp only [Bool.and_eq_true, Bool.or_eq_true, Bool.not_eq_true', Bool.not_eq_false', Bool.and_eq_false_iff, Bool.or_eq_false_iff, Bool.not_not, decide_eq_true_eq, decide_eq_false_iff_not, ne_eq, Decidable.not_not, Bool.decide_eq_true] at H9
    refine G_val (V_fieldAddr rfl rfl (by decide)) rfl rfl (.yes rfl rfl rfl rfl) ?_
    refine G_val (V_fieldAddr rfl rfl (by decide)) rfl rfl (.yes rfl rfl rfl rfl) ?_
    refine G_val (V_load rfl rfl (Cell.own (.tail _ (.head _)) rfl)) rfl rfl (.yes rfl rfl rfl rfl) ?_
    refine G_val (V_fieldAddr rfl rfl (by decide)) rfl rfl (.yes rfl rfl rfl rfl) ?_
    refine G_val (V_fieldAddr rfl rfl (by decide)) rfl rfl (.yes rfl rfl rfl rfl) ?_
    refine G_val (V_load rfl rfl (Cell.own (.head _) rfl)) rfl rfl (.yes rfl rfl rfl rfl) ?_
    refine G_val (V_eql rfl rfl rfl) rfl rfl (.yes rfl rfl rfl rfl) ?_
    refine G_val (V_pick_t rfl rfl rfl) rfl rfl (.none rfl) ?_
    refine G_end ?_
    exact JQ_end 8 rfl rfl (by kernel_rfl)
  · intro H10
    dsimp only [List.take]
    simp only [Bool.and_eq_true, Bool.or_eq_true, Bool.not_eq_true', Bool.not_eq_false', Bool.and_eq_false_iff, Bool.or_eq_false_iff, Bool.not_not, decide_eq_true_eq, decide_eq_false_iff_not, ne_eq, Decidable.not_not, Bool.decide_eq_true] at H10
    refine G_stay (.no rfl rfl rfl rfl) rfl rfl ?_
    refine G_stay (.no rfl rfl rfl rfl) rfl rfl ?_
    refine G_stay (.no rfl rfl rfl rfl) rfl rfl ?_
    refine G_stay (.no rfl rfl rfl rfl) rfl rfl ?_
    refine G_stay (.no rfl rfl rfl rfl) rfl rfl ?_
    refine G_stay (.no rfl rfl rfl rfl) rfl rfl ?_
    refine G_stay (.no rfl rfl rfl rfl) rfl rfl ?_
    refine G_val (V_pick_f rfl rfl rfl) rfl rfl (.none rfl) ?_
    refine G_end ?_
    exact JQ_end 8 rfl rfl (by kernel_rfl)
  dsimp only [List.drop]
  refine G_val (V_move rfl rfl) rfl rfl (.none rfl) ?_
  apply G_joinAnd 8 49 57 rfl
  · intro H11
    dsimp only [List.take]
    simp only [Bool.and_eq_true, Bool.or_eq_true, Bool.not_eq_true', Bool.not_eq_false', Bool.and_eq_false_iff, Bool.or_eq_false_iff, Bool.not_not, decide_eq_true_eq, decide_eq_false_iff_not, ne_eq, Decidable.not_not, Bool.decide_eq_true] at H11
    refine G_val (V_fieldAddr rfl rfl (by decide)) rfl rfl (.yes rfl rfl rfl rfl) ?_
    refine G_val (V_fieldAddr rfl rfl (by decide)) rfl rfl (.yes rfl rfl rfl rfl) ?_
    refine G_val (V_load rfl rfl (Cell.own (.tail _ (.head _)) rfl)) rfl rfl (.yes rfl rfl rfl rfl) ?_
    refine G_val (V_fieldAddr rfl rfl (by decide)) rfl rfl (.yes rfl rfl rfl rfl) ?_
    refine G_val (V_fieldAddr rfl rfl (by decide)) rfl rfl (.yes rfl rfl rfl rfl) ?_
    refine G_val (V_load rfl rfl (Cell.own (.head _) rfl)) rfl rfl (.yes rfl rfl rfl rfl) ?_
    refine G_val (V_eql rfl rfl rfl) rfl rfl (.yes rfl rfl rfl rfl) ?_
    refine G_val (V_pick_t rfl rfl rfl) rfl rfl (.none rfl) ?_
    refine G_end ?_
    exact JQ_end 8 rfl rfl (by kernel_rfl)
  · intro H12
    dsimp only [List.take]
    simp only [Bool.and_eq_true, Bool.or_eq_true, Bool.not_eq_true', Bool.not_eq_false', Bool.and_eq_false_iff, Bool.or_eq_false_iff, Bool.not_not, decide_eq_true_eq, decide_eq_false_iff_not, ne_eq, Decidable.not_not, Bool.decide_eq_true] at H12
    refine G_stay (.no rfl rfl rfl rfl) rfl rfl ?_
    refine G_stay (.no rfl rfl rfl rfl) rfl rfl ?_
    refine G_stay (.no rfl rfl rfl rfl) rfl rfl ?_
    refine G_stay (.no rfl rfl rfl rfl) rfl rfl ?_
    refine G_stay (.no rfl rfl rfl rfl) rfl rfl ?_
    refine G_stay (.no rfl rfl rfl rfl) rfl rfl ?_
    refine G_stay (.no rfl rfl rfl rfl) rfl rfl ?_
    refine G_val (V_pick_f rfl rfl rfl) rfl rfl (.none rfl) ?_
    refine G_end ?_
    exact JQ_end 8 rfl rfl (by kernel_rfl)
  dsimp only [List.drop]
  refine G_val (V_move rfl rfl) rfl rfl (.none rfl) ?_
  apply G_joinAnd 8 58 66 rfl
  · intro H13
    dsimp only [List.take]
    simp only [Bool.and_eq_true, Bool.or_eq_true, Bool.not_eq_true', Bool.not_eq_false', Bool.and_eq_false_iff, Bool.or_eq_false_iff, Bool.not_not, decide_eq_true_eq, decide_eq_false_iff_not, ne_eq, Decidable.not_not, Bool.decide_eq_true] at H13
    refine G_val (V_fieldAddr rfl rfl (by decide)) rfl rfl (.yes rfl rfl rfl rfl) ?_
    refine G_val (V_fieldAddr rfl rfl (by decide)) rfl rfl (.yes rfl rfl rfl rfl) ?_
    refine G_val (V_load rfl rfl (Cell.own (.tail _ (.head _)) rfl)) rfl rfl (.yes rfl rfl rfl rfl) ?_
    refine G_val (V_fieldAddr rfl rfl (by decide)) rfl rfl (.yes rfl rfl rfl rfl) ?_
    refine G_val (V_fieldAddr rfl rfl (by decide)) rfl rfl (.yes rfl rfl rfl rfl) ?_
    refine G_val (V_load rfl rfl (Cell.own (.head _) rfl)) rfl rfl (.yes rfl rfl rfl rfl) ?_
    refine G_callv (k := 25) (.mk rfl rfl rfl rfl) rfl rfl (.yes rfl rfl rfl rfl) (equalTk_call _ _ _ _ _ _ _ _ _ _ (by assumption) (by assumption) (by assumption) (by assumption)) ?_
    refine G_val (V_pick_t rfl rfl rfl) rfl rfl (.none rfl) ?_
    refine G_end ?_
    exact JQ_end 8 rfl rfl (by kernel_rfl)
  · intro H14
    dsimp only [List.take]
    simp only [Bool.and_eq_true, Bool.or_eq_true, Bool.not_eq_true', Bool.not_eq_false', Bool.and_eq_false_iff, Bool.or_eq_false_iff, Bool.not_not, decide_eq_true_eq, decide_eq_false_iff_not, ne_eq, Decidable.not_not, Bool.decide_eq_true] at H14
    refine G_stay (.no rfl rfl rfl rfl) rfl rfl ?_
    refine G_stay (.no rfl rfl rfl rfl) rfl rfl ?_
    refine G_stay (.no rfl rfl rfl rfl) rfl rfl ?_
    refine G_stay (.no rfl rfl rfl rfl) rfl rfl ?_
    refine G_stay (.no rfl rfl rfl rfl) rfl rfl ?_
    refine G_stay (.no rfl rfl rfl rfl) rfl rfl ?_
    refine G_stay (.no rfl rfl rfl rfl) rfl rfl ?_
    refine G_val (V_pick_f rfl rfl rfl) rfl rfl (.none rfl) ?_
    refine G_end ?_
    exact JQ_end 8 rfl rfl (by kernel_rfl)
  dsimp only [List.drop]
  refine G_val (V_move rfl rfl) rfl rfl (.none rfl) ?_
  apply G_joinAnd 6 67 73 rfl
  · intro H15
    dsimp only [List.take]
    simp only [Bool.and_eq_true, Bool.or_eq_true, Bool.not_eq_true', Bool.not_eq_false', Bool.and_eq_false_iff, Bool.or_eq_false_iff, Bool.not_not, decide_eq_true_eq, decide_eq_false_iff_not, ne_eq, Decidable.not_not, Bool.decide_eq_true] at H15
    refine G_val (V_fieldAddr rfl rfl (by decide)) rfl rfl (.yes rfl rfl rfl rfl) ?_
    refine G_val (V_load rfl rfl (Cell.own (.tail _ (.head _)) rfl)) rfl rfl (.yes rfl rfl rfl rfl) ?_
    refine G_val (V_fieldAddr rfl rfl (by decide)) rfl rfl (.yes rfl rfl rfl rfl) ?_
    refine G_val (V_load rfl rfl (Cell.own (.head _) rfl)) rfl rfl (.yes rfl rfl rfl rfl) ?_
    refine G_callv (k := 26) (.mk rfl rfl rfl rfl) rfl rfl (.yes rfl rfl rfl rfl) (equalSp_call _ _ _ _ _ _ _ _ _ _ (by assumption) (by assumption) (by assumption) (by assumption)) ?_
    refine G_val (V_pick_t rfl rfl rfl) rfl rfl (.none rfl) ?_
    refine G_end ?_
    exact JQ_end 6 rfl rfl (by kernel_rfl)
  · intro H16
    dsimp only [List.take]
    simp only [Bool.and_eq_true, Bool.or_eq_true, Bool.not_eq_true', Bool.not_eq_false', Bool.and_eq_false_iff, Bool.or_eq_false_iff, Bool.not_not, decide_eq_true_eq, decide_eq_false_iff_not, ne_eq, Decidable.not_not, Bool.decide_eq_true] at H16
    refine G_stay (.no rfl rfl rfl rfl) rfl rfl ?_
    refine G_stay (.no rfl rfl rfl rfl) rfl rfl ?_
    refine G_stay (.no rfl rfl rfl rfl) rfl rfl ?_
    refine G_stay (.no rfl rfl rfl rfl) rfl rfl ?_
    refine G_stay (.no rfl rfl rfl rfl) rfl rfl ?_
    refine G_val (V_pick_f rfl rfl rfl) rfl rfl (.none rfl) ?_
    refine G_end ?_
    exact JQ_end 6 rfl rfl (by kernel_rfl)
  dsimp only [List.drop]
  refine G_val (V_assign rfl rfl) rfl rfl (.none rfl) ?_
  refine G_end (X_then (G_ret ?_))
  refine G_leaveS (.drop _ (.drop _ (.nil _))) (by exact (.cons (.tmp rfl) (.nil))) rfl ?_ ?_
  · exact (.refl _)
  exact ⟨rfl, rfl⟩
theorem LightConf_call (h1 : SlE E 3 tp tn (toks xs)) (n1 : tn ≤ 9223372036854775807) (n2 : sn ≤ 9223372036854775807) (n3 : part.length ≤ 9223372036854775807) (n4 : ∀ t, t ∈ xs → t.text.length ≤ 9223372036854775807) :
    CallV Try.prog 5 #[cfV st rc at' part tp tn tc e ea b sp sn sc] E L (.bool (decide ((tn : Int) ≤ 10) && decide ((part.length : Int) ≤ 100) && decide ((sn : Int) ≤ 100) && lightT xs)) := by
  have en := h1.nT
  subst en
  refine CallS.toV (CallS.intro (l := [_]) _ Try.func5 rfl Try.ntmps5 rfl ?_)
  refine G_seq (G_region ?_)
  (refine G_boxA rfl rfl rfl rfl (.none rfl) ?_; intro b1)
  refine G_val (V_assign rfl rfl) rfl rfl (.none rfl) ?_
  refine G_end (X_then (G_seq (G_seq (G_region ?_))))
  refine G_val (V_assign rfl rfl) rfl rfl (.none rfl) ?_
  refine G_end (X_then (G_block ?_))
  refine G_loop (α := Nat) (fun k => [(1, .pointer (some ⟨b1, 0, none⟩)), (3, .int .i64 k)]) (fun _ => E)
    (fun _ => .blk b1 (.cells #[.int .i64 st, .int .i64 rc, .int .i64 at', .string (S part), .slice tp xs.length tc, .int .i64 e, .int .i64 ea, .bool b, .slice sp sn sc] 29 (0, 0)) :: L)
    (fun k => k ≤ xs.length ∧ k ≤ 11 ∧ lightT (xs.take k) = true) (fun k => xs.length - k) 0 ⟨Nat.zero_le _, Nat.zero_le _, rfl⟩ ⟨rfl, rfl, trivial⟩ rfl rfl ?_
  rintro k ⟨hk, hk2, hall⟩
  by_cases hlt : k < xs.length
  · by_cases hlt2 : k < 11
    · have h2 := toks_text (List.getElem?_eq_getElem hlt)
      have h3 := n4 _ (List.getElem_mem hlt)
      by_cases hg : (xs[k].text.length : Int) ≤ 100
      · refine G_seq ?_
        refine G_seq (G_region ?_)
        refine G_val (V_move rfl rfl) rfl rfl (.none rfl) ?_
        refine G_val (V_fieldAddr rfl rfl (by decide)) rfl rfl (.none rfl) ?_
        refine G_val (V_fieldAddr rfl rfl (by decide)) rfl rfl (.none rfl) ?_
        refine G_val (V_load rfl rfl (Cell.own (.head _) rfl)) rfl rfl (.none rfl) ?_
        refine G_val (V_lenS rfl rfl) rfl rfl (.none rfl) ?_
        refine G_val (V_lss rfl rfl rfl) rfl rfl (.none rfl) ?_
        refine G_val (V_move rfl rfl) rfl rfl (.none rfl) ?_
        refine G.bool_t 10 rfl (decide_eq_true (by omega)) ?_
        refine G_val (V_move rfl rfl) rfl rfl (.yes rfl rfl rfl rfl) ?_
        refine G_val (V_lss rfl rfl rfl) rfl rfl (.yes rfl rfl rfl rfl) ?_
        refine G_val (V_pick_t rfl rfl rfl) rfl rfl (.none rfl) ?_
        refine G_end (X_then ?_)
        refine G_cond_t rfl (decide_eq_true (by omega)) ?_
        refine G_skip (X_then (G_seq (G_block (G_seq (G_region ?_)))))
        refine G_val (V_fieldAddr rfl rfl (by decide)) rfl rfl (.none rfl) ?_
        refine G_val (V_fieldAddr rfl rfl (by decide)) rfl rfl (.none rfl) ?_
        refine G_val (V_load rfl rfl (Cell.own (.head _) rfl)) rfl rfl (.none rfl) ?_
        refine G_val (V_move rfl rfl) rfl rfl (.none rfl) ?_
        refine G_val (V_idxAddr rfl rfl rfl (SlE.rd (by assumption)) (by omega) (by omega)) rfl rfl (.none rfl) ?_
        refine G_val (V_fieldAddrE rfl rfl (by assumption) (by omega) (by decide)) rfl rfl (.none rfl) ?_
        refine G_val (V_loadS rfl rfl (SlE.rd (by assumption)) (by assumption) (by simp)) rfl rfl (.none rfl) ?_
        refine G_val (V_len rfl rfl) rfl rfl (.none rfl) ?_
        refine G_val (V_gtr rfl rfl rfl) rfl rfl (.none rfl) ?_
        refine G_end (X_then ?_)
        refine G_cond_f rfl (decide_eq_false (by omega)) ?_
        refine G_skip (X_block (X_then (G_region ?_)))
        refine G_val (V_move rfl rfl) rfl rfl (.none rfl) ?_
        refine G_val (V_add_i64 rfl rfl rfl (by omega) (by omega)) rfl rfl (.none rfl) ?_
        refine G_val (V_assign rfl rfl) rfl rfl (.none rfl) ?_
        refine G_end (X_then ?_)
        exact G_again (k + 1) ⟨hlt, by omega, by rw [List.take_succ_eq_append_getElem hlt, lightT, List.all_append]; rw [lightT] at hall; rw [hall]; simp only [List.all_cons, List.all_nil, Bool.and_true, Bool.true_and, decide_eq_true_eq]; omega⟩ (by omega) ⟨rfl, rfl, trivial⟩ rfl rfl
      · have hno : lightT xs = false := by
          rw [lightT, List.all_eq_false]
          exact ⟨xs[k], List.getElem_mem hlt, by simp only [decide_eq_true_eq]; omega⟩
        rw [hno, Bool.and_false]
        refine G_seq (G_seq (G_region ?_))
        refine G_val (V_move rfl rfl) rfl rfl (.none rfl) ?_
        refine G_val (V_fieldAddr rfl rfl (by decide)) rfl rfl (.none rfl) ?_
        refine G_val (V_fieldAddr rfl rfl (by decide)) rfl rfl (.none rfl) ?_
        refine G_val (V_load rfl rfl (Cell.own (.head _) rfl)) rfl rfl (.none rfl) ?_
        refine G_val (V_lenS rfl rfl) rfl rfl (.none rfl) ?_
        refine G_val (V_lss rfl rfl rfl) rfl rfl (.none rfl) ?_
        refine G_val (V_move rfl rfl) rfl rfl (.none rfl) ?_
        refine G.bool_t 10 rfl (decide_eq_true (by omega)) ?_
        refine G_val (V_move rfl rfl) rfl rfl (.yes rfl rfl rfl rfl) ?_
        refine G_val (V_lss rfl rfl rfl) rfl rfl (.yes rfl rfl rfl rfl) ?_
        refine G_val (V_pick_t rfl rfl rfl) rfl rfl (.none rfl) ?_
        refine G_end (X_then ?_)
        refine G_cond_t rfl (decide_eq_true (by omega)) ?_
        refine G_skip (X_then (G_seq (G_block (G_seq (G_region ?_)))))
        refine G_val (V_fieldAddr rfl rfl (by decide)) rfl rfl (.none rfl) ?_
        refine G_val (V_fieldAddr rfl rfl (by decide)) rfl rfl (.none rfl) ?_
        refine G_val (V_load rfl rfl (Cell.own (.head _) rfl)) rfl rfl (.none rfl) ?_
        refine G_val (V_move rfl rfl) rfl rfl (.none rfl) ?_
        refine G_val (V_idxAddr rfl rfl rfl (SlE.rd (by assumption)) (by omega) (by omega)) rfl rfl (.none rfl) ?_
        refine G_val (V_fieldAddrE rfl rfl (by assumption) (by omega) (by decide)) rfl rfl (.none rfl) ?_
        refine G_val (V_loadS rfl rfl (SlE.rd (by assumption)) (by assumption) (by simp)) rfl rfl (.none rfl) ?_
        refine G_val (V_len rfl rfl) rfl rfl (.none rfl) ?_
        refine G_val (V_gtr rfl rfl rfl) rfl rfl (.none rfl) ?_
        refine G_end (X_then ?_)
        refine G_cond_t rfl (decide_eq_true (by omega)) ?_
        refine G_seq (G_region ?_)
        refine G_val (V_assign rfl rfl) rfl rfl (.none rfl) ?_
        refine G_end (X_then (G_ret (X_block_ret (X_then_ret (X_then_ret (X_block_ret (X_then_ret ?_)))))))
        refine G_leaveS (.drop _ (.nil _)) (by exact (.cons (.tmp rfl) (.nil))) rfl ?_ ?_
        · exact (.refl _)
        exact ⟨(by kernel_rfl), rfl⟩
    · have hno : decide ((xs.length : Int) ≤ 10) = false := decide_eq_false (by omega)
      rw [hno, Bool.false_and, Bool.false_and, Bool.false_and]
      refine G_seq (G_seq (G_region ?_))
      refine G_val (V_move rfl rfl) rfl rfl (.none rfl) ?_
      refine G_val (V_fieldAddr rfl rfl (by decide)) rfl rfl (.none rfl) ?_
      refine G_val (V_fieldAddr rfl rfl (by decide)) rfl rfl (.none rfl) ?_
      refine G_val (V_load rfl rfl (Cell.own (.head _) rfl)) rfl rfl (.none rfl) ?_
      refine G_val (V_lenS rfl rfl) rfl rfl (.none rfl) ?_
      refine G_val (V_lss rfl rfl rfl) rfl rfl (.none rfl) ?_
      refine G_val (V_move rfl rfl) rfl rfl (.none rfl) ?_
      refine G.bool_t 10 rfl (decide_eq_true (by omega)) ?_
      refine G_val (V_move rfl rfl) rfl rfl (.yes rfl rfl rfl rfl) ?_
      refine G_val (V_lss rfl rfl rfl) rfl rfl (.yes rfl rfl rfl rfl) ?_
      refine G_val (V_pick_t rfl rfl rfl) rfl rfl (.none rfl) ?_
      refine G_end (X_then ?_)
      refine G_cond_f rfl (decide_eq_false (by omega)) ?_
      refine G_exit (X_then_exit (X_then_exit (X_block_hit (X_then (G_seq (G_region ?_))))))
      refine G_val (V_fieldAddr rfl rfl (by decide)) rfl rfl (.none rfl) ?_
      refine G_val (V_fieldAddr rfl rfl (by decide)) rfl rfl (.none rfl) ?_
      refine G_val (V_load rfl rfl (Cell.own (.head _) rfl)) rfl rfl (.none rfl) ?_
      refine G_val (V_lenS rfl rfl) rfl rfl (.none rfl) ?_
      refine G_val (V_leq rfl rfl rfl) rfl rfl (.none rfl) ?_
      refine G_val (V_move rfl rfl) rfl rfl (.none rfl) ?_
      refine G.bool_f 30 rfl (decide_eq_false (by omega)) ?_
      refine G_stay (.no rfl rfl rfl rfl) rfl rfl ?_
      refine G_stay (.no rfl rfl rfl rfl) rfl rfl ?_
      refine G_stay (.no rfl rfl rfl rfl) rfl rfl ?_
      refine G_stay (.no rfl rfl rfl rfl) rfl rfl ?_
      refine G_val (V_pick_f rfl rfl rfl) rfl rfl (.none rfl) ?_
      refine G_val (V_move rfl rfl) rfl rfl (.none rfl) ?_
      refine G_stay (.no rfl rfl rfl rfl) rfl rfl ?_
      refine G_stay (.no rfl rfl rfl rfl) rfl rfl ?_
      refine G_stay (.no rfl rfl rfl rfl) rfl rfl ?_
      refine G_stay (.no rfl rfl rfl rfl) rfl rfl ?_
      refine G_val (V_pick_f rfl rfl rfl) rfl rfl (.none rfl) ?_
      refine G_val (V_assign rfl rfl) rfl rfl (.none rfl) ?_
      refine G_end (X_then (G_ret ?_))
      refine G_leaveS (.drop _ (.nil _)) (by exact (.cons (.tmp rfl) (.nil))) rfl ?_ ?_
      · exact (.refl _)
      exact ⟨(by kernel_rfl), rfl⟩
  · rw [List.take_of_length_le (by omega)] at hall
    rw [hall, Bool.and_true]
    refine G_seq (G_seq (G_region ?_))
    refine G_val (V_move rfl rfl) rfl rfl (.none rfl) ?_
    refine G_val (V_fieldAddr rfl rfl (by decide)) rfl rfl (.none rfl) ?_
    refine G_val (V_fieldAddr rfl rfl (by decide)) rfl rfl (.none rfl) ?_
    refine G_val (V_load rfl rfl (Cell.own (.head _) rfl)) rfl rfl (.none rfl) ?_
    refine G_val (V_lenS rfl rfl) rfl rfl (.none rfl) ?_
    refine G_val (V_lss rfl rfl rfl) rfl rfl (.none rfl) ?_
    refine G_val (V_move rfl rfl) rfl rfl (.none rfl) ?_
    refine G.bool_f 10 rfl (decide_eq_false (by omega)) ?_
    refine G_stay (.no rfl rfl rfl rfl) rfl rfl ?_
    refine G_stay (.no rfl rfl rfl rfl) rfl rfl ?_
    refine G_val (V_pick_f rfl rfl rfl) rfl rfl (.none rfl) ?_
    refine G_end (X_then ?_)
    refine G_cond_f rfl rfl ?_
    refine G_exit (X_then_exit (X_then_exit (X_block_hit (X_then (G_seq (G_region ?_))))))
    refine G_val (V_fieldAddr rfl rfl (by decide)) rfl rfl (.none rfl) ?_
    refine G_val (V_fieldAddr rfl rfl (by decide)) rfl rfl (.none rfl) ?_
    refine G_val (V_load rfl rfl (Cell.own (.head _) rfl)) rfl rfl (.none rfl) ?_
    refine G_val (V_lenS rfl rfl) rfl rfl (.none rfl) ?_
    refine G_val (V_leq rfl rfl rfl) rfl rfl (.none rfl) ?_
    refine G_val (V_move rfl rfl) rfl rfl (.none rfl) ?_
    apply G_joinAnd 5 30 35 rfl
    · intro H1
      dsimp only [List.take]
      simp only [Bool.and_eq_true, Bool.or_eq_true, Bool.not_eq_true', Bool.not_eq_false', Bool.and_eq_false_iff, Bool.or_eq_false_iff, Bool.not_not, decide_eq_true_eq, decide_eq_false_iff_not, ne_eq, Decidable.not_not, Bool.decide_eq_true] at H1
      refine G_val (V_fieldAddr rfl rfl (by decide)) rfl rfl (.yes rfl rfl rfl rfl) ?_
      refine G_val (V_load rfl rfl (Cell.own (.head _) rfl)) rfl rfl (.yes rfl rfl rfl rfl) ?_
      refine G_val (V_len rfl rfl) rfl rfl (.yes rfl rfl rfl rfl) ?_
      refine G_val (V_leq rfl rfl rfl) rfl rfl (.yes rfl rfl rfl rfl) ?_
      refine G_val (V_pick_t rfl rfl rfl) rfl rfl (.none rfl) ?_
      refine G_end ?_
      exact JQ_end 5 rfl rfl (by kernel_rfl)
    · intro H2
      dsimp only [List.take]
      simp only [Bool.and_eq_true, Bool.or_eq_true, Bool.not_eq_true', Bool.not_eq_false', Bool.and_eq_false_iff, Bool.or_eq_false_iff, Bool.not_not, decide_eq_true_eq, decide_eq_false_iff_not, ne_eq, Decidable.not_not, Bool.decide_eq_true] at H2
      refine G_stay (.no rfl rfl rfl rfl) rfl rfl ?_
      refine G_stay (.no rfl rfl rfl rfl) rfl rfl ?_
      refine G_stay (.no rfl rfl rfl rfl) rfl rfl ?_
      refine G_stay (.no rfl rfl rfl rfl) rfl rfl ?_
      refine G_val (V_pick_f rfl rfl rfl) rfl rfl (.none rfl) ?_
      refine G_end ?_
      exact JQ_end 5 rfl rfl (by kernel_rfl)
    dsimp only [List.drop]
    refine G_val (V_move rfl rfl) rfl rfl (.none rfl) ?_
    apply G_joinAnd 5 36 41 rfl
    · intro H3
      dsimp only [List.take]
      simp only [Bool.and_eq_true, Bool.or_eq_true, Bool.not_eq_true', Bool.not_eq_false', Bool.and_eq_false_iff, Bool.or_eq_false_iff, Bool.not_not, decide_eq_true_eq, decide_eq_false_iff_not, ne_eq, Decidable.not_not, Bool.decide_eq_true] at H3
      refine G_val (V_fieldAddr rfl rfl (by decide)) rfl rfl (.yes rfl rfl rfl rfl) ?_
      refine G_val (V_load rfl rfl (Cell.own (.head _) rfl)) rfl rfl (.yes rfl rfl rfl rfl) ?_
      refine G_val (V_lenS rfl rfl) rfl rfl (.yes rfl rfl rfl rfl) ?_
      refine G_val (V_leq rfl rfl rfl) rfl rfl (.yes rfl rfl rfl rfl) ?_
      refine G_val (V_pick_t rfl rfl rfl) rfl rfl (.none rfl) ?_
      refine G_end ?_
      exact JQ_end 5 rfl rfl (by kernel_rfl)
    · intro H4
      dsimp only [List.take]
      simp only [Bool.and_eq_true, Bool.or_eq_true, Bool.not_eq_true', Bool.not_eq_false', Bool.and_eq_false_iff, Bool.or_eq_false_iff, Bool.not_not, decide_eq_true_eq, decide_eq_false_iff_not, ne_eq, Decidable.not_not, Bool.decide_eq_true] at H4
      refine G_stay (.no rfl rfl rfl rfl) rfl rfl ?_
      refine G_stay (.no rfl rfl rfl rfl) rfl rfl ?_
      refine G_stay (.no rfl rfl rfl rfl) rfl rfl ?_
      refine G_stay (.no rfl rfl rfl rfl) rfl rfl ?_
      refine G_val (V_pick_f rfl rfl rfl) rfl rfl (.none rfl) ?_
      refine G_end ?_
      exact JQ_end 5 rfl rfl (by kernel_rfl)
    dsimp only [List.drop]
    refine G_val (V_assign rfl rfl) rfl rfl (.none rfl) ?_
    refine G_end (X_then (G_ret ?_))
    refine G_leaveS (.drop _ (.nil _)) (by exact (.cons (.tmp rfl) (.nil))) rfl ?_ ?_
    · exact (.refl _)
    exact ⟨rfl, rfl⟩
end
end Go.Proofs.Ytimiokmgnclggaa
