/-
  Rules and contracts, packed: G1, G2, G3, G4, G5, G6.
-/
import Derived.Test.YtimiokmgnclggaaGreatQ9
set_option maxHeartbeats 1000000
set_option linter.unusedSimpArgs false
set_option linter.unusedVariables false
set_option maxHeartbeats 2000000
set_option maxRecDepth 20000
namespace Go.Proofs.YtimiokmgnclggaaGreat
open Go.RowKit
/-! Configurations as plain data; limits, the first configuration. -/
structure Cfg where
  st : Int
  rc : Int
  at' : Int
  part : List UInt8
  toks : List Tok
  e : Int
  ea : Int
  begun : Bool
  stack : List Spt
abbrev cfV (st rc at' : Int) (part : List UInt8) (tp : Option Addr) (tn tc : Nat) (e ea : Int) (b : Bool) (sp : Option Addr) (sn sc : Nat) : Value :=
  .agg #[.int .i64 st, .int .i64 rc, .int .i64 at', .string (S part), .slice tp tn tc, .int .i64 e, .int .i64 ea, .bool b, .slice sp sn sc]
def limM (d q s r : Int) : Int := if d < 1 ∨ 64 < d then 21 else if q < 1 ∨ 64 < q then 6 else if ¬ (0 ≤ s ∧ s ≤ 1099511627776) ∨ ¬ (0 ≤ r ∧ r ≤ 1099511627776) then 2 else 0
def fstV (d q s r : Int) : Value := if limM d q s r = 0 then cfV 1 r s [] none 0 0 0 0 false none 0 0 else cfV 0 0 0 [] none 0 0 0 0 false none 0 0
section
variable (E : Env) (L : List Res)
theorem ccounts_call (n : Int) : CallV Tryz.prog 61 #[.int .i64 n] E L (.bool (decide (0 ≤ n) && decide (n ≤ 1099511627776))) := by
  refine CallS.toV (CallS.intro (l := [_]) _ Tryz.func61 rfl Tryz.ntmps61 rfl ?_)
  refine G_seq (G_region ?_)
  refine Ga ?_
  refine G_end (X_then (G_seq (G_region ?_)))
  refine Gm ?_
  refine Gv (V_geq rfl rfl rfl) ?_
  refine Gm ?_
  apply G_joinAnd 3 5 8 rfl
  · intro H1
    dsimp only [List.take]
    simp only [Bool.and_eq_true, Bool.or_eq_true, Bool.not_eq_true', Bool.not_eq_false', Bool.and_eq_false_iff, Bool.or_eq_false_iff, Bool.not_not, decide_eq_true_eq, decide_eq_false_iff_not, ne_eq, Decidable.not_not, Bool.decide_eq_true] at H1
    refine Gy (V_move rfl rfl) ?_
    refine Gy (V_leq rfl rfl rfl) ?_
    refine Gv (V_pick_t rfl rfl rfl) ?_
    refine G_end ?_
    exact JQ_end 3 rfl rfl (by kernel_rfl)
  · intro H2
    dsimp only [List.take]
    simp only [Bool.and_eq_true, Bool.or_eq_true, Bool.not_eq_true', Bool.not_eq_false', Bool.and_eq_false_iff, Bool.or_eq_false_iff, Bool.not_not, decide_eq_true_eq, decide_eq_false_iff_not, ne_eq, Decidable.not_not, Bool.decide_eq_true] at H2
    refine Gn ?_
    refine Gn ?_
    refine Gv (V_pick_f rfl rfl rfl) ?_
    refine G_end ?_
    exact JQ_end 3 rfl rfl (by kernel_rfl)
  dsimp only [List.drop]
  refine Ga ?_
  refine G_end (X_then (G_ret ?_))
  refine G_leaveS (.nil _) (by exact (.cons (.tmp rfl) (.nil))) rfl ?_ ?_
  · exact (.refl _)
  exact ⟨rfl, rfl⟩
theorem Limits_call (d q s r : Int) : CallV Tryz.prog 37 #[.agg #[.int .i64 d, .int .i64 q, .int .i64 s, .int .i64 r]] E L (.int .i64 (limM d q s r)) := by
  refine CallS.toV (CallS.intro (l := [_]) _ Tryz.func37 rfl Tryz.ntmps37 rfl ?_)
  refine G_seq (G_region ?_)
  (refine G_boxA rfl rfl rfl rfl (.none rfl) ?_; intro b1)
  refine Ga ?_
  refine G_end (X_then (G_seq (G_block (G_seq (G_region ?_)))))
  refine Gv (V_fieldAddr rfl rfl (by decide)) ?_
  refine Gv (V_load rfl rfl (Cell.own (.head _) rfl)) ?_
  refine Gv (V_lss rfl rfl rfl) ?_
  refine Gm ?_
  apply G_joinOr 4 7 11 rfl
  · intro H1
    dsimp only [List.take]
    simp only [Bool.and_eq_true, Bool.or_eq_true, Bool.not_eq_true', Bool.not_eq_false', Bool.and_eq_false_iff, Bool.or_eq_false_iff, Bool.not_not, decide_eq_true_eq, decide_eq_false_iff_not, ne_eq, Decidable.not_not, Bool.decide_eq_true] at H1
    refine Gn ?_
    refine Gn ?_
    refine Gn ?_
    refine Gv (V_pick_t rfl rfl rfl) ?_
    refine G_end ?_
    exact JQ_end 4 rfl rfl (by kernel_rfl)
  · intro H2
    dsimp only [List.take]
    simp only [Bool.and_eq_true, Bool.or_eq_true, Bool.not_eq_true', Bool.not_eq_false', Bool.and_eq_false_iff, Bool.or_eq_false_iff, Bool.not_not, decide_eq_true_eq, decide_eq_false_iff_not, ne_eq, Decidable.not_not, Bool.decide_eq_true] at H2
    refine Gy (V_fieldAddr rfl rfl (by decide)) ?_
    refine Gy (V_load rfl rfl (Cell.own (.head _) rfl)) ?_
    refine Gy (V_gtr rfl rfl rfl) ?_
    refine Gv (V_pick_f rfl rfl rfl) ?_
    refine G_end ?_
    exact JQ_end 4 rfl rfl (by kernel_rfl)
  dsimp only [List.drop]
  refine Ga ?_
  refine G_end (X_then ?_)
  refine G_cond rfl (fun H3 => ?_) (fun H3 => ?_)
  · simp only [Bool.and_eq_true, Bool.or_eq_true, Bool.not_eq_true', Bool.not_eq_false', Bool.and_eq_false_iff, Bool.or_eq_false_iff, Bool.not_not, decide_eq_true_eq, decide_eq_false_iff_not, ne_eq, Decidable.not_not, Bool.decide_eq_true] at H3
    refine G_seq (G_region ?_)
    refine Ga ?_
    refine G_end (X_then (G_ret (X_block_ret (X_then_ret ?_))))
    refine G_leaveS (.drop _ (.nil _)) (by exact (.cons (.tmp rfl) (.nil))) rfl ?_ ?_
    · exact (.refl _)
    exact ⟨(by (simp (discharger := omega) only [resVal, limM, if_pos, if_neg]; first | done | rfl)), (by rfl)⟩
  simp only [Bool.and_eq_true, Bool.or_eq_true, Bool.not_eq_true', Bool.not_eq_false', Bool.and_eq_false_iff, Bool.or_eq_false_iff, Bool.not_not, decide_eq_true_eq, decide_eq_false_iff_not, ne_eq, Decidable.not_not, Bool.decide_eq_true] at H3
  refine G_seq (G_region ?_)
  refine Gv (V_fieldAddr rfl rfl (by decide)) ?_
  refine Gv (V_load rfl rfl (Cell.own (.head _) rfl)) ?_
  refine Gv (V_lss rfl rfl rfl) ?_
  refine Gm ?_
  apply G_joinOr 4 16 20 rfl
  · intro H4
    dsimp only [List.take]
    simp only [Bool.and_eq_true, Bool.or_eq_true, Bool.not_eq_true', Bool.not_eq_false', Bool.and_eq_false_iff, Bool.or_eq_false_iff, Bool.not_not, decide_eq_true_eq, decide_eq_false_iff_not, ne_eq, Decidable.not_not, Bool.decide_eq_true] at H4
    refine Gn ?_
    refine Gn ?_
    refine Gn ?_
    refine Gv (V_pick_t rfl rfl rfl) ?_
    refine G_end ?_
    exact JQ_end 4 rfl rfl (by kernel_rfl)
  · intro H5
    dsimp only [List.take]
    simp only [Bool.and_eq_true, Bool.or_eq_true, Bool.not_eq_true', Bool.not_eq_false', Bool.and_eq_false_iff, Bool.or_eq_false_iff, Bool.not_not, decide_eq_true_eq, decide_eq_false_iff_not, ne_eq, Decidable.not_not, Bool.decide_eq_true] at H5
    refine Gy (V_fieldAddr rfl rfl (by decide)) ?_
    refine Gy (V_load rfl rfl (Cell.own (.head _) rfl)) ?_
    refine Gy (V_gtr rfl rfl rfl) ?_
    refine Gv (V_pick_f rfl rfl rfl) ?_
    refine G_end ?_
    exact JQ_end 4 rfl rfl (by kernel_rfl)
  dsimp only [List.drop]
  refine Ga ?_
  refine G_end (X_then ?_)
  refine G_cond rfl (fun H6 => ?_) (fun H6 => ?_)
  · simp only [Bool.and_eq_true, Bool.or_eq_true, Bool.not_eq_true', Bool.not_eq_false', Bool.and_eq_false_iff, Bool.or_eq_false_iff, Bool.not_not, decide_eq_true_eq, decide_eq_false_iff_not, ne_eq, Decidable.not_not, Bool.decide_eq_true] at H6
    refine G_seq (G_region ?_)
    refine Ga ?_
    refine G_end (X_then (G_ret (X_block_ret (X_then_ret ?_))))
    refine G_leaveS (.drop _ (.nil _)) (by exact (.cons (.tmp rfl) (.nil))) rfl ?_ ?_
    · exact (.refl _)
    exact ⟨(by (simp (discharger := omega) only [resVal, limM, if_pos, if_neg]; first | done | rfl)), (by rfl)⟩
  simp only [Bool.and_eq_true, Bool.or_eq_true, Bool.not_eq_true', Bool.not_eq_false', Bool.and_eq_false_iff, Bool.or_eq_false_iff, Bool.not_not, decide_eq_true_eq, decide_eq_false_iff_not, ne_eq, Decidable.not_not, Bool.decide_eq_true] at H6
  refine G_seq (G_region ?_)
  refine Gv (V_fieldAddr rfl rfl (by decide)) ?_
  refine Gv (V_load rfl rfl (Cell.own (.head _) rfl)) ?_
  refine G_callv (k := 61) (.mk rfl rfl rfl rfl) rfl rfl (.none rfl) (ccounts_call _ _ _) ?_
  refine Gv (V_not rfl rfl) ?_
  refine Gm ?_
  apply G_joinOr 5 26 31 rfl
  · intro H7
    dsimp only [List.take]
    simp only [Bool.and_eq_true, Bool.or_eq_true, Bool.not_eq_true', Bool.not_eq_false', Bool.and_eq_false_iff, Bool.or_eq_false_iff, Bool.not_not, decide_eq_true_eq, decide_eq_false_iff_not, ne_eq, Decidable.not_not, Bool.decide_eq_true] at H7
    refine Gn ?_
    refine Gn ?_
    refine Gn ?_
    refine Gn ?_
    refine Gv (V_pick_t rfl rfl rfl) ?_
    refine G_end ?_
    exact JQ_end 5 rfl rfl (by kernel_rfl)
  · intro H8
    dsimp only [List.take]
    simp only [Bool.and_eq_true, Bool.or_eq_true, Bool.not_eq_true', Bool.not_eq_false', Bool.and_eq_false_iff, Bool.or_eq_false_iff, Bool.not_not, decide_eq_true_eq, decide_eq_false_iff_not, ne_eq, Decidable.not_not, Bool.decide_eq_true] at H8
    refine Gy (V_fieldAddr rfl rfl (by decide)) ?_
    refine Gy (V_load rfl rfl (Cell.own (.head _) rfl)) ?_
    refine G_callv (k := 61) (.mk rfl rfl rfl rfl) rfl rfl (.yes rfl rfl rfl rfl) (ccounts_call _ _ _) ?_
    refine Gy (V_not rfl rfl) ?_
    refine Gv (V_pick_f rfl rfl rfl) ?_
    refine G_end ?_
    exact JQ_end 5 rfl rfl (by kernel_rfl)
  dsimp only [List.drop]
  refine Ga ?_
  refine G_end (X_then ?_)
  refine G_cond rfl (fun H9 => ?_) (fun H9 => ?_)
  · simp only [Bool.and_eq_true, Bool.or_eq_true, Bool.not_eq_true', Bool.not_eq_false', Bool.and_eq_false_iff, Bool.or_eq_false_iff, Bool.not_not, decide_eq_true_eq, decide_eq_false_iff_not, ne_eq, Decidable.not_not, Bool.decide_eq_true] at H9
    refine G_seq (G_region ?_)
    refine Ga ?_
    refine G_end (X_then (G_ret (X_block_ret (X_then_ret ?_))))
    refine G_leaveS (.drop _ (.nil _)) (by exact (.cons (.tmp rfl) (.nil))) rfl ?_ ?_
    · exact (.refl _)
    exact ⟨(by (simp (discharger := omega) only [resVal, limM, if_pos, if_neg]; first | done | rfl)), (by rfl)⟩
  simp only [Bool.and_eq_true, Bool.or_eq_true, Bool.not_eq_true', Bool.not_eq_false', Bool.and_eq_false_iff, Bool.or_eq_false_iff, Bool.not_not, decide_eq_true_eq, decide_eq_false_iff_not, ne_eq, Decidable.not_not, Bool.decide_eq_true] at H9
  refine G_skip (X_block (X_then (G_seq (G_region ?_))))
  refine Ga ?_
  refine G_end (X_then (G_ret ?_))
  refine G_leaveS (.drop _ (.nil _)) (by exact (.cons (.tmp rfl) (.nil))) rfl ?_ ?_
  · exact (.refl _)
  exact ⟨(by (simp (discharger := omega) only [resVal, limM, if_pos, if_neg]; first | done | rfl)), (by rfl)⟩
theorem New_call (d q s r : Int) : CallV Tryz.prog 16 #[.agg #[.int .i64 d, .int .i64 q, .int .i64 s, .int .i64 r]] E L (.tuple #[fstV d q s r, .int .i64 (limM d q s r)]) := by
  unfold fstV
  by_cases h : limM d q s r = 0
  · rw [if_pos h]
    have hc := fun L0 => Limits_call E L0 d q s r
    rw [h] at hc ⊢
    refine CallS.toV (CallS.intro (l := [_]) _ Tryz.func16 rfl Tryz.ntmps16 rfl ?_)
    refine G_seq (G_region ?_)
    (refine G_boxA rfl rfl rfl rfl (.none rfl) ?_; intro b1)
    (refine G_alloc rfl rfl rfl (.none rfl) ?_; intro b2)
    refine Ga ?_
    refine G_end (X_then (G_seq (G_seq (G_region ?_))))
    refine Gv (V_loadA rfl rfl (Cells.own (.tail _ (.head _))) rfl) ?_
    refine G_callv (k := 37) (.mk rfl rfl rfl rfl) rfl rfl (.none rfl) (hc _) ?_
    refine Ga ?_
    refine G_end (X_then (G_seq (G_region ?_)))
    refine Gm ?_
    refine Gv (V_neq rfl rfl rfl) ?_
    refine G_end (X_then ?_)
    refine G_cond_f rfl (by kernel_rfl) ?_
    refine G_skip (X_then (G_seq (G_region ?_)))
    refine Gv (V_fieldAddr rfl rfl (by decide)) ?_
    refine Gv (V_load rfl rfl (Cell.own (.tail _ (.head _)) rfl)) ?_
    refine Gv (V_fieldAddr rfl rfl (by decide)) ?_
    refine Gv (V_load rfl rfl (Cell.own (.tail _ (.head _)) rfl)) ?_
    refine Gv (V_build rfl rfl (by simp [fillV, setLs, setL, Value.cells]; rfl)) ?_
    refine G_storeA rfl rfl rfl rfl (by simp [Value.oneCell']) rfl (.none rfl) (.head _ _ _) rfl ?_
    refine Ga ?_
    refine G_end (X_then (G_ret ?_))
    refine G_leaveS (.drop _ (.drop _ (.nil _))) (by exact (.cons (.cellA rfl (Cells.own (.head _)) rfl) (.cons (.tmp rfl) (.nil)))) rfl ?_ ?_
    · exact (.refl _)
    exact ⟨rfl, rfl⟩
  · rw [if_neg h]
    have hc := fun L0 => Limits_call E L0 d q s r
    generalize limM d q s r = x at *
    refine CallS.toV (CallS.intro (l := [_]) _ Tryz.func16 rfl Tryz.ntmps16 rfl ?_)
    refine G_seq (G_region ?_)
    (refine G_boxA rfl rfl rfl rfl (.none rfl) ?_; intro b1)
    (refine G_alloc rfl rfl rfl (.none rfl) ?_; intro b2)
    refine Ga ?_
    refine G_end (X_then (G_seq (G_seq (G_region ?_))))
    refine Gv (V_loadA rfl rfl (Cells.own (.tail _ (.head _))) rfl) ?_
    refine G_callv (k := 37) (.mk rfl rfl rfl rfl) rfl rfl (.none rfl) (hc _) ?_
    refine Ga ?_
    refine G_end (X_then (G_seq (G_region ?_)))
    refine Gm ?_
    refine Gv (V_neq rfl rfl rfl) ?_
    refine G_end (X_then ?_)
    refine G_cond_t rfl (decide_eq_true (by omega)) ?_
    refine G_seq (G_region ?_)
    refine Gv (V_build rfl rfl (by simp [fillV, setLs, setL, Value.cells]; rfl)) ?_
    refine Gm ?_
    refine G_storeA rfl rfl rfl rfl (by simp [Value.oneCell']) rfl (.none rfl) (.head _ _ _) rfl ?_
    refine Ga ?_
    refine G_end (X_then (G_ret (X_then_ret ?_)))
    refine G_leaveS (.drop _ (.drop _ (.nil _))) (by exact (.cons (.cellA rfl (Cells.own (.head _)) rfl) (.cons (.tmp rfl) (.nil)))) rfl ?_ ?_
    · exact (.refl _)
    exact ⟨rfl, rfl⟩
theorem Stopped_call (st rc at' : Int) (part : List UInt8) (tp : Option Addr) (tn tc : Nat) (e ea : Int) (b : Bool) (sp : Option Addr) (sn sc : Nat) :
    CallV Tryz.prog 17 #[cfV st rc at' part tp tn tc e ea b sp sn sc] E L (.bool (decide (st = 4) || decide (st = 5) || decide (st = 6))) := by
  refine CallS.toV (CallS.intro (l := [_]) _ Tryz.func17 rfl Tryz.ntmps17 rfl ?_)
  refine G_seq (G_region ?_)
  (refine G_boxA rfl rfl rfl rfl (.none rfl) ?_; intro b1)
  refine Ga ?_
  refine G_end (X_then (G_seq (G_region ?_)))
  refine Gv (V_fieldAddr rfl rfl (by decide)) ?_
  refine Gv (V_load rfl rfl (Cell.own (.head _) rfl)) ?_
  refine Gv (V_eql rfl rfl rfl) ?_
  refine Gm ?_
  apply G_joinOr 4 6 10 rfl
  · intro H1
    dsimp only [List.take]
    simp only [Bool.and_eq_true, Bool.or_eq_true, Bool.not_eq_true', Bool.not_eq_false', Bool.and_eq_false_iff, Bool.or_eq_false_iff, Bool.not_not, decide_eq_true_eq, decide_eq_false_iff_not, ne_eq, Decidable.not_not, Bool.decide_eq_true] at H1
    refine Gn ?_
    refine Gn ?_
    refine Gn ?_
    refine Gv (V_pick_t rfl rfl rfl) ?_
    refine G_end ?_
    exact JQ_end 4 rfl rfl (by kernel_rfl)
  · intro H2
    dsimp only [List.take]
    simp only [Bool.and_eq_true, Bool.or_eq_true, Bool.not_eq_true', Bool.not_eq_false', Bool.and_eq_false_iff, Bool.or_eq_false_iff, Bool.not_not, decide_eq_true_eq, decide_eq_false_iff_not, ne_eq, Decidable.not_not, Bool.decide_eq_true] at H2
    refine Gy (V_fieldAddr rfl rfl (by decide)) ?_
    refine Gy (V_load rfl rfl (Cell.own (.head _) rfl)) ?_
    refine Gy (V_eql rfl rfl rfl) ?_
    refine Gv (V_pick_f rfl rfl rfl) ?_
    refine G_end ?_
    exact JQ_end 4 rfl rfl (by kernel_rfl)
  dsimp only [List.drop]
  refine Gm ?_
  apply G_joinOr 4 11 15 rfl
  · intro H3
    dsimp only [List.take]
    simp only [Bool.and_eq_true, Bool.or_eq_true, Bool.not_eq_true', Bool.not_eq_false', Bool.and_eq_false_iff, Bool.or_eq_false_iff, Bool.not_not, decide_eq_true_eq, decide_eq_false_iff_not, ne_eq, Decidable.not_not, Bool.decide_eq_true] at H3
    refine Gn ?_
    refine Gn ?_
    refine Gn ?_
    refine Gv (V_pick_t rfl rfl rfl) ?_
    refine G_end ?_
    exact JQ_end 4 rfl rfl (by kernel_rfl)
  · intro H4
    dsimp only [List.take]
    simp only [Bool.and_eq_true, Bool.or_eq_true, Bool.not_eq_true', Bool.not_eq_false', Bool.and_eq_false_iff, Bool.or_eq_false_iff, Bool.not_not, decide_eq_true_eq, decide_eq_false_iff_not, ne_eq, Decidable.not_not, Bool.decide_eq_true] at H4
    refine Gy (V_fieldAddr rfl rfl (by decide)) ?_
    refine Gy (V_load rfl rfl (Cell.own (.head _) rfl)) ?_
    refine Gy (V_eql rfl rfl rfl) ?_
    refine Gv (V_pick_f rfl rfl rfl) ?_
    refine G_end ?_
    exact JQ_end 4 rfl rfl (by kernel_rfl)
  dsimp only [List.drop]
  refine Ga ?_
  refine G_end (X_then (G_ret ?_))
  refine G_leaveS (.drop _ (.nil _)) (by exact (.cons (.tmp rfl) (.nil))) rfl ?_ ?_
  · exact (.refl _)
  exact ⟨rfl, rfl⟩
end
end Go.Proofs.YtimiokmgnclggaaGreat
set_option linter.unusedSimpArgs false
set_option linter.unusedVariables false
set_option maxHeartbeats 2000000
set_option maxRecDepth 20000
namespace Go.Proofs.YtimiokmgnclggaaGreat
open Go.RowKit
/-! Whether configurations are equal, and light. -/
theorem spt_ne {a b : Spt} (h : a ≠ b) : ¬ (a.1 = b.1 ∧ a.2 = b.2) := fun ⟨h1, h2⟩ => h (Prod.ext h1 h2)
section
variable (E : Env) (L : List Res)
theorem SameSpots_call (p q : Option Addr) (n m c d : Nat) (xs ys : List Spt) (hx : SlE E 2 p n (spC xs)) (hy : SlE E 2 q m (spC ys)) (hn : n ≤ 1000000) (hm : m ≤ 1000000) :
    CallV Tryz.prog 50 #[.slice p n c, .slice q m d] E L (.bool (decide (xs = ys))) := by
  have e1 := hx.nSp; have e2 := hy.nSp; subst e1 e2
  refine CallS.toV (CallS.intro (l := [_, _]) _ Tryz.func50 rfl Tryz.ntmps50 rfl ?_)
  by_cases hlen : xs.length ≠ ys.length
  · have hne : xs ≠ ys := fun h => hlen (congrArg List.length h)
    refine G_seq (G_region ?_)
    refine Ga ?_
    refine G_end (X_then (G_seq (G_seq (G_region ?_))))
    refine Gm ?_
    refine Gv (V_lenS rfl rfl) ?_
    refine Gm ?_
    refine Gv (V_lenS rfl rfl) ?_
    refine Gv (V_neq rfl rfl rfl) ?_
    refine G_end (X_then ?_)
    refine G_cond_t rfl (decide_eq_true (by omega)) ?_
    refine G_seq (G_region ?_)
    refine Ga ?_
    refine G_end (X_then (G_ret (X_then_ret ?_)))
    refine G_leaveS (.nil _) (by exact (.cons (.tmp rfl) (.nil))) rfl ?_ ?_
    · exact (.refl _)
    exact ⟨(by (simp [resVal, *]; done)), (by rfl)⟩
  refine G_seq (G_region ?_)
  refine Ga ?_
  refine G_end (X_then (G_seq (G_seq (G_region ?_))))
  refine Gm ?_
  refine Gv (V_lenS rfl rfl) ?_
  refine Gm ?_
  refine Gv (V_lenS rfl rfl) ?_
  refine Gv (V_neq rfl rfl rfl) ?_
  refine G_end (X_then ?_)
  refine G_cond_f rfl (decide_eq_false (by omega)) ?_
  refine G_skip (X_then (G_seq (G_seq (G_region ?_))))
  refine Ga ?_
  refine G_end (X_then (G_block ?_))
  refine G_loop (α := Nat) (fun k => [(0, .slice p xs.length c), (1, .slice q ys.length d), (5, .int .i64 k)]) (fun _ => E) (fun _ => L)
    (fun k => k ≤ xs.length ∧ xs.take k = ys.take k) (fun k => xs.length - k) 0 ⟨Nat.zero_le _, by simp⟩ ⟨rfl, rfl, rfl, trivial⟩ rfl rfl ?_
  rintro k ⟨hk, hall⟩
  by_cases hlt : k < xs.length
  · have hlt' : k < ys.length := by omega
    have h1 := spC_get (List.getElem?_eq_getElem hlt)
    have h2 := spC_get (List.getElem?_eq_getElem hlt')
    by_cases he : xs[k] = ys[k]
    · rw [← he] at h2
      refine G_seq (G_seq (G_region ?_))
      refine Gm ?_
      refine Gm ?_
      refine Gv (V_lenS rfl rfl) ?_
      refine Gv (V_lss rfl rfl rfl) ?_
      refine G_end (X_then ?_)
      refine G_cond_t rfl (decide_eq_true (by omega)) ?_
      refine G_skip (X_then (G_seq (G_block (G_seq ?_))))
      refine G_draw mixed (by kernel_rfl) ?_
      refine Q_val (V_move rfl rfl) rfl rfl (.none rfl) ?_
      refine Q_val (V_move rfl rfl) rfl rfl (.none rfl) ?_
      refine Q_val (V_idxAddr rfl rfl rfl (SlE.rd (by assumption)) (by omega) (by omega)) rfl rfl (.none rfl) ?_
      refine Q_val (V_loadAS rfl rfl (SlE.rd (by assumption)) (by assumption) (by simp) (by rfl)) rfl rfl (.none rfl) ?_
      refine Q_val (V_move rfl rfl) rfl rfl (.none rfl) ?_
      refine Q_val (V_move rfl rfl) rfl rfl (.none rfl) ?_
      refine Q_val (V_idxAddr rfl rfl rfl (SlE.rd (by assumption)) (by omega) (by omega)) rfl rfl (.none rfl) ?_
      refine Q_val (V_loadAS rfl rfl (SlE.rd (by assumption)) (by assumption) (by simp) (by rfl)) rfl rfl (.none rfl) ?_
      refine Q_val (V_aneq_71 rfl rfl rfl) rfl rfl (.none rfl) ?_
      refine Q_end ?_
      refine X_then ?_
      refine G_cond_f rfl (decide_eq_false (by omega)) ?_
      refine G_skip (X_block (X_then (G_region ?_)))
      refine Gm ?_
      refine Gv (V_add_i64 rfl rfl rfl (by omega) (by omega)) ?_
      refine Ga ?_
      refine G_end (X_then ?_)
      exact G_again (k + 1) ⟨hlt, take_next hall hlt hlt' he⟩ (by omega) ⟨rfl, rfl, rfl, trivial⟩ rfl rfl
    · have hne : xs ≠ ys := fun h => he (by subst h; rfl)
      have hne2 := spt_ne he
      refine G_seq (G_seq (G_region ?_))
      refine Gm ?_
      refine Gm ?_
      refine Gv (V_lenS rfl rfl) ?_
      refine Gv (V_lss rfl rfl rfl) ?_
      refine G_end (X_then ?_)
      refine G_cond_t rfl (decide_eq_true (by omega)) ?_
      refine G_skip (X_then (G_seq (G_block (G_seq ?_))))
      refine G_draw mixed (by kernel_rfl) ?_
      refine Q_val (V_move rfl rfl) rfl rfl (.none rfl) ?_
      refine Q_val (V_move rfl rfl) rfl rfl (.none rfl) ?_
      refine Q_val (V_idxAddr rfl rfl rfl (SlE.rd (by assumption)) (by omega) (by omega)) rfl rfl (.none rfl) ?_
      refine Q_val (V_loadAS rfl rfl (SlE.rd (by assumption)) (by assumption) (by simp) (by rfl)) rfl rfl (.none rfl) ?_
      refine Q_val (V_move rfl rfl) rfl rfl (.none rfl) ?_
      refine Q_val (V_move rfl rfl) rfl rfl (.none rfl) ?_
      refine Q_val (V_idxAddr rfl rfl rfl (SlE.rd (by assumption)) (by omega) (by omega)) rfl rfl (.none rfl) ?_
      refine Q_val (V_loadAS rfl rfl (SlE.rd (by assumption)) (by assumption) (by simp) (by rfl)) rfl rfl (.none rfl) ?_
      refine Q_val (V_aneq_71 rfl rfl rfl) rfl rfl (.none rfl) ?_
      refine Q_end ?_
      refine X_then ?_
      refine G_cond_t rfl (decide_eq_true (by omega)) ?_
      refine G_seq (G_region ?_)
      refine Ga ?_
      refine G_end (X_then (G_ret (X_block_ret (X_then_ret (X_then_ret (X_block_ret (X_then_ret ?_)))))))
      refine G_leaveS (.nil _) (by exact (.cons (.tmp rfl) (.nil))) rfl ?_ ?_
      · exact (.refl _)
      exact ⟨(by (simp [resVal, *]; done)), (by rfl)⟩
  · have heq : xs = ys := by rw [List.take_of_length_le (by omega), List.take_of_length_le (by omega)] at hall; exact hall
    refine G_seq (G_seq (G_region ?_))
    refine Gm ?_
    refine Gm ?_
    refine Gv (V_lenS rfl rfl) ?_
    refine Gv (V_lss rfl rfl rfl) ?_
    refine G_end (X_then ?_)
    refine G_cond_f rfl (decide_eq_false (by omega)) ?_
    refine G_exit (X_then_exit (X_then_exit (X_block_hit (X_then (G_seq (G_region ?_))))))
    refine Ga ?_
    refine G_end (X_then (G_ret ?_))
    refine G_leaveS (.nil _) (by exact (.cons (.tmp rfl) (.nil))) rfl ?_ ?_
    · exact (.refl _)
    exact ⟨(by (simp [resVal, *]; done)), (by rfl)⟩
theorem EqualSp_call (p q : Option Addr) (n m c d : Nat) (xs ys : List Spt) (hx : SlE E 2 p n (spC xs)) (hy : SlE E 2 q m (spC ys)) (hn : n ≤ 1000000) (hm : m ≤ 1000000) :
    CallV Tryz.prog 67 #[.slice p n c, .slice q m d] E L (.bool (decide (xs = ys))) := by
  have e1 := hx.nSp; have e2 := hy.nSp; subst e1 e2
  refine CallS.toV (CallS.intro (l := [_, _]) _ Tryz.func67 rfl Tryz.ntmps67 rfl ?_)
  by_cases hlen : xs.length ≠ ys.length
  · have hne : xs ≠ ys := fun h => hlen (congrArg List.length h)
    refine G_seq (G_region ?_)
    refine Ga ?_
    refine G_end (X_then (G_seq (G_seq (G_region ?_))))
    refine Gm ?_
    refine Gv (V_lenS rfl rfl) ?_
    refine Gm ?_
    refine Gv (V_lenS rfl rfl) ?_
    refine Gv (V_neq rfl rfl rfl) ?_
    refine G_end (X_then ?_)
    refine G_cond_t rfl (decide_eq_true (by omega)) ?_
    refine G_seq (G_region ?_)
    refine Ga ?_
    refine G_end (X_then (G_ret (X_then_ret ?_)))
    refine G_leaveS (.nil _) (by exact (.cons (.tmp rfl) (.nil))) rfl ?_ ?_
    · exact (.refl _)
    exact ⟨(by (simp [resVal, *]; done)), (by rfl)⟩
  refine G_seq (G_region ?_)
  refine Ga ?_
  refine G_end (X_then (G_seq (G_seq (G_region ?_))))
  refine Gm ?_
  refine Gv (V_lenS rfl rfl) ?_
  refine Gm ?_
  refine Gv (V_lenS rfl rfl) ?_
  refine Gv (V_neq rfl rfl rfl) ?_
  refine G_end (X_then ?_)
  refine G_cond_f rfl (decide_eq_false (by omega)) ?_
  refine G_skip (X_then (G_seq (G_seq (G_region ?_))))
  refine Gm ?_
  refine Gv (V_lenS rfl rfl) ?_
  refine Gm ?_
  refine G_end (X_then (G_block ?_))
  refine G_loop (α := Nat) (fun k => [(0, .slice p xs.length c), (1, .slice q ys.length d), (12, .int .i64 xs.length), (13, .int .i64 k)]) (fun _ => E) (fun _ => L)
    (fun k => k ≤ xs.length ∧ xs.take k = ys.take k) (fun k => xs.length - k) 0 ⟨Nat.zero_le _, by simp⟩ ⟨rfl, rfl, rfl, rfl, trivial⟩ rfl rfl ?_
  rintro k ⟨hk, hall⟩
  by_cases hlt : k < xs.length
  · have hlt' : k < ys.length := by omega
    have h1 := spC_get (List.getElem?_eq_getElem hlt)
    have h2 := spC_get (List.getElem?_eq_getElem hlt')
    by_cases he : xs[k] = ys[k]
    · rw [← he] at h2
      refine G_seq (G_region ?_)
      refine Gv (V_lss rfl rfl rfl) ?_
      refine G_end (X_then (G_seq ?_))
      refine G_cond_t rfl (decide_eq_true (by omega)) ?_
      refine G_skip (X_then (G_seq (G_block (G_seq (G_region ?_)))))
      refine Gm ?_
      refine Ga ?_
      refine G_end (X_then (G_seq ?_))
      refine G_draw mixed (by kernel_rfl) ?_
      refine Q_val (V_move rfl rfl) rfl rfl (.none rfl) ?_
      refine Q_val (V_move rfl rfl) rfl rfl (.none rfl) ?_
      refine Q_val (V_idxAddr rfl rfl rfl (SlE.rd (by assumption)) (by omega) (by omega)) rfl rfl (.none rfl) ?_
      refine Q_val (V_loadAS rfl rfl (SlE.rd (by assumption)) (by assumption) (by simp) (by rfl)) rfl rfl (.none rfl) ?_
      refine Q_val (V_move rfl rfl) rfl rfl (.none rfl) ?_
      refine Q_val (V_move rfl rfl) rfl rfl (.none rfl) ?_
      refine Q_val (V_idxAddr rfl rfl rfl (SlE.rd (by assumption)) (by omega) (by omega)) rfl rfl (.none rfl) ?_
      refine Q_val (V_loadAS rfl rfl (SlE.rd (by assumption)) (by assumption) (by simp) (by rfl)) rfl rfl (.none rfl) ?_
      refine Q_val (V_aneq_71 rfl rfl rfl) rfl rfl (.none rfl) ?_
      refine Q_end ?_
      refine X_then ?_
      refine G_cond_f rfl (decide_eq_false (by omega)) ?_
      refine G_skip (X_block (X_then (G_region ?_)))
      refine Gv (V_add_i64 rfl rfl rfl (by omega) (by omega)) ?_
      refine Gm ?_
      refine G_end (X_then ?_)
      exact G_again (k + 1) ⟨hlt, take_next hall hlt hlt' he⟩ (by omega) ⟨rfl, rfl, rfl, rfl, trivial⟩ rfl rfl
    · have hne : xs ≠ ys := fun h => he (by subst h; rfl)
      have hne2 := spt_ne he
      refine G_seq (G_region ?_)
      refine Gv (V_lss rfl rfl rfl) ?_
      refine G_end (X_then (G_seq ?_))
      refine G_cond_t rfl (decide_eq_true (by omega)) ?_
      refine G_skip (X_then (G_seq (G_block (G_seq (G_region ?_)))))
      refine Gm ?_
      refine Ga ?_
      refine G_end (X_then (G_seq ?_))
      refine G_draw mixed (by kernel_rfl) ?_
      refine Q_val (V_move rfl rfl) rfl rfl (.none rfl) ?_
      refine Q_val (V_move rfl rfl) rfl rfl (.none rfl) ?_
      refine Q_val (V_idxAddr rfl rfl rfl (SlE.rd (by assumption)) (by omega) (by omega)) rfl rfl (.none rfl) ?_
      refine Q_val (V_loadAS rfl rfl (SlE.rd (by assumption)) (by assumption) (by simp) (by rfl)) rfl rfl (.none rfl) ?_
      refine Q_val (V_move rfl rfl) rfl rfl (.none rfl) ?_
      refine Q_val (V_move rfl rfl) rfl rfl (.none rfl) ?_
      refine Q_val (V_idxAddr rfl rfl rfl (SlE.rd (by assumption)) (by omega) (by omega)) rfl rfl (.none rfl) ?_
      refine Q_val (V_loadAS rfl rfl (SlE.rd (by assumption)) (by assumption) (by simp) (by rfl)) rfl rfl (.none rfl) ?_
      refine Q_val (V_aneq_71 rfl rfl rfl) rfl rfl (.none rfl) ?_
      refine Q_end ?_
      refine X_then ?_
      refine G_cond_t rfl (decide_eq_true (by omega)) ?_
      refine G_seq (G_region ?_)
      refine Ga ?_
      refine G_end (X_then (G_ret (X_block_ret (X_then_ret (X_then_ret (X_block_ret (X_then_ret ?_)))))))
      refine G_leaveS (.nil _) (by exact (.cons (.tmp rfl) (.nil))) rfl ?_ ?_
      · exact (.refl _)
      exact ⟨(by (simp [resVal, *]; done)), (by rfl)⟩
  · have heq : xs = ys := by rw [List.take_of_length_le (by omega), List.take_of_length_le (by omega)] at hall; exact hall
    refine G_seq (G_region ?_)
    refine Gv (V_lss rfl rfl rfl) ?_
    refine G_end (X_then (G_seq ?_))
    refine G_cond_f rfl (decide_eq_false (by omega)) ?_
    refine G_exit (X_then_exit (X_then_exit (X_block_hit (X_then (G_seq (G_region ?_))))))
    refine Ga ?_
    refine G_end (X_then (G_ret ?_))
    refine G_leaveS (.nil _) (by exact (.cons (.tmp rfl) (.nil))) rfl ?_ ?_
    · exact (.refl _)
    exact ⟨(by (simp [resVal, *]; done)), (by rfl)⟩
theorem EqualTk_call (p q : Option Addr) (n m c d : Nat) (xs ys : List Tok) (hx : SlE E 3 p n (toks xs)) (hy : SlE E 3 q m (toks ys)) (hn : n ≤ 1000000) (hm : m ≤ 1000000) :
    CallV Tryz.prog 66 #[.slice p n c, .slice q m d] E L (.bool (decide (xs = ys))) := by
  have e1 := hx.nT; have e2 := hy.nT; subst e1 e2
  refine CallS.toV (CallS.intro (l := [_, _]) _ Tryz.func66 rfl Tryz.ntmps66 rfl ?_)
  by_cases hlen : xs.length ≠ ys.length
  · have hne : xs ≠ ys := fun h => hlen (congrArg List.length h)
    refine G_seq (G_region ?_)
    refine Ga ?_
    refine G_end (X_then (G_seq (G_seq (G_region ?_))))
    refine Gm ?_
    refine Gv (V_lenS rfl rfl) ?_
    refine Gm ?_
    refine Gv (V_lenS rfl rfl) ?_
    refine Gv (V_neq rfl rfl rfl) ?_
    refine G_end (X_then ?_)
    refine G_cond_t rfl (decide_eq_true (by omega)) ?_
    refine G_seq (G_region ?_)
    refine Ga ?_
    refine G_end (X_then (G_ret (X_then_ret ?_)))
    refine G_leaveS (.nil _) (by exact (.cons (.tmp rfl) (.nil))) rfl ?_ ?_
    · exact (.refl _)
    exact ⟨(by (simp [resVal, *]; done)), (by rfl)⟩
  refine G_seq (G_region ?_)
  refine Ga ?_
  refine G_end (X_then (G_seq (G_seq (G_region ?_))))
  refine Gm ?_
  refine Gv (V_lenS rfl rfl) ?_
  refine Gm ?_
  refine Gv (V_lenS rfl rfl) ?_
  refine Gv (V_neq rfl rfl rfl) ?_
  refine G_end (X_then ?_)
  refine G_cond_f rfl (decide_eq_false (by omega)) ?_
  refine G_skip (X_then (G_seq (G_seq (G_region ?_))))
  refine Gm ?_
  refine Gv (V_lenS rfl rfl) ?_
  refine Gm ?_
  refine G_end (X_then (G_block ?_))
  refine G_loop (α := Nat) (fun k => [(0, .slice p xs.length c), (1, .slice q ys.length d), (12, .int .i64 xs.length), (13, .int .i64 k)]) (fun _ => E) (fun _ => L)
    (fun k => k ≤ xs.length ∧ xs.take k = ys.take k) (fun k => xs.length - k) 0 ⟨Nat.zero_le _, by simp⟩ ⟨rfl, rfl, rfl, rfl, trivial⟩ rfl rfl ?_
  rintro k ⟨hk, hall⟩
  by_cases hlt : k < xs.length
  · have hlt' : k < ys.length := by omega
    have h1 := toks_get (List.getElem?_eq_getElem hlt)
    have h2 := toks_get (List.getElem?_eq_getElem hlt')
    by_cases he : xs[k] = ys[k]
    · rw [← he] at h2
      refine G_seq (G_region ?_)
      refine Gv (V_lss rfl rfl rfl) ?_
      refine G_end (X_then (G_seq ?_))
      refine G_cond_t rfl (decide_eq_true (by omega)) ?_
      refine G_skip (X_then (G_seq (G_block (G_seq (G_region ?_)))))
      refine Gm ?_
      refine Ga ?_
      refine G_end (X_then (G_seq ?_))
      refine G_draw mixed (by kernel_rfl) ?_
      refine Q_val (V_move rfl rfl) rfl rfl (.none rfl) ?_
      refine Q_val (V_move rfl rfl) rfl rfl (.none rfl) ?_
      refine Q_val (V_idxAddr rfl rfl rfl (SlE.rd (by assumption)) (by omega) (by omega)) rfl rfl (.none rfl) ?_
      refine Q_val (V_loadAS rfl rfl (SlE.rd (by assumption)) (by assumption) (by simp) (by rfl)) rfl rfl (.none rfl) ?_
      refine Q_val (V_move rfl rfl) rfl rfl (.none rfl) ?_
      refine Q_val (V_move rfl rfl) rfl rfl (.none rfl) ?_
      refine Q_val (V_idxAddr rfl rfl rfl (SlE.rd (by assumption)) (by omega) (by omega)) rfl rfl (.none rfl) ?_
      refine Q_val (V_loadAS rfl rfl (SlE.rd (by assumption)) (by assumption) (by simp) (by rfl)) rfl rfl (.none rfl) ?_
      refine Q_val (V_aneq_46 rfl rfl rfl) rfl rfl (.none rfl) ?_
      refine Q_end ?_
      refine X_then ?_
      refine G_cond_f rfl (by simp [*]; done) ?_
      refine G_skip (X_block (X_then (G_region ?_)))
      refine Gv (V_add_i64 rfl rfl rfl (by omega) (by omega)) ?_
      refine Gm ?_
      refine G_end (X_then ?_)
      exact G_again (k + 1) ⟨hlt, take_next hall hlt hlt' he⟩ (by omega) ⟨rfl, rfl, rfl, rfl, trivial⟩ rfl rfl
    · have hne : xs ≠ ys := fun h => he (by subst h; rfl)
      have hne2 := tok_ne he
      refine G_seq (G_region ?_)
      refine Gv (V_lss rfl rfl rfl) ?_
      refine G_end (X_then (G_seq ?_))
      refine G_cond_t rfl (decide_eq_true (by omega)) ?_
      refine G_skip (X_then (G_seq (G_block (G_seq (G_region ?_)))))
      refine Gm ?_
      refine Ga ?_
      refine G_end (X_then (G_seq ?_))
      refine G_draw mixed (by kernel_rfl) ?_
      refine Q_val (V_move rfl rfl) rfl rfl (.none rfl) ?_
      refine Q_val (V_move rfl rfl) rfl rfl (.none rfl) ?_
      refine Q_val (V_idxAddr rfl rfl rfl (SlE.rd (by assumption)) (by omega) (by omega)) rfl rfl (.none rfl) ?_
      refine Q_val (V_loadAS rfl rfl (SlE.rd (by assumption)) (by assumption) (by simp) (by rfl)) rfl rfl (.none rfl) ?_
      refine Q_val (V_move rfl rfl) rfl rfl (.none rfl) ?_
      refine Q_val (V_move rfl rfl) rfl rfl (.none rfl) ?_
      refine Q_val (V_idxAddr rfl rfl rfl (SlE.rd (by assumption)) (by omega) (by omega)) rfl rfl (.none rfl) ?_
      refine Q_val (V_loadAS rfl rfl (SlE.rd (by assumption)) (by assumption) (by simp) (by rfl)) rfl rfl (.none rfl) ?_
      refine Q_val (V_aneq_46 rfl rfl rfl) rfl rfl (.none rfl) ?_
      refine Q_end ?_
      refine X_then ?_
      refine G_cond_t rfl (decide_eq_true (by omega)) ?_
      refine G_seq (G_region ?_)
      refine Ga ?_
      refine G_end (X_then (G_ret (X_block_ret (X_then_ret (X_then_ret (X_block_ret (X_then_ret ?_)))))))
      refine G_leaveS (.nil _) (by exact (.cons (.tmp rfl) (.nil))) rfl ?_ ?_
      · exact (.refl _)
      exact ⟨(by (simp [resVal, *]; done)), (by rfl)⟩
  · have heq : xs = ys := by rw [List.take_of_length_le (by omega), List.take_of_length_le (by omega)] at hall; exact hall
    refine G_seq (G_region ?_)
    refine Gv (V_lss rfl rfl rfl) ?_
    refine G_end (X_then (G_seq ?_))
    refine G_cond_f rfl (decide_eq_false (by omega)) ?_
    refine G_exit (X_then_exit (X_then_exit (X_block_hit (X_then (G_seq (G_region ?_))))))
    refine Ga ?_
    refine G_end (X_then (G_ret ?_))
    refine G_leaveS (.nil _) (by exact (.cons (.tmp rfl) (.nil))) rfl ?_ ?_
    · exact (.refl _)
    exact ⟨(by (simp [resVal, *]; done)), (by rfl)⟩
theorem equalSp_call (p q : Option Addr) (n m c d : Nat) (xs ys : List Spt) (hx : SlE E 2 p n (spC xs)) (hy : SlE E 2 q m (spC ys)) (hn : n ≤ 1000000) (hm : m ≤ 1000000) :
    CallV Tryz.prog 39 #[.slice p n c, .slice q m d] E L (.bool (decide (xs = ys))) := by
  refine CallS.toV (CallS.intro (l := [_, _]) _ Tryz.func39 rfl Tryz.ntmps39 rfl ?_)
  refine G_seq (G_region ?_)
  refine Ga ?_
  refine G_end (X_then (G_seq (G_region ?_)))
  refine Gm ?_
  refine Gm ?_
  refine G_callv (k := 67) (.mk rfl rfl rfl rfl) rfl rfl (.none rfl) (EqualSp_call _ _ _ _ _ _ _ _ _ _ (by assumption) (by assumption) (by assumption) (by assumption)) ?_
  refine Ga ?_
  refine G_end (X_then (G_ret ?_))
  refine G_leaveS (.nil _) (by exact (.cons (.tmp rfl) (.nil))) rfl ?_ ?_
  · exact (.refl _)
  exact ⟨rfl, rfl⟩
theorem equalTk_call (p q : Option Addr) (n m c d : Nat) (xs ys : List Tok) (hx : SlE E 3 p n (toks xs)) (hy : SlE E 3 q m (toks ys)) (hn : n ≤ 1000000) (hm : m ≤ 1000000) :
    CallV Tryz.prog 38 #[.slice p n c, .slice q m d] E L (.bool (decide (xs = ys))) := by
  refine CallS.toV (CallS.intro (l := [_, _]) _ Tryz.func38 rfl Tryz.ntmps38 rfl ?_)
  refine G_seq (G_region ?_)
  refine Ga ?_
  refine G_end (X_then (G_seq (G_region ?_)))
  refine Gm ?_
  refine Gm ?_
  refine G_callv (k := 66) (.mk rfl rfl rfl rfl) rfl rfl (.none rfl) (EqualTk_call _ _ _ _ _ _ _ _ _ _ (by assumption) (by assumption) (by assumption) (by assumption)) ?_
  refine Ga ?_
  refine G_end (X_then (G_ret ?_))
  refine G_leaveS (.nil _) (by exact (.cons (.tmp rfl) (.nil))) rfl ?_ ?_
  · exact (.refl _)
  exact ⟨rfl, rfl⟩
end
end Go.Proofs.YtimiokmgnclggaaGreat
set_option linter.unusedSimpArgs false
set_option linter.unusedVariables false
set_option maxHeartbeats 2000000
set_option maxRecDepth 20000
namespace Go.Proofs.YtimiokmgnclggaaGreat
open Go.RowKit
/-! Whether configurations are equal, and light. -/
theorem toks_at {l : List Tok} {k : Nat} {t : Tok} (h : l[k]? = some t) : (toks l)[k * 3 + 2]? = some (.int .i64 t.at') := by
  have h2 : (((toks l).drop (k * 3)).take 3)[2]? = some (.int .i64 t.at') := by rw [toks_get h]; rfl
  simpa [List.getElem?_take, List.getElem?_drop] using h2
section
variable (E : Env) (L : List Res) (st rc at' st' rc' at'' : Int) (part part' : List UInt8) (tp tp' : Option Addr) (tn tc tn' tc' : Nat) (e ea e' ea' : Int) (b b' : Bool) (sp sp' : Option Addr) (sn sc sn' sc' : Nat) (xs ys : List Tok) (us vs : List Spt)
abbrev sameC (st rc at' st' rc' at'' : Int) (part part' : List UInt8) (e ea e' ea' : Int) (b b' : Bool) (xs ys : List Tok) (us vs : List Spt) : Bool :=
  decide (st = st') && decide (rc = rc') && decide (at' = at'') && decide (part = part') && decide (b = b') && (decide (e = e') && decide (ea = ea') && decide (xs = ys)) && decide (us = vs)
abbrev sameP (st rc at' st' rc' at'' : Int) (part part' : List UInt8) (e ea e' ea' : Int) (b b' : Bool) (xs ys : List Tok) (us vs : List Spt) : Bool :=
  decide (st = st') && decide (rc = rc') && decide (at' = at'') && decide (part = part') && decide (b = b') && decide (e = e') && decide (ea = ea') && decide (xs = ys) && decide (us = vs)
theorem sameP_eq : sameP st rc at' st' rc' at'' part part' e ea e' ea' b b' xs ys us vs = sameC st rc at' st' rc' at'' part part' e ea e' ea' b b' xs ys us vs := by
  simp only [sameP, sameC, Bool.and_assoc]
theorem SameConf_call (h1 : SlE E 3 tp tn (toks xs)) (h2 : SlE E 3 tp' tn' (toks ys)) (h3 : SlE E 2 sp sn (spC us)) (h4 : SlE E 2 sp' sn' (spC vs)) (n1 : tn ≤ 1000000) (n2 : tn' ≤ 1000000) (n3 : sn ≤ 1000000) (n4 : sn' ≤ 1000000) :
    CallV Tryz.prog 25 #[cfV st rc at' part tp tn tc e ea b sp sn sc, cfV st' rc' at'' part' tp' tn' tc' e' ea' b' sp' sn' sc'] E L (.bool (sameC st rc at' st' rc' at'' part part' e ea e' ea' b b' xs ys us vs)) := by
  refine CallS.toV (CallS.intro (l := [_, _]) _ Tryz.func25 rfl Tryz.ntmps25 rfl ?_)
  refine G_seq (G_region ?_)
  (refine G_boxA rfl rfl rfl rfl (.none rfl) ?_; intro b2)
  (refine G_boxA rfl rfl rfl rfl (.none rfl) ?_; intro b3)
  refine Ga ?_
  refine G_end (X_then (G_seq (G_region ?_)))
  refine Gv (V_fieldAddr rfl rfl (by decide)) ?_
  refine Gv (V_load rfl rfl (Cell.own (.tail _ (.head _)) rfl)) ?_
  refine Gv (V_fieldAddr rfl rfl (by decide)) ?_
  refine Gv (V_load rfl rfl (Cell.own (.head _) rfl)) ?_
  refine Gv (V_eql rfl rfl rfl) ?_
  refine Gm ?_
  apply G_joinAnd 6 10 16 rfl
  · intro H1
    dsimp only [List.take]
    simp only [Bool.and_eq_true, Bool.or_eq_true, Bool.not_eq_true', Bool.not_eq_false', Bool.and_eq_false_iff, Bool.or_eq_false_iff, Bool.not_not, decide_eq_true_eq, decide_eq_false_iff_not, ne_eq, Decidable.not_not, Bool.decide_eq_true] at H1
    refine Gy (V_fieldAddr rfl rfl (by decide)) ?_
    refine Gy (V_load rfl rfl (Cell.own (.tail _ (.head _)) rfl)) ?_
    refine Gy (V_fieldAddr rfl rfl (by decide)) ?_
    refine Gy (V_load rfl rfl (Cell.own (.head _) rfl)) ?_
    refine Gy (V_eql rfl rfl rfl) ?_
    refine Gv (V_pick_t rfl rfl rfl) ?_
    refine G_end ?_
    exact JQ_end 6 rfl rfl (by kernel_rfl)
  · intro H2
    dsimp only [List.take]
    simp only [Bool.and_eq_true, Bool.or_eq_true, Bool.not_eq_true', Bool.not_eq_false', Bool.and_eq_false_iff, Bool.or_eq_false_iff, Bool.not_not, decide_eq_true_eq, decide_eq_false_iff_not, ne_eq, Decidable.not_not, Bool.decide_eq_true] at H2
    refine Gn ?_
    refine Gn ?_
    refine Gn ?_
    refine Gn ?_
    refine Gn ?_
    refine Gv (V_pick_f rfl rfl rfl) ?_
    refine G_end ?_
    exact JQ_end 6 rfl rfl (by kernel_rfl)
  dsimp only [List.drop]
  refine Gm ?_
  apply G_joinAnd 6 17 23 rfl
  · intro H3
    dsimp only [List.take]
    simp only [Bool.and_eq_true, Bool.or_eq_true, Bool.not_eq_true', Bool.not_eq_false', Bool.and_eq_false_iff, Bool.or_eq_false_iff, Bool.not_not, decide_eq_true_eq, decide_eq_false_iff_not, ne_eq, Decidable.not_not, Bool.decide_eq_true] at H3
    refine Gy (V_fieldAddr rfl rfl (by decide)) ?_
    refine Gy (V_load rfl rfl (Cell.own (.tail _ (.head _)) rfl)) ?_
    refine Gy (V_fieldAddr rfl rfl (by decide)) ?_
    refine Gy (V_load rfl rfl (Cell.own (.head _) rfl)) ?_
    refine Gy (V_eql rfl rfl rfl) ?_
    refine Gv (V_pick_t rfl rfl rfl) ?_
    refine G_end ?_
    exact JQ_end 6 rfl rfl (by kernel_rfl)
  · intro H4
    dsimp only [List.take]
    simp only [Bool.and_eq_true, Bool.or_eq_true, Bool.not_eq_true', Bool.not_eq_false', Bool.and_eq_false_iff, Bool.or_eq_false_iff, Bool.not_not, decide_eq_true_eq, decide_eq_false_iff_not, ne_eq, Decidable.not_not, Bool.decide_eq_true] at H4
    refine Gn ?_
    refine Gn ?_
    refine Gn ?_
    refine Gn ?_
    refine Gn ?_
    refine Gv (V_pick_f rfl rfl rfl) ?_
    refine G_end ?_
    exact JQ_end 6 rfl rfl (by kernel_rfl)
  dsimp only [List.drop]
  refine Gm ?_
  apply G_joinAnd 6 24 30 rfl
  · intro H5
    dsimp only [List.take]
    simp only [Bool.and_eq_true, Bool.or_eq_true, Bool.not_eq_true', Bool.not_eq_false', Bool.and_eq_false_iff, Bool.or_eq_false_iff, Bool.not_not, decide_eq_true_eq, decide_eq_false_iff_not, ne_eq, Decidable.not_not, Bool.decide_eq_true] at H5
    refine Gy (V_fieldAddr rfl rfl (by decide)) ?_
    refine Gy (V_load rfl rfl (Cell.own (.tail _ (.head _)) rfl)) ?_
    refine Gy (V_fieldAddr rfl rfl (by decide)) ?_
    refine Gy (V_load rfl rfl (Cell.own (.head _) rfl)) ?_
    refine Gy (V_seql rfl rfl rfl) ?_
    refine Gv (V_pick_t rfl rfl rfl) ?_
    refine G_end ?_
    exact JQ_end 6 rfl rfl (by kernel_rfl)
  · intro H6
    dsimp only [List.take]
    simp only [Bool.and_eq_true, Bool.or_eq_true, Bool.not_eq_true', Bool.not_eq_false', Bool.and_eq_false_iff, Bool.or_eq_false_iff, Bool.not_not, decide_eq_true_eq, decide_eq_false_iff_not, ne_eq, Decidable.not_not, Bool.decide_eq_true] at H6
    refine Gn ?_
    refine Gn ?_
    refine Gn ?_
    refine Gn ?_
    refine Gn ?_
    refine Gv (V_pick_f rfl rfl rfl) ?_
    refine G_end ?_
    exact JQ_end 6 rfl rfl (by kernel_rfl)
  dsimp only [List.drop]
  refine Gm ?_
  apply G_joinAnd 6 31 37 rfl
  · intro H7
    dsimp only [List.take]
    simp only [Bool.and_eq_true, Bool.or_eq_true, Bool.not_eq_true', Bool.not_eq_false', Bool.and_eq_false_iff, Bool.or_eq_false_iff, Bool.not_not, decide_eq_true_eq, decide_eq_false_iff_not, ne_eq, Decidable.not_not, Bool.decide_eq_true] at H7
    refine Gy (V_fieldAddr rfl rfl (by decide)) ?_
    refine Gy (V_load rfl rfl (Cell.own (.tail _ (.head _)) rfl)) ?_
    refine Gy (V_fieldAddr rfl rfl (by decide)) ?_
    refine Gy (V_load rfl rfl (Cell.own (.head _) rfl)) ?_
    refine Gy (V_beql rfl rfl rfl) ?_
    refine Gv (V_pick_t rfl rfl rfl) ?_
    refine G_end ?_
    exact JQ_end 6 rfl rfl (by kernel_rfl)
  · intro H8
    dsimp only [List.take]
    simp only [Bool.and_eq_true, Bool.or_eq_true, Bool.not_eq_true', Bool.not_eq_false', Bool.and_eq_false_iff, Bool.or_eq_false_iff, Bool.not_not, decide_eq_true_eq, decide_eq_false_iff_not, ne_eq, Decidable.not_not, Bool.decide_eq_true] at H8
    refine Gn ?_
    refine Gn ?_
    refine Gn ?_
    refine Gn ?_
    refine Gn ?_
    refine Gv (V_pick_f rfl rfl rfl) ?_
    refine G_end ?_
    exact JQ_end 6 rfl rfl (by kernel_rfl)
  dsimp only [List.drop]
  refine Gm ?_
  apply G_joinAnd 6 38 44 rfl
  · intro H9
    dsimp only [List.take]
    simp only [Bool.and_eq_true, Bool.or_eq_true, Bool.not_eq_true', Bool.not_eq_false', Bool.and_eq_false_iff, Bool.or_eq_false_iff, Bool.not_not, decide_eq_true_eq, decide_eq_false_iff_not, ne_eq, Decidable.not_not, Bool.decide_eq_true] at H9
    refine Gy (V_fieldAddr rfl rfl (by decide)) ?_
    refine Gy (V_loadF rfl rfl (.tail _ (.head _)) (by simp only [Nat.zero_add, List.drop_succ_cons, List.drop_zero, List.take_succ_cons, List.take_zero]; rfl) (by rfl)) ?_
    refine Gy (V_fieldAddr rfl rfl (by decide)) ?_
    refine Gy (V_loadF rfl rfl (.head _) (by simp only [Nat.zero_add, List.drop_succ_cons, List.drop_zero, List.take_succ_cons, List.take_zero]; rfl) (by rfl)) ?_
    refine G_callv (k := 49) (.mk rfl rfl rfl rfl) rfl rfl (.yes rfl rfl rfl rfl) (SameRing_call _ _ _ _ _ _ _ _ _ _ _ _ _ _ (by assumption) (by assumption) (by assumption) (by assumption)) ?_
    refine Gv (V_pick_t rfl rfl rfl) ?_
    refine G_end ?_
    exact JQ_end 6 rfl rfl (by kernel_rfl)
  · intro H10
    dsimp only [List.take]
    simp only [Bool.and_eq_true, Bool.or_eq_true, Bool.not_eq_true', Bool.not_eq_false', Bool.and_eq_false_iff, Bool.or_eq_false_iff, Bool.not_not, decide_eq_true_eq, decide_eq_false_iff_not, ne_eq, Decidable.not_not, Bool.decide_eq_true] at H10
    refine Gn ?_
    refine Gn ?_
    refine Gn ?_
    refine Gn ?_
    refine Gn ?_
    refine Gv (V_pick_f rfl rfl rfl) ?_
    refine G_end ?_
    exact JQ_end 6 rfl rfl (by kernel_rfl)
  dsimp only [List.drop]
  refine Gm ?_
  apply G_joinAnd 6 45 51 rfl
  · intro H11
    dsimp only [List.take]
    simp only [Bool.and_eq_true, Bool.or_eq_true, Bool.not_eq_true', Bool.not_eq_false', Bool.and_eq_false_iff, Bool.or_eq_false_iff, Bool.not_not, decide_eq_true_eq, decide_eq_false_iff_not, ne_eq, Decidable.not_not, Bool.decide_eq_true] at H11
    refine Gy (V_fieldAddr rfl rfl (by decide)) ?_
    refine Gy (V_load rfl rfl (Cell.own (.tail _ (.head _)) rfl)) ?_
    refine Gy (V_fieldAddr rfl rfl (by decide)) ?_
    refine Gy (V_load rfl rfl (Cell.own (.head _) rfl)) ?_
    refine G_callv (k := 50) (.mk rfl rfl rfl rfl) rfl rfl (.yes rfl rfl rfl rfl) (SameSpots_call _ _ _ _ _ _ _ _ _ _ (by assumption) (by assumption) (by assumption) (by assumption)) ?_
    refine Gv (V_pick_t rfl rfl rfl) ?_
    refine G_end ?_
    exact JQ_end 6 rfl rfl (by kernel_rfl)
  · intro H12
    dsimp only [List.take]
    simp only [Bool.and_eq_true, Bool.or_eq_true, Bool.not_eq_true', Bool.not_eq_false', Bool.and_eq_false_iff, Bool.or_eq_false_iff, Bool.not_not, decide_eq_true_eq, decide_eq_false_iff_not, ne_eq, Decidable.not_not, Bool.decide_eq_true] at H12
    refine Gn ?_
    refine Gn ?_
    refine Gn ?_
    refine Gn ?_
    refine Gn ?_
    refine Gv (V_pick_f rfl rfl rfl) ?_
    refine G_end ?_
    exact JQ_end 6 rfl rfl (by kernel_rfl)
  dsimp only [List.drop]
  refine Ga ?_
  refine G_end (X_then (G_ret ?_))
  refine G_leaveS (.drop _ (.drop _ (.nil _))) (by exact (.cons (.tmp rfl) (.nil))) rfl ?_ ?_
  · exact (.refl _)
  exact ⟨rfl, rfl⟩
theorem CSame_call (h1 : SlE E 3 tp tn (toks xs)) (h2 : SlE E 3 tp' tn' (toks ys)) (h3 : SlE E 2 sp sn (spC us)) (h4 : SlE E 2 sp' sn' (spC vs)) (n1 : tn ≤ 1000000) (n2 : tn' ≤ 1000000) (n3 : sn ≤ 1000000) (n4 : sn' ≤ 1000000) :
    CallV Tryz.prog 18 #[cfV st rc at' part tp tn tc e ea b sp sn sc, cfV st' rc' at'' part' tp' tn' tc' e' ea' b' sp' sn' sc'] E L (.bool (sameC st rc at' st' rc' at'' part part' e ea e' ea' b b' xs ys us vs)) := by
  rw [← sameP_eq]
  refine CallS.toV (CallS.intro (l := [_, _]) _ Tryz.func18 rfl Tryz.ntmps18 rfl ?_)
  refine G_seq (G_region ?_)
  (refine G_boxA rfl rfl rfl rfl (.none rfl) ?_; intro b2)
  (refine G_boxA rfl rfl rfl rfl (.none rfl) ?_; intro b3)
  refine Ga ?_
  refine G_end (X_then (G_seq (G_region ?_)))
  refine Gv (V_fieldAddr rfl rfl (by decide)) ?_
  refine Gv (V_load rfl rfl (Cell.own (.tail _ (.head _)) rfl)) ?_
  refine Gv (V_fieldAddr rfl rfl (by decide)) ?_
  refine Gv (V_load rfl rfl (Cell.own (.head _) rfl)) ?_
  refine Gv (V_eql rfl rfl rfl) ?_
  refine Gm ?_
  apply G_joinAnd 6 11 17 rfl
  · intro H1
    dsimp only [List.take]
    simp only [Bool.and_eq_true, Bool.or_eq_true, Bool.not_eq_true', Bool.not_eq_false', Bool.and_eq_false_iff, Bool.or_eq_false_iff, Bool.not_not, decide_eq_true_eq, decide_eq_false_iff_not, ne_eq, Decidable.not_not, Bool.decide_eq_true] at H1
    refine Gy (V_fieldAddr rfl rfl (by decide)) ?_
    refine Gy (V_load rfl rfl (Cell.own (.tail _ (.head _)) rfl)) ?_
    refine Gy (V_fieldAddr rfl rfl (by decide)) ?_
    refine Gy (V_load rfl rfl (Cell.own (.head _) rfl)) ?_
    refine Gy (V_eql rfl rfl rfl) ?_
    refine Gv (V_pick_t rfl rfl rfl) ?_
    refine G_end ?_
    exact JQ_end 6 rfl rfl (by kernel_rfl)
  · intro H2
    dsimp only [List.take]
    simp only [Bool.and_eq_true, Bool.or_eq_true, Bool.not_eq_true', Bool.not_eq_false', Bool.and_eq_false_iff, Bool.or_eq_false_iff, Bool.not_not, decide_eq_true_eq, decide_eq_false_iff_not, ne_eq, Decidable.not_not, Bool.decide_eq_true] at H2
    refine Gn ?_
    refine Gn ?_
    refine Gn ?_
    refine Gn ?_
    refine Gn ?_
    refine Gv (V_pick_f rfl rfl rfl) ?_
    refine G_end ?_
    exact JQ_end 6 rfl rfl (by kernel_rfl)
  dsimp only [List.drop]
  refine Gm ?_
  apply G_joinAnd 6 18 24 rfl
  · intro H3
    dsimp only [List.take]
    simp only [Bool.and_eq_true, Bool.or_eq_true, Bool.not_eq_true', Bool.not_eq_false', Bool.and_eq_false_iff, Bool.or_eq_false_iff, Bool.not_not, decide_eq_true_eq, decide_eq_false_iff_not, ne_eq, Decidable.not_not, Bool.decide_eq_true] at H3
    refine Gy (V_fieldAddr rfl rfl (by decide)) ?_
    refine Gy (V_load rfl rfl (Cell.own (.tail _ (.head _)) rfl)) ?_
    refine Gy (V_fieldAddr rfl rfl (by decide)) ?_
    refine Gy (V_load rfl rfl (Cell.own (.head _) rfl)) ?_
    refine Gy (V_eql rfl rfl rfl) ?_
    refine Gv (V_pick_t rfl rfl rfl) ?_
    refine G_end ?_
    exact JQ_end 6 rfl rfl (by kernel_rfl)
  · intro H4
    dsimp only [List.take]
    simp only [Bool.and_eq_true, Bool.or_eq_true, Bool.not_eq_true', Bool.not_eq_false', Bool.and_eq_false_iff, Bool.or_eq_false_iff, Bool.not_not, decide_eq_true_eq, decide_eq_false_iff_not, ne_eq, Decidable.not_not, Bool.decide_eq_true] at H4
    refine Gn ?_
    refine Gn ?_
    refine Gn ?_
    refine Gn ?_
    refine Gn ?_
    refine Gv (V_pick_f rfl rfl rfl) ?_
    refine G_end ?_
    exact JQ_end 6 rfl rfl (by kernel_rfl)
  dsimp only [List.drop]
  refine Gm ?_
  apply G_joinAnd 6 25 31 rfl
  · intro H5
    dsimp only [List.take]
    simp only [Bool.and_eq_true, Bool.or_eq_true, Bool.not_eq_true', Bool.not_eq_false', Bool.and_eq_false_iff, Bool.or_eq_false_iff, Bool.not_not, decide_eq_true_eq, decide_eq_false_iff_not, ne_eq, Decidable.not_not, Bool.decide_eq_true] at H5
    refine Gy (V_fieldAddr rfl rfl (by decide)) ?_
    refine Gy (V_load rfl rfl (Cell.own (.tail _ (.head _)) rfl)) ?_
    refine Gy (V_fieldAddr rfl rfl (by decide)) ?_
    refine Gy (V_load rfl rfl (Cell.own (.head _) rfl)) ?_
    refine Gy (V_seql rfl rfl rfl) ?_
    refine Gv (V_pick_t rfl rfl rfl) ?_
    refine G_end ?_
    exact JQ_end 6 rfl rfl (by kernel_rfl)
  · intro H6
    dsimp only [List.take]
    simp only [Bool.and_eq_true, Bool.or_eq_true, Bool.not_eq_true', Bool.not_eq_false', Bool.and_eq_false_iff, Bool.or_eq_false_iff, Bool.not_not, decide_eq_true_eq, decide_eq_false_iff_not, ne_eq, Decidable.not_not, Bool.decide_eq_true] at H6
    refine Gn ?_
    refine Gn ?_
    refine Gn ?_
    refine Gn ?_
    refine Gn ?_
    refine Gv (V_pick_f rfl rfl rfl) ?_
    refine G_end ?_
    exact JQ_end 6 rfl rfl (by kernel_rfl)
  dsimp only [List.drop]
  refine Gm ?_
  apply G_joinAnd 6 32 38 rfl
  · intro H7
    dsimp only [List.take]
    simp only [Bool.and_eq_true, Bool.or_eq_true, Bool.not_eq_true', Bool.not_eq_false', Bool.and_eq_false_iff, Bool.or_eq_false_iff, Bool.not_not, decide_eq_true_eq, decide_eq_false_iff_not, ne_eq, Decidable.not_not, Bool.decide_eq_true] at H7
    refine Gy (V_fieldAddr rfl rfl (by decide)) ?_
    refine Gy (V_load rfl rfl (Cell.own (.tail _ (.head _)) rfl)) ?_
    refine Gy (V_fieldAddr rfl rfl (by decide)) ?_
    refine Gy (V_load rfl rfl (Cell.own (.head _) rfl)) ?_
    refine Gy (V_beql rfl rfl rfl) ?_
    refine Gv (V_pick_t rfl rfl rfl) ?_
    refine G_end ?_
    exact JQ_end 6 rfl rfl (by kernel_rfl)
  · intro H8
    dsimp only [List.take]
    simp only [Bool.and_eq_true, Bool.or_eq_true, Bool.not_eq_true', Bool.not_eq_false', Bool.and_eq_false_iff, Bool.or_eq_false_iff, Bool.not_not, decide_eq_true_eq, decide_eq_false_iff_not, ne_eq, Decidable.not_not, Bool.decide_eq_true] at H8
    refine Gn ?_
    refine Gn ?_
    refine Gn ?_
    refine Gn ?_
    refine Gn ?_
    refine Gv (V_pick_f rfl rfl rfl) ?_
    refine G_end ?_
    exact JQ_end 6 rfl rfl (by kernel_rfl)
  dsimp only [List.drop]
  refine Ga ?_
  refine G_end (X_then (G_seq (G_region ?_)))
  refine Gm ?_
  refine Gm ?_
  apply G_joinAnd 8 40 48 rfl
  · intro H9
    dsimp only [List.take]
    simp only [Bool.and_eq_true, Bool.or_eq_true, Bool.not_eq_true', Bool.not_eq_false', Bool.and_eq_false_iff, Bool.or_eq_false_iff, Bool.not_not, decide_eq_true_eq, decide_eq_false_iff_not, ne_eq, Decidable.not_not, Bool.decide_eq_true] at H9
    refine Gy (V_fieldAddr rfl rfl (by decide)) ?_
    refine Gy (V_fieldAddr rfl rfl (by decide)) ?_
    refine Gy (V_load rfl rfl (Cell.own (.tail _ (.head _)) rfl)) ?_
    refine Gy (V_fieldAddr rfl rfl (by decide)) ?_
    refine Gy (V_fieldAddr rfl rfl (by decide)) ?_
    refine Gy (V_load rfl rfl (Cell.own (.head _) rfl)) ?_
    refine Gy (V_eql rfl rfl rfl) ?_
    refine Gv (V_pick_t rfl rfl rfl) ?_
    refine G_end ?_
    exact JQ_end 8 rfl rfl (by kernel_rfl)
  · intro H10
    dsimp only [List.take]
    simp only [Bool.and_eq_true, Bool.or_eq_true, Bool.not_eq_true', Bool.not_eq_false', Bool.and_eq_false_iff, Bool.or_eq_false_iff, Bool.not_not, decide_eq_true_eq, decide_eq_false_iff_not, ne_eq, Decidable.not_not, Bool.decide_eq_true] at H10
    refine Gn ?_
    refine Gn ?_
    refine Gn ?_
    refine Gn ?_
    refine Gn ?_
    refine Gn ?_
    refine Gn ?_
    refine Gv (V_pick_f rfl rfl rfl) ?_
    refine G_end ?_
    exact JQ_end 8 rfl rfl (by kernel_rfl)
  dsimp only [List.drop]
  refine Gm ?_
  apply G_joinAnd 8 49 57 rfl
  · intro H11
    dsimp only [List.take]
    simp only [Bool.and_eq_true, Bool.or_eq_true, Bool.not_eq_true', Bool.not_eq_false', Bool.and_eq_false_iff, Bool.or_eq_false_iff, Bool.not_not, decide_eq_true_eq, decide_eq_false_iff_not, ne_eq, Decidable.not_not, Bool.decide_eq_true] at H11
    refine Gy (V_fieldAddr rfl rfl (by decide)) ?_
    refine Gy (V_fieldAddr rfl rfl (by decide)) ?_
    refine Gy (V_load rfl rfl (Cell.own (.tail _ (.head _)) rfl)) ?_
    refine Gy (V_fieldAddr rfl rfl (by decide)) ?_
    refine Gy (V_fieldAddr rfl rfl (by decide)) ?_
    refine Gy (V_load rfl rfl (Cell.own (.head _) rfl)) ?_
    refine Gy (V_eql rfl rfl rfl) ?_
    refine Gv (V_pick_t rfl rfl rfl) ?_
    refine G_end ?_
    exact JQ_end 8 rfl rfl (by kernel_rfl)
  · intro H12
    dsimp only [List.take]
    simp only [Bool.and_eq_true, Bool.or_eq_true, Bool.not_eq_true', Bool.not_eq_false', Bool.and_eq_false_iff, Bool.or_eq_false_iff, Bool.not_not, decide_eq_true_eq, decide_eq_false_iff_not, ne_eq, Decidable.not_not, Bool.decide_eq_true] at H12
    refine Gn ?_
    refine Gn ?_
    refine Gn ?_
    refine Gn ?_
    refine Gn ?_
    refine Gn ?_
    refine Gn ?_
    refine Gv (V_pick_f rfl rfl rfl) ?_
    refine G_end ?_
    exact JQ_end 8 rfl rfl (by kernel_rfl)
  dsimp only [List.drop]
  refine Gm ?_
  apply G_joinAnd 8 58 66 rfl
  · intro H13
    dsimp only [List.take]
    simp only [Bool.and_eq_true, Bool.or_eq_true, Bool.not_eq_true', Bool.not_eq_false', Bool.and_eq_false_iff, Bool.or_eq_false_iff, Bool.not_not, decide_eq_true_eq, decide_eq_false_iff_not, ne_eq, Decidable.not_not, Bool.decide_eq_true] at H13
    refine Gy (V_fieldAddr rfl rfl (by decide)) ?_
    refine Gy (V_fieldAddr rfl rfl (by decide)) ?_
    refine Gy (V_load rfl rfl (Cell.own (.tail _ (.head _)) rfl)) ?_
    refine Gy (V_fieldAddr rfl rfl (by decide)) ?_
    refine Gy (V_fieldAddr rfl rfl (by decide)) ?_
    refine Gy (V_load rfl rfl (Cell.own (.head _) rfl)) ?_
    refine G_callv (k := 38) (.mk rfl rfl rfl rfl) rfl rfl (.yes rfl rfl rfl rfl) (equalTk_call _ _ _ _ _ _ _ _ _ _ (by assumption) (by assumption) (by assumption) (by assumption)) ?_
    refine Gv (V_pick_t rfl rfl rfl) ?_
    refine G_end ?_
    exact JQ_end 8 rfl rfl (by kernel_rfl)
  · intro H14
    dsimp only [List.take]
    simp only [Bool.and_eq_true, Bool.or_eq_true, Bool.not_eq_true', Bool.not_eq_false', Bool.and_eq_false_iff, Bool.or_eq_false_iff, Bool.not_not, decide_eq_true_eq, decide_eq_false_iff_not, ne_eq, Decidable.not_not, Bool.decide_eq_true] at H14
    refine Gn ?_
    refine Gn ?_
    refine Gn ?_
    refine Gn ?_
    refine Gn ?_
    refine Gn ?_
    refine Gn ?_
    refine Gv (V_pick_f rfl rfl rfl) ?_
    refine G_end ?_
    exact JQ_end 8 rfl rfl (by kernel_rfl)
  dsimp only [List.drop]
  refine Gm ?_
  apply G_joinAnd 6 67 73 rfl
  · intro H15
    dsimp only [List.take]
    simp only [Bool.and_eq_true, Bool.or_eq_true, Bool.not_eq_true', Bool.not_eq_false', Bool.and_eq_false_iff, Bool.or_eq_false_iff, Bool.not_not, decide_eq_true_eq, decide_eq_false_iff_not, ne_eq, Decidable.not_not, Bool.decide_eq_true] at H15
    refine Gy (V_fieldAddr rfl rfl (by decide)) ?_
    refine Gy (V_load rfl rfl (Cell.own (.tail _ (.head _)) rfl)) ?_
    refine Gy (V_fieldAddr rfl rfl (by decide)) ?_
    refine Gy (V_load rfl rfl (Cell.own (.head _) rfl)) ?_
    refine G_callv (k := 39) (.mk rfl rfl rfl rfl) rfl rfl (.yes rfl rfl rfl rfl) (equalSp_call _ _ _ _ _ _ _ _ _ _ (by assumption) (by assumption) (by assumption) (by assumption)) ?_
    refine Gv (V_pick_t rfl rfl rfl) ?_
    refine G_end ?_
    exact JQ_end 6 rfl rfl (by kernel_rfl)
  · intro H16
    dsimp only [List.take]
    simp only [Bool.and_eq_true, Bool.or_eq_true, Bool.not_eq_true', Bool.not_eq_false', Bool.and_eq_false_iff, Bool.or_eq_false_iff, Bool.not_not, decide_eq_true_eq, decide_eq_false_iff_not, ne_eq, Decidable.not_not, Bool.decide_eq_true] at H16
    refine Gn ?_
    refine Gn ?_
    refine Gn ?_
    refine Gn ?_
    refine Gn ?_
    refine Gv (V_pick_f rfl rfl rfl) ?_
    refine G_end ?_
    exact JQ_end 6 rfl rfl (by kernel_rfl)
  dsimp only [List.drop]
  refine Ga ?_
  refine G_end (X_then (G_ret ?_))
  refine G_leaveS (.drop _ (.drop _ (.nil _))) (by exact (.cons (.tmp rfl) (.nil))) rfl ?_ ?_
  · exact (.refl _)
  exact ⟨rfl, rfl⟩
end
end Go.Proofs.YtimiokmgnclggaaGreat
set_option linter.unusedSimpArgs false
set_option linter.unusedVariables false
set_option maxHeartbeats 2000000
set_option maxRecDepth 20000
namespace Go.Proofs.YtimiokmgnclggaaGreat
open Go.RowKit
/-! The checks of a configuration, one by one. -/
abbrev ckV (st rc at' : Int) (part : List UInt8) (tp : Option Addr) (tn tc : Nat) (e ea : Int) (b : Bool) (sp : Option Addr) (sn sc : Nat) (gk : Int) (gp : Option Addr) (gn gc : Nat) (sep : List UInt8) (np : Option Addr) (nn nc : Nat) (start : Int) (pp : Option Addr) (pn pc : Nat) : Value :=
  .agg #[.int .i64 st, .int .i64 rc, .int .i64 at', .string (S part), .slice tp tn tc, .int .i64 e, .int .i64 ea, .bool b, .slice sp sn sc, .int .i64 gk, .slice gp gn gc, .string (S sep), .slice np nn nc, .int .i64 start, .slice pp pn pc]
abbrev CKB (bl : Nat) (st rc at' : Int) (part : List UInt8) (tp : Option Addr) (tn tc : Nat) (e ea : Int) (b : Bool) (sp : Option Addr) (sn sc : Nat) (gk : Int) (gp : Option Addr) (gn gc : Nat) (sep : List UInt8) (np : Option Addr) (nn nc : Nat) (start : Int) (pp : Option Addr) (pn pc : Nat) : Res :=
  .blk bl (.cells #[.int .i64 st, .int .i64 rc, .int .i64 at', .string (S part), .slice tp tn tc, .int .i64 e, .int .i64 ea, .bool b, .slice sp sn sc, .int .i64 gk, .slice gp gn gc, .string (S sep), .slice np nn nc, .int .i64 start, .slice pp pn pc] 79 (0, 0))
def rngB (rc at' : Int) : Bool := decide (0 ≤ rc) && decide (rc ≤ 1099511627776) && (decide (0 ≤ at') && decide (at' ≤ 1099511627776))
section
variable (E : Env) (L : List Res) (st rc at' : Int) (part : List UInt8) (tp : Option Addr) (tn tc : Nat) (e ea : Int) (b : Bool) (sp : Option Addr) (sn sc : Nat) (gk : Int) (gp : Option Addr) (gn gc : Nat) (sep : List UInt8) (np : Option Addr) (nn nc : Nat) (start : Int) (pp : Option Addr) (pn pc : Nat)
theorem cstate_call : CallV Tryz.prog 29 #[ckV st rc at' part tp tn tc e ea b sp sn sc gk gp gn gc sep np nn nc start pp pn pc] E L (.int .i64 (if st < 1 ∨ 6 < st then 10 else 0)) := by
  refine CallS.toV (CallS.intro (l := [_]) _ Tryz.func29 rfl Tryz.ntmps29 rfl ?_)
  refine G_seq (G_region ?_)
  (refine G_boxA rfl rfl rfl rfl (.none rfl) ?_; intro b1)
  refine Ga ?_
  refine G_end (X_then (G_seq (G_seq (G_region ?_))))
  refine Gv (V_fieldAddr rfl rfl (by decide)) ?_
  refine Gv (V_fieldAddr rfl rfl (by decide)) ?_
  refine Gv (V_load rfl rfl (Cell.own (.head _) rfl)) ?_
  refine Gv (V_lss rfl rfl rfl) ?_
  refine Gm ?_
  apply G_joinOr 5 7 12 rfl
  · intro H1
    dsimp only [List.take]
    simp only [Bool.and_eq_true, Bool.or_eq_true, Bool.not_eq_true', Bool.not_eq_false', Bool.and_eq_false_iff, Bool.or_eq_false_iff, Bool.not_not, decide_eq_true_eq, decide_eq_false_iff_not, ne_eq, Decidable.not_not, Bool.decide_eq_true] at H1
    refine Gn ?_
    refine Gn ?_
    refine Gn ?_
    refine Gn ?_
    refine Gv (V_pick_t rfl rfl rfl) ?_
    refine G_end ?_
    exact JQ_end 5 rfl rfl (by kernel_rfl)
  · intro H2
    dsimp only [List.take]
    simp only [Bool.and_eq_true, Bool.or_eq_true, Bool.not_eq_true', Bool.not_eq_false', Bool.and_eq_false_iff, Bool.or_eq_false_iff, Bool.not_not, decide_eq_true_eq, decide_eq_false_iff_not, ne_eq, Decidable.not_not, Bool.decide_eq_true] at H2
    refine Gy (V_fieldAddr rfl rfl (by decide)) ?_
    refine Gy (V_fieldAddr rfl rfl (by decide)) ?_
    refine Gy (V_load rfl rfl (Cell.own (.head _) rfl)) ?_
    refine Gy (V_gtr rfl rfl rfl) ?_
    refine Gv (V_pick_f rfl rfl rfl) ?_
    refine G_end ?_
    exact JQ_end 5 rfl rfl (by kernel_rfl)
  dsimp only [List.drop]
  refine G_end (X_then ?_)
  refine G_cond rfl (fun H3 => ?_) (fun H3 => ?_)
  · simp only [Bool.and_eq_true, Bool.or_eq_true, Bool.not_eq_true', Bool.not_eq_false', Bool.and_eq_false_iff, Bool.or_eq_false_iff, Bool.not_not, decide_eq_true_eq, decide_eq_false_iff_not, ne_eq, Decidable.not_not, Bool.decide_eq_true] at H3
    refine G_seq (G_region ?_)
    refine Ga ?_
    refine G_end (X_then (G_ret (X_then_ret ?_)))
    refine G_leaveS (.drop _ (.nil _)) (by exact (.cons (.tmp rfl) (.nil))) rfl ?_ ?_
    · exact (.refl _)
    exact ⟨(by (simp (discharger := omega) only [resVal, if_pos, if_neg]; first | done | rfl)), (by rfl)⟩
  simp only [Bool.and_eq_true, Bool.or_eq_true, Bool.not_eq_true', Bool.not_eq_false', Bool.and_eq_false_iff, Bool.or_eq_false_iff, Bool.not_not, decide_eq_true_eq, decide_eq_false_iff_not, ne_eq, Decidable.not_not, Bool.decide_eq_true] at H3
  refine G_skip (X_then (G_seq (G_region ?_)))
  refine Ga ?_
  refine G_end (X_then (G_ret ?_))
  refine G_leaveS (.drop _ (.nil _)) (by exact (.cons (.tmp rfl) (.nil))) rfl ?_ ?_
  · exact (.refl _)
  exact ⟨(by (simp (discharger := omega) only [resVal, if_pos, if_neg]; first | done | rfl)), (by rfl)⟩
theorem cnumbers_call : CallV Tryz.prog 30 #[ckV st rc at' part tp tn tc e ea b sp sn sc gk gp gn gc sep np nn nc start pp pn pc] E L (.int .i64 (if rngB rc at' = true then 0 else 2)) := by
  refine CallS.toV (CallS.intro (l := [_]) _ Tryz.func30 rfl Tryz.ntmps30 rfl ?_)
  refine G_seq (G_region ?_)
  (refine G_boxA rfl rfl rfl rfl (.none rfl) ?_; intro b1)
  refine Ga ?_
  refine G_end (X_then (G_seq (G_seq (G_region ?_))))
  refine Gv (V_fieldAddr rfl rfl (by decide)) ?_
  refine Gv (V_fieldAddr rfl rfl (by decide)) ?_
  refine Gv (V_load rfl rfl (Cell.own (.head _) rfl)) ?_
  refine G_callv (k := 61) (.mk rfl rfl rfl rfl) rfl rfl (.none rfl) (ccounts_call _ _ _) ?_
  refine Gv (V_not rfl rfl) ?_
  refine Gm ?_
  apply G_joinOr 6 8 14 rfl
  · intro H1
    dsimp only [List.take]
    simp only [Bool.and_eq_true, Bool.or_eq_true, Bool.not_eq_true', Bool.not_eq_false', Bool.and_eq_false_iff, Bool.or_eq_false_iff, Bool.not_not, decide_eq_true_eq, decide_eq_false_iff_not, ne_eq, Decidable.not_not, Bool.decide_eq_true] at H1
    refine Gn ?_
    refine Gn ?_
    refine Gn ?_
    refine Gn ?_
    refine Gn ?_
    refine Gv (V_pick_t rfl rfl rfl) ?_
    refine G_end ?_
    exact JQ_end 6 rfl rfl (by kernel_rfl)
  · intro H2
    dsimp only [List.take]
    simp only [Bool.and_eq_true, Bool.or_eq_true, Bool.not_eq_true', Bool.not_eq_false', Bool.and_eq_false_iff, Bool.or_eq_false_iff, Bool.not_not, decide_eq_true_eq, decide_eq_false_iff_not, ne_eq, Decidable.not_not, Bool.decide_eq_true] at H2
    refine Gy (V_fieldAddr rfl rfl (by decide)) ?_
    refine Gy (V_fieldAddr rfl rfl (by decide)) ?_
    refine Gy (V_load rfl rfl (Cell.own (.head _) rfl)) ?_
    refine G_callv (k := 61) (.mk rfl rfl rfl rfl) rfl rfl (.yes rfl rfl rfl rfl) (ccounts_call _ _ _) ?_
    refine Gy (V_not rfl rfl) ?_
    refine Gv (V_pick_f rfl rfl rfl) ?_
    refine G_end ?_
    exact JQ_end 6 rfl rfl (by kernel_rfl)
  dsimp only [List.drop]
  refine G_end (X_then ?_)
  refine G_cond rfl (fun H3 => ?_) (fun H3 => ?_)
  · simp only [Bool.and_eq_true, Bool.or_eq_true, Bool.not_eq_true', Bool.not_eq_false', Bool.and_eq_false_iff, Bool.or_eq_false_iff, Bool.not_not, decide_eq_true_eq, decide_eq_false_iff_not, ne_eq, Decidable.not_not, Bool.decide_eq_true] at H3
    refine G_seq (G_region ?_)
    refine Ga ?_
    refine G_end (X_then (G_ret (X_then_ret ?_)))
    refine G_leaveS (.drop _ (.nil _)) (by exact (.cons (.tmp rfl) (.nil))) rfl ?_ ?_
    · exact (.refl _)
    exact ⟨(by ((try simp only [resVal, rngB]); (repeat' split) <;> first | rfl | (exfalso; omega) | (simp_all; done) | (simp_all; omega))), (by rfl)⟩
  simp only [Bool.and_eq_true, Bool.or_eq_true, Bool.not_eq_true', Bool.not_eq_false', Bool.and_eq_false_iff, Bool.or_eq_false_iff, Bool.not_not, decide_eq_true_eq, decide_eq_false_iff_not, ne_eq, Decidable.not_not, Bool.decide_eq_true] at H3
  refine G_skip (X_then (G_seq (G_region ?_)))
  refine Ga ?_
  refine G_end (X_then (G_ret ?_))
  refine G_leaveS (.drop _ (.nil _)) (by exact (.cons (.tmp rfl) (.nil))) rfl ?_ ?_
  · exact (.refl _)
  exact ⟨(by (simp [resVal, rngB, *]; done)), (by rfl)⟩
theorem cseps1_call (bl : Nat) (a : Int) (s : List UInt8) (d : Int) (hm : CKB bl st rc at' part tp tn tc e ea b sp sn sc gk gp gn gc sep np nn nc start pp pn pc ∈ L) : CallV Tryz.prog 63 #[.agg #[.int .i64 a, .string (S s), .int .i64 d], .pointer (some ⟨bl, 0, none⟩)] E L (.bool (decide (a = gn))) := by
  refine CallS.toV (CallS.intro (l := [_, _]) _ Tryz.func63 rfl Tryz.ntmps63 rfl ?_)
  refine G_seq (G_region ?_)
  (refine G_boxA rfl rfl rfl rfl (.none rfl) ?_; intro b2)
  refine Ga ?_
  refine G_end (X_then (G_seq (G_region ?_)))
  refine Gv (V_fieldAddr rfl rfl (by decide)) ?_
  refine Gv (V_load rfl rfl (Cell.own (.head _) rfl)) ?_
  refine Gv (V_fieldAddr rfl rfl (by decide)) ?_
  refine Gv (V_fieldAddr rfl rfl (by decide)) ?_
  refine Gv (V_load rfl rfl (Cell.own (.tail _ (by assumption)) rfl)) ?_
  refine Gv (V_lenS rfl rfl) ?_
  refine Gv (V_eql rfl rfl rfl) ?_
  refine Ga ?_
  refine G_end (X_then (G_ret ?_))
  refine G_leaveS (.drop _ (.nil _)) (by exact (.cons (.tmp rfl) (.nil))) rfl ?_ ?_
  · exact (.refl _)
  exact ⟨rfl, rfl⟩
theorem IndexFuncT_call (l : List Tok) (hx : SlE E 3 tp tn (toks l)) (hn : tn ≤ 1000000) (k : Nat) (bl : Nat) (hm : CKB bl st rc at' part tp tn tc e ea b sp sn sc gk gp gn gc sep np nn nc start pp pn pc ∈ L) :
    CallS Tryz.prog 99 #[.slice tp tn k, .func (.func 63) #[] #[.pointer (some ⟨bl, 0, none⟩)]] E L (fun r E' L' => ∃ i : Int, r = .int .i64 i ∧ (0 ≤ i ↔ l.any (fun t => decide (t.sym = gn)) = true) ∧ L' = L) := by
  have e1 := hx.nT
  subst e1
  refine CallS.intro (l := [_, _]) _ Tryz.func99 rfl Tryz.ntmps99 rfl ?_
  refine G_seq (G_region ?_)
  refine Ga ?_
  refine G_end (X_then (G_seq (G_seq (G_region ?_))))
  refine Gm ?_
  refine Gv (V_lenS rfl rfl) ?_
  refine Gm ?_
  refine G_end (X_then (G_block ?_))
  refine G_loop (α := Nat) (fun i => [(0, .slice tp l.length k), (1, .func (.func 63) #[] #[.pointer (some ⟨bl, 0, none⟩)]), (7, .int .i64 l.length), (8, .int .i64 i)]) (fun _ => E) (fun i => L)
    (fun i => i ≤ l.length ∧ ∀ k, k < i → (hk : k < l.length) → decide (l[k].sym = gn) = false) (fun i => l.length - i) 0 ⟨Nat.zero_le _, fun k hk => by cases hk⟩ ⟨rfl, rfl, rfl, rfl, trivial⟩ rfl rfl ?_
  rintro i ⟨hi, hall⟩
  by_cases hlt : i < l.length
  · have hy := toks_get (List.getElem?_eq_getElem hlt)
    by_cases hb : l[i].sym = gn
    · have hfin : (0 : Int) ≤ (i : Int) ↔ l.any (fun t => decide (t.sym = gn)) = true := ⟨fun _ => any_of hlt (by simpa using hb), fun _ => by omega⟩
      refine G_seq (G_region ?_)
      refine Gv (V_lss rfl rfl rfl) ?_
      refine G_end (X_then (G_seq ?_))
      refine G_cond_t rfl (decide_eq_true (by omega)) ?_
      refine G_skip (X_then (G_seq (G_block (G_seq (G_region ?_)))))
      refine Gm ?_
      refine Ga ?_
      refine G_end (X_then (G_seq (G_region ?_)))
      refine Gm ?_
      refine Gm ?_
      refine Gm ?_
      refine Gv (V_idxAddr rfl rfl rfl (SlE.rd (by assumption)) (by omega) (by omega)) ?_
      refine Gv (V_loadAS rfl rfl (SlE.rd (by assumption)) (by assumption) (by simp) (by rfl)) ?_
      refine G_callv (k := 63) (.mk rfl rfl rfl rfl) rfl rfl (.none rfl) (cseps1_call _ _ _ _ _ _ _ _ _ _ _ _ _ _ _ _ _ _ _ _ _ _ _ _ _ _ _ _ _ _ _ (by assumption)) ?_
      refine G_end (X_then ?_)
      refine G_cond_t rfl (decide_eq_true (by omega)) ?_
      refine G_seq (G_region ?_)
      refine Gm ?_
      refine Ga ?_
      refine G_end (X_then (G_ret (X_block_ret (X_then_ret (X_then_ret (X_block_ret (X_then_ret ?_)))))))
      refine G_leaveS (.nil _) (by exact (.cons (.tmp rfl) (.nil))) rfl ?_ ?_
      · exact (.refl _)
      exact ⟨_, ⟨rfl, ⟨(by assumption), rfl⟩⟩⟩
    · refine G_seq ?_
      refine G_region ?_
      refine Gv (V_lss rfl rfl rfl) ?_
      refine G_end (X_then (G_seq ?_))
      refine G_cond_t rfl (decide_eq_true (by omega)) ?_
      refine G_skip (X_then (G_seq (G_block (G_seq (G_region ?_)))))
      refine Gm ?_
      refine Ga ?_
      refine G_end (X_then (G_seq (G_region ?_)))
      refine Gm ?_
      refine Gm ?_
      refine Gm ?_
      refine Gv (V_idxAddr rfl rfl rfl (SlE.rd (by assumption)) (by omega) (by omega)) ?_
      refine Gv (V_loadAS rfl rfl (SlE.rd (by assumption)) (by assumption) (by simp) (by rfl)) ?_
      refine G_callv (k := 63) (.mk rfl rfl rfl rfl) rfl rfl (.none rfl) (cseps1_call _ _ _ _ _ _ _ _ _ _ _ _ _ _ _ _ _ _ _ _ _ _ _ _ _ _ _ _ _ _ _ (by assumption)) ?_
      refine G_end (X_then ?_)
      refine G_cond_f rfl (decide_eq_false (by omega)) ?_
      refine G_skip (X_block (X_then (G_region ?_)))
      refine Gv (V_add_i64 rfl rfl rfl (by omega) (by omega)) ?_
      refine Gm ?_
      refine G_end (X_then ?_)
      refine G_again (i + 1) ⟨hlt, ?_⟩ (by omega) ⟨rfl, rfl, rfl, rfl, trivial⟩ rfl rfl
      intro k hk hk2
      by_cases he : k = i
      · subst he; simpa using hb
      · exact hall k (by omega) hk2
  · have hfin : (0 : Int) ≤ -1 ↔ l.any (fun t => decide (t.sym = gn)) = true := ⟨fun h => by omega, fun h => by rw [any_none fun k hk => hall k (by omega) hk] at h; cases h⟩
    refine G_seq (G_region ?_)
    refine Gv (V_lss rfl rfl rfl) ?_
    refine G_end (X_then (G_seq ?_))
    refine G_cond_f rfl (decide_eq_false (by omega)) ?_
    refine G_exit (X_then_exit (X_then_exit (X_block_hit (X_then (G_seq (G_region ?_))))))
    refine Ga ?_
    refine G_end (X_then (G_ret ?_))
    refine G_leaveS (.nil _) (by exact (.cons (.tmp rfl) (.nil))) rfl ?_ ?_
    · exact (.refl _)
    exact ⟨_, ⟨rfl, ⟨(by assumption), rfl⟩⟩⟩
theorem ContainsFuncT_call (l : List Tok) (hx : SlE E 3 tp tn (toks l)) (hn : tn ≤ 1000000) (k : Nat) (bl : Nat) (hm : CKB bl st rc at' part tp tn tc e ea b sp sn sc gk gp gn gc sep np nn nc start pp pn pc ∈ L) :
    CallV Tryz.prog 62 #[.slice tp tn k, .func (.func 63) #[] #[.pointer (some ⟨bl, 0, none⟩)]] E L (.bool (l.any (fun t => decide (t.sym = gn)))) := by
  refine CallS.toV (CallS.intro (l := [_, _]) _ Tryz.func62 rfl Tryz.ntmps62 rfl ?_)
  refine G_seq (G_region ?_)
  refine Ga ?_
  refine G_end (X_then (G_seq (G_region ?_)))
  refine Gm ?_
  refine Gm ?_
  refine G_call (k := 99) (.mk rfl rfl rfl rfl) rfl rfl (.none rfl) (IndexFuncT_call _ _ _ _ _ _ _ _ _ _ _ _ _ _ _ _ _ _ _ _ _ _ _ _ _ _ _ _ (by assumption) (by assumption) _ _ (by assumption)) ?_
  rintro r1 E2 L3 hE4 ⟨z5, ⟨rfl, ⟨Z6, rfl⟩⟩⟩
  replace hx := hx.mono hE4
  refine Gv (V_geq rfl rfl rfl) ?_
  refine Ga ?_
  refine G_end (X_then (G_ret ?_))
  refine G_leaveS (.nil _) (by exact (.cons (.tmp rfl) (.nil))) rfl ?_ ?_
  · exact hE4
  rw [show decide (0 ≤ z5) = _ from Bool.eq_iff_iff.2 (decide_eq_true_iff.trans Z6)]
  exact ⟨rfl, rfl⟩
theorem cseps_call (l : List Tok) (hx : SlE E 3 tp tn (toks l)) (hn : tn ≤ 1000000) : CallV Tryz.prog 32 #[ckV st rc at' part tp tn tc e ea b sp sn sc gk gp gn gc sep np nn nc start pp pn pc] E L (.int .i64 (if l.any (fun t => decide (t.sym = gn)) = true then 14 else 0)) := by
  refine CallS.toV (CallS.intro (l := [_]) _ Tryz.func32 rfl Tryz.ntmps32 rfl ?_)
  refine G_seq (G_region ?_)
  (refine G_boxA rfl rfl rfl rfl (.none rfl) ?_; intro b1)
  refine Ga ?_
  refine G_end (X_then (G_seq (G_seq (G_region ?_))))
  refine Gv (V_fieldAddr rfl rfl (by decide)) ?_
  refine Gv (V_fieldAddr rfl rfl (by decide)) ?_
  refine Gv (V_fieldAddr rfl rfl (by decide)) ?_
  refine Gv (V_load rfl rfl (Cell.own (.head _) rfl)) ?_
  refine Gv (V_makeFunc rfl rfl rfl) ?_
  refine G_callv (k := 62) (.mk rfl rfl rfl rfl) rfl rfl (.none rfl) (ContainsFuncT_call _ _ _ _ _ _ _ _ _ _ _ _ _ _ _ _ _ _ _ _ _ _ _ _ _ _ _ _ (by assumption) (by assumption) _ _ (by exact .head _)) ?_
  refine G_end (X_then ?_)
  refine G_cond rfl (fun H1 => ?_) (fun H1 => ?_)
  · refine G_seq ?_
    refine G_region ?_
    refine Ga ?_
    refine G_end (X_then (G_ret (X_then_ret ?_)))
    refine G_leaveS (.drop _ (.nil _)) (by exact (.cons (.tmp rfl) (.nil))) rfl ?_ ?_
    · exact (.refl _)
    exact ⟨(by (simp (discharger := omega) only [resVal, if_pos, if_neg]; first | done | rfl)), (by rfl)⟩
  refine G_skip (X_then (G_seq (G_region ?_)))
  refine Ga ?_
  refine G_end (X_then (G_ret ?_))
  refine G_leaveS (.drop _ (.nil _)) (by exact (.cons (.tmp rfl) (.nil))) rfl ?_ ?_
  · exact (.refl _)
  exact ⟨(by (simp [resVal, *]; done)), (by rfl)⟩
end
end Go.Proofs.YtimiokmgnclggaaGreat
set_option linter.unusedSimpArgs false
set_option linter.unusedVariables false
set_option maxHeartbeats 2000000
set_option maxRecDepth 20000
namespace Go.Proofs.YtimiokmgnclggaaGreat
open Go.RowKit
/-! Beginnings of frames of at most one byte. -/
def begE (s : List UInt8) (terms : Int) : Int := match s with
  | [] => 0
  | b :: _ => if 128 ≤ b.toNat then 26 else if terms < (b.toNat : Int) then 14 else 0
abbrev RB (r : Nat) (st lf sy : Int) (s : List UInt8) (a : Int) : Res := .blk r (.cells #[.int .i64 st, .int .i64 lf, .int .i64 sy, .string (S s), .int .i64 a] 149 (0, 0))
section
variable (E : Env) (L : List Res)
theorem take26_call (r : Nat) (b : Nat) (terms : Int) (h : 128 ≤ b) : CallV Tryz.prog 115 #[.pointer (some ⟨r, 0, none⟩), .int .u8 b, .int .i64 terms] E (RB r 0 0 0 [] 0 :: L) (.int .i64 26) := by
  refine CallS.toV (CallS.intro (l := [_, _, _]) _ Tryz.func115 rfl Tryz.ntmps115 rfl ?_)
  refine G_seq (G_region ?_)
  refine Ga ?_
  refine G_end (X_then (G_seq (G_seq (G_region ?_))))
  refine Gm ?_
  refine Gv (V_nilCheck rfl rfl) ?_
  refine Gv (V_fieldAddr rfl rfl (by decide)) ?_
  refine Gv (V_load rfl rfl (Cell.own (.head _) rfl)) ?_
  refine G_end (X_then (G_block (G_seq (G_region ?_))))
  refine Gv (V_eql rfl rfl rfl) ?_
  refine Ga ?_
  refine G_end (X_then ?_)
  refine G_cond_t rfl (by kernel_rfl) ?_
  refine G_seq (G_seq (G_region ?_))
  refine Gm ?_
  refine Gv (V_geq rfl rfl rfl) ?_
  refine G_end (X_then ?_)
  refine G_cond_t rfl (decide_eq_true (by omega)) ?_
  refine G_seq (G_region ?_)
  refine Ga ?_
  refine G_end (X_then (G_ret (X_then_ret (X_block_ret (X_then_ret ?_)))))
  refine G_leaveS (.keep _ (.nil _)) (by exact (.cons (.tmp rfl) (.nil))) rfl ?_ ?_
  · exact (.refl _)
  exact ⟨(by kernel_rfl), rfl⟩
theorem take14_call (r : Nat) (b : Nat) (terms : Int) (h : b < 128) (h2 : terms < (b : Int)) : CallV Tryz.prog 115 #[.pointer (some ⟨r, 0, none⟩), .int .u8 b, .int .i64 terms] E (RB r 0 0 0 [] 0 :: L) (.int .i64 14) := by
  refine CallS.toV (CallS.intro (l := [_, _, _]) _ Tryz.func115 rfl Tryz.ntmps115 rfl ?_)
  refine G_seq (G_region ?_)
  refine Ga ?_
  refine G_end (X_then (G_seq (G_seq (G_region ?_))))
  refine Gm ?_
  refine Gv (V_nilCheck rfl rfl) ?_
  refine Gv (V_fieldAddr rfl rfl (by decide)) ?_
  refine Gv (V_load rfl rfl (Cell.own (.head _) rfl)) ?_
  refine G_end (X_then (G_block (G_seq (G_region ?_))))
  refine Gv (V_eql rfl rfl rfl) ?_
  refine Ga ?_
  refine G_end (X_then ?_)
  refine G_cond_t rfl (by kernel_rfl) ?_
  refine G_seq (G_seq (G_region ?_))
  refine Gm ?_
  refine Gv (V_geq rfl rfl rfl) ?_
  refine G_end (X_then ?_)
  refine G_cond_f rfl (decide_eq_false (by omega)) ?_
  refine G_skip (X_then (G_seq (G_seq (G_region ?_))))
  refine Gm ?_
  refine Gv (V_conv_i64 rfl rfl (by omega) (by omega)) ?_
  refine Gm ?_
  refine Gv (V_gtr rfl rfl rfl) ?_
  refine G_end (X_then ?_)
  refine G_cond_t rfl (decide_eq_true (by omega)) ?_
  refine G_seq (G_region ?_)
  refine Ga ?_
  refine G_end (X_then (G_ret (X_then_ret (X_block_ret (X_then_ret ?_)))))
  refine G_leaveS (.keep _ (.nil _)) (by exact (.cons (.tmp rfl) (.nil))) rfl ?_ ?_
  · exact (.refl _)
  exact ⟨(by kernel_rfl), rfl⟩
theorem take0_call (r : Nat) (b : Nat) (terms : Int) (h : b < 128) (h2 : (b : Int) ≤ terms) : CallS Tryz.prog 115 #[.pointer (some ⟨r, 0, none⟩), .int .u8 b, .int .i64 terms] E (RB r 0 0 0 [] 0 :: L)
    (fun v E' L' => v = .int .i64 0 ∧ E = E' ∧ L' = RB r 1 0 b [] 0 :: L) := by
  refine CallS.intro (l := [_, _, _]) _ Tryz.func115 rfl Tryz.ntmps115 rfl ?_
  refine G_seq (G_region ?_)
  refine Ga ?_
  refine G_end (X_then (G_seq (G_seq (G_region ?_))))
  refine Gm ?_
  refine Gv (V_nilCheck rfl rfl) ?_
  refine Gv (V_fieldAddr rfl rfl (by decide)) ?_
  refine Gv (V_load rfl rfl (Cell.own (.head _) rfl)) ?_
  refine G_end (X_then (G_block (G_seq (G_region ?_))))
  refine Gv (V_eql rfl rfl rfl) ?_
  refine Ga ?_
  refine G_end (X_then ?_)
  refine G_cond_t rfl (by kernel_rfl) ?_
  refine G_seq (G_seq (G_region ?_))
  refine Gm ?_
  refine Gv (V_geq rfl rfl rfl) ?_
  refine G_end (X_then ?_)
  refine G_cond_f rfl (decide_eq_false (by omega)) ?_
  refine G_skip (X_then (G_seq (G_seq (G_region ?_))))
  refine Gm ?_
  refine Gv (V_conv_i64 rfl rfl (by omega) (by omega)) ?_
  refine Gm ?_
  refine Gv (V_gtr rfl rfl rfl) ?_
  refine G_end (X_then ?_)
  refine G_cond_f rfl (decide_eq_false (by omega)) ?_
  refine G_skip (X_then (G_region ?_))
  refine Gm ?_
  refine Gm ?_
  refine Gm ?_
  refine Gv (V_conv_i64 rfl rfl (by omega) (by omega)) ?_
  refine Gv (V_nilCheck rfl rfl) ?_
  refine Gv (V_fieldAddr rfl rfl (by decide)) ?_
  refine Gv (V_fieldAddr rfl rfl (by decide)) ?_
  refine G_storeAt rfl rfl rfl rfl rfl rfl (.none rfl) (.head _ _ _) (Nat.le_of_ble_eq_true rfl) (by simp only [putAll, Nat.zero_add, Nat.reduceAdd, List.setIfInBounds_toArray, List.set_cons_succ, List.set_cons_zero]; rfl) ?_
  refine Gv (V_nilCheck rfl rfl) ?_
  refine Gv (V_fieldAddr rfl rfl (by decide)) ?_
  refine G_storeAt rfl rfl rfl rfl rfl rfl (.none rfl) (.head _ _ _) (Nat.le_of_ble_eq_true rfl) (by simp only [putAll, Nat.zero_add, Nat.reduceAdd, List.setIfInBounds_toArray, List.set_cons_succ, List.set_cons_zero]; rfl) ?_
  refine G_end (X_block (X_then (G_seq (G_seq (G_region ?_)))))
  refine Gm ?_
  refine Gv (V_nilCheck rfl rfl) ?_
  refine Gv (V_fieldAddr rfl rfl (by decide)) ?_
  refine Gv (V_load rfl rfl (Cell.own (.head _) rfl)) ?_
  refine Gv (V_eql rfl rfl rfl) ?_
  refine Gm ?_
  refine G.bool_f 68 rfl (by kernel_rfl) ?_
  refine Gn ?_
  refine Gn ?_
  refine Gn ?_
  refine Gn ?_
  refine Gn ?_
  refine Gv (V_pick_f rfl rfl rfl) ?_
  refine G_end (X_then ?_)
  refine G_cond_f rfl rfl ?_
  refine G_skip (X_then (G_seq (G_region ?_)))
  refine Ga ?_
  refine G_end (X_then (G_ret ?_))
  refine G_leaveS (.keep _ (.nil _)) (by exact (.cons (.tmp rfl) (.nil))) rfl ?_ ?_
  · exact (.refl _)
  exact ⟨(by kernel_rfl), ⟨rfl, rfl⟩⟩
theorem Begins_call (s : List UInt8) (terms : Int) (hs : s.length ≤ 1) (h1 : 1 ≤ terms) (h2 : terms ≤ 8) : CallV Tryz.prog 64 #[.string (S s), .int .i64 terms] E L (.tuple #[.bool (decide (begE s terms = 0)), .int .i64 (begE s terms)]) := by
  have hr : ∀ L0, CallS Tryz.prog 101 #[.string (S s), .int .i64 terms] E L0 (fun v E' L' => ∃ r st lf sy n, v = .tuple #[.pointer (some ⟨r, 0, none⟩), .int .i64 n, .int .i64 (begE s terms)] ∧ st ≠ 3 ∧ E = E' ∧ L' = RB r st lf sy [] 0 :: L0) := by
    intro L0
    match s, hs with
    | [], _ =>
      refine CallS.intro (l := [_, _]) _ Tryz.func101 rfl Tryz.ntmps101 rfl ?_
      refine G_seq (G_region ?_)
      refine Ga ?_
      refine Ga ?_
      refine Ga ?_
      refine G_end (X_then (G_seq (G_region ?_)))
      refine Gv (V_build rfl rfl (by simp [fillV, setLs, setL, Value.cells]; rfl)) ?_
      (refine G_boxA rfl rfl rfl rfl (.none rfl) ?_; intro b11)
      refine Ga ?_
      refine G_end (X_then (G_seq (G_seq (G_region ?_))))
      refine Gm ?_
      refine Gv (V_len rfl rfl) ?_
      refine Gm ?_
      refine G_end (X_then (G_block ?_))
      refine G_loop (α := Unit) (fun _ => [(7, .pointer (some ⟨b11, 0, none⟩)), (0, .string (S [])), (13, .int .i64 0), (14, .int .i64 0)]) (fun _ => E) (fun _ => RB b11 0 0 0 [] 0 :: L0) (fun _ => True) (fun _ => 0) () trivial ⟨rfl, rfl, rfl, rfl, trivial⟩ rfl rfl ?_
      rintro _ _
      refine G_seq (G_region ?_)
      refine Gv (V_lss rfl rfl rfl) ?_
      refine G_end (X_then (G_seq ?_))
      refine G_cond_f rfl (by kernel_rfl) ?_
      refine G_exit (X_then_exit (X_then_exit (X_block_hit (X_then (G_seq (G_region ?_))))))
      refine Gm ?_
      refine Gm ?_
      refine Gv (V_len rfl rfl) ?_
      refine Ga ?_
      refine Ga ?_
      refine Ga ?_
      refine G_end (X_then (G_ret ?_))
      refine G_leaveS (.keep _ (.nil _)) (by exact (.cons (.tmp rfl) (.cons (.tmp rfl) (.cons (.tmp rfl) (.nil))))) rfl ?_ ?_
      · exact (.refl _)
      exact ⟨_, ⟨_, ⟨_, ⟨_, ⟨_, ⟨rfl, ⟨(by omega), ⟨rfl, rfl⟩⟩⟩⟩⟩⟩⟩⟩
    | [b], _ =>
      have hg : [b][(0 : Int).toNat]? = some b := rfl
      have hb : b.toNat < 256 := b.toNat_lt
      simp only [begE]
      refine CallS.intro (l := [_, _]) _ Tryz.func101 rfl Tryz.ntmps101 rfl ?_
      refine G_seq (G_region ?_)
      refine Ga ?_
      refine Ga ?_
      refine Ga ?_
      refine G_end (X_then (G_seq (G_region ?_)))
      refine Gv (V_build rfl rfl (by simp [fillV, setLs, setL, Value.cells]; rfl)) ?_
      (refine G_boxA rfl rfl rfl rfl (.none rfl) ?_; intro b11)
      refine Ga ?_
      refine G_end (X_then (G_seq (G_seq (G_region ?_))))
      refine Gm ?_
      refine Gv (V_len rfl rfl) ?_
      refine Gm ?_
      refine G_end (X_then (G_block ?_))
      refine G_loop (α := Int × Int) (fun x => [(0, .string (S [b])), (1, .int .i64 terms), (7, .pointer (some ⟨b11, 0, none⟩)), (13, .int .i64 1), (14, .int .i64 x.1)]) (fun _ => E) (fun x => RB b11 x.1 0 x.2 [] 0 :: L0)
        (fun x => x = (0, 0) ∨ (x = (1, (b.toNat : Int)) ∧ ¬ 128 ≤ b.toNat ∧ ¬ terms < (b.toNat : Int))) (fun x => (1 - x.1).toNat) (0, 0) (.inl rfl) ⟨rfl, rfl, rfl, rfl, rfl, trivial⟩ rfl rfl ?_
      rintro _ (rfl | ⟨rfl, q1, q2⟩)
      · by_cases q1 : 128 ≤ b.toNat
        · simp only [if_pos q1]
          refine G_seq (G_region ?_)
          refine Gv (V_lss rfl rfl rfl) ?_
          refine G_end (X_then (G_seq ?_))
          refine G_cond_t rfl (by kernel_rfl) ?_
          refine G_skip (X_then (G_seq (G_block (G_seq (G_region ?_)))))
          refine Gm ?_
          refine Ga ?_
          refine G_end (X_then (G_seq (G_seq (G_region ?_))))
          refine Gm ?_
          refine Gm ?_
          refine Gm ?_
          refine Gv (V_sidx rfl rfl rfl (by omega) (by assumption)) ?_
          refine Gm ?_
          refine G_callv (k := 115) (.mk rfl rfl rfl rfl) rfl rfl (.none rfl) (take26_call _ _ _ _ _ (by assumption)) ?_
          refine Ga ?_
          refine G_end (X_then (G_seq (G_region ?_)))
          refine Gm ?_
          refine Gv (V_neq rfl rfl rfl) ?_
          refine G_end (X_then ?_)
          refine G_cond_t rfl (by kernel_rfl) ?_
          refine G_seq (G_region ?_)
          refine Gm ?_
          refine Gm ?_
          refine Gm ?_
          refine Ga ?_
          refine Ga ?_
          refine Ga ?_
          refine G_end (X_then (G_ret (X_then_ret (X_block_ret (X_then_ret (X_then_ret (X_block_ret (X_then_ret ?_))))))))
          refine G_leaveS (.keep _ (.nil _)) (by exact (.cons (.tmp rfl) (.cons (.tmp rfl) (.cons (.tmp rfl) (.nil))))) rfl ?_ ?_
          · exact (.refl _)
          exact ⟨_, ⟨_, ⟨_, ⟨_, ⟨_, ⟨rfl, ⟨(by omega), ⟨rfl, rfl⟩⟩⟩⟩⟩⟩⟩⟩
        by_cases q2 : terms < (b.toNat : Int)
        · simp only [if_neg q1, if_pos q2]
          refine G_seq (G_region ?_)
          refine Gv (V_lss rfl rfl rfl) ?_
          refine G_end (X_then (G_seq ?_))
          refine G_cond_t rfl (by kernel_rfl) ?_
          refine G_skip (X_then (G_seq (G_block (G_seq (G_region ?_)))))
          refine Gm ?_
          refine Ga ?_
          refine G_end (X_then (G_seq (G_seq (G_region ?_))))
          refine Gm ?_
          refine Gm ?_
          refine Gm ?_
          refine Gv (V_sidx rfl rfl rfl (by omega) (by assumption)) ?_
          refine Gm ?_
          refine G_callv (k := 115) (.mk rfl rfl rfl rfl) rfl rfl (.none rfl) (take14_call _ _ _ _ _ (by omega) (by assumption)) ?_
          refine Ga ?_
          refine G_end (X_then (G_seq (G_region ?_)))
          refine Gm ?_
          refine Gv (V_neq rfl rfl rfl) ?_
          refine G_end (X_then ?_)
          refine G_cond_t rfl (by kernel_rfl) ?_
          refine G_seq (G_region ?_)
          refine Gm ?_
          refine Gm ?_
          refine Gm ?_
          refine Ga ?_
          refine Ga ?_
          refine Ga ?_
          refine G_end (X_then (G_ret (X_then_ret (X_block_ret (X_then_ret (X_then_ret (X_block_ret (X_then_ret ?_))))))))
          refine G_leaveS (.keep _ (.nil _)) (by exact (.cons (.tmp rfl) (.cons (.tmp rfl) (.cons (.tmp rfl) (.nil))))) rfl ?_ ?_
          · exact (.refl _)
          exact ⟨_, ⟨_, ⟨_, ⟨_, ⟨_, ⟨rfl, ⟨(by omega), ⟨rfl, rfl⟩⟩⟩⟩⟩⟩⟩⟩
        refine G_seq (G_region ?_)
        refine Gv (V_lss rfl rfl rfl) ?_
        refine G_end (X_then (G_seq ?_))
        refine G_cond_t rfl (by kernel_rfl) ?_
        refine G_skip (X_then (G_seq (G_block (G_seq (G_region ?_)))))
        refine Gm ?_
        refine Ga ?_
        refine G_end (X_then (G_seq (G_seq (G_region ?_))))
        refine Gm ?_
        refine Gm ?_
        refine Gm ?_
        refine Gv (V_sidx rfl rfl rfl (by omega) (by assumption)) ?_
        refine Gm ?_
        refine G_call (k := 115) (.mk rfl rfl rfl rfl) rfl rfl (.none rfl) (take0_call _ _ _ _ _ (by omega) (by omega)) ?_
        rintro r1 E2 L3 hE4 ⟨rfl, ⟨rfl, rfl⟩⟩
        refine Ga ?_
        refine G_end (X_then (G_seq (G_region ?_)))
        refine Gm ?_
        refine Gv (V_neq rfl rfl rfl) ?_
        refine G_end (X_then ?_)
        refine G_cond_f rfl (by kernel_rfl) ?_
        refine G_skip (X_then (G_seq (G_region ?_)))
        refine Gm ?_
        refine Gv (V_nilCheck rfl rfl) ?_
        refine Gv (V_fieldAddr rfl rfl (by decide)) ?_
        refine Gv (V_load rfl rfl (Cell.own (.head _) rfl)) ?_
        refine Gv (V_eql rfl rfl rfl) ?_
        refine G_end (X_then ?_)
        refine G_cond_f rfl (by kernel_rfl) ?_
        refine G_skip (X_block (X_then (G_region ?_)))
        refine Gv (V_add_i64 rfl rfl rfl (by omega) (by omega)) ?_
        refine Gm ?_
        refine G_end (X_then ?_)
        exact G_again (1, (b.toNat : Int)) (.inr ⟨rfl, q1, q2⟩) (by simp only; omega) ⟨rfl, rfl, rfl, rfl, rfl, trivial⟩ rfl rfl
      · simp only [if_neg q1, if_neg q2]
        refine G_seq (G_region ?_)
        refine Gv (V_lss rfl rfl rfl) ?_
        refine G_end (X_then (G_seq ?_))
        refine G_cond_f rfl (by kernel_rfl) ?_
        refine G_exit (X_then_exit (X_then_exit (X_block_hit (X_then (G_seq (G_region ?_))))))
        refine Gm ?_
        refine Gm ?_
        refine Gv (V_len rfl rfl) ?_
        refine Ga ?_
        refine Ga ?_
        refine Ga ?_
        refine G_end (X_then (G_ret ?_))
        refine G_leaveS (.keep _ (.nil _)) (by exact (.cons (.tmp rfl) (.cons (.tmp rfl) (.cons (.tmp rfl) (.nil))))) rfl ?_ ?_
        · exact (.refl _)
        exact ⟨_, ⟨_, ⟨_, ⟨_, ⟨_, ⟨rfl, ⟨(by omega), ⟨rfl, rfl⟩⟩⟩⟩⟩⟩⟩⟩
  by_cases h0 : begE s terms = 0
  · simp only [h0] at hr ⊢
    refine CallS.toV (CallS.intro (l := [_, _]) _ Tryz.func64 rfl Tryz.ntmps64 rfl ?_)
    refine G_seq (G_region ?_)
    refine Ga ?_
    refine Ga ?_
    refine G_end (X_then (G_seq (G_seq (G_region ?_))))
    refine Gm ?_
    refine G_callv (k := 100) (.mk rfl rfl rfl rfl) rfl rfl (.none rfl) (ranged_call _ _ _) ?_
    refine Gv (V_not rfl rfl) ?_
    refine G_end (X_then ?_)
    refine G_cond_f rfl (by simp [*]; done) ?_
    refine G_skip (X_then (G_seq (G_region ?_)))
    refine Gm ?_
    refine Gm ?_
    refine G_call (k := 101) (.mk rfl rfl rfl rfl) rfl rfl (.none rfl) (hr _) ?_
    rintro v E1 L1 hE1 ⟨r, st, lf, sy, n, rfl, hst, rfl, rfl⟩
    refine Gm ?_
    refine Gv (V_extract rfl rfl rfl) ?_
    refine Gv (V_extract rfl rfl rfl) ?_
    refine Gv (V_extract rfl rfl rfl) ?_
    refine Ga ?_
    refine Ga ?_
    refine Ga ?_
    refine G_end (X_then (G_seq (G_region ?_)))
    refine Gm ?_
    refine Gv (V_eql rfl rfl rfl) ?_
    refine Gm ?_
    refine G.bool_t 21 rfl (by kernel_rfl) ?_
    refine Gy (V_move rfl rfl) ?_
    refine Gy (V_nilCheck rfl rfl) ?_
    refine Gy (V_fieldAddr rfl rfl (by decide)) ?_
    refine Gy (V_load rfl rfl (Cell.own (.head _) rfl)) ?_
    refine Gy (V_neq rfl rfl rfl) ?_
    refine Gv (V_pick_t rfl rfl rfl) ?_
    refine Gm ?_
    refine Ga ?_
    refine Ga ?_
    refine G_end (X_then (G_ret ?_))
    refine G_leaveS (.drop _ (.nil _)) (by exact (.cons (.tmp rfl) (.cons (.tmp rfl) (.nil)))) rfl ?_ ?_
    · exact (.refl _)
    exact ⟨(by (simp [resVal, *]; done)), (by rfl)⟩
  · generalize begE s terms = x at *
    refine CallS.toV (CallS.intro (l := [_, _]) _ Tryz.func64 rfl Tryz.ntmps64 rfl ?_)
    refine G_seq (G_region ?_)
    refine Ga ?_
    refine Ga ?_
    refine G_end (X_then (G_seq (G_seq (G_region ?_))))
    refine Gm ?_
    refine G_callv (k := 100) (.mk rfl rfl rfl rfl) rfl rfl (.none rfl) (ranged_call _ _ _) ?_
    refine Gv (V_not rfl rfl) ?_
    refine G_end (X_then ?_)
    refine G_cond_f rfl (by simp [*]; done) ?_
    refine G_skip (X_then (G_seq (G_region ?_)))
    refine Gm ?_
    refine Gm ?_
    refine G_call (k := 101) (.mk rfl rfl rfl rfl) rfl rfl (.none rfl) (hr _) ?_
    rintro v E1 L1 hE1 ⟨r, st, lf, sy, n, rfl, hst, rfl, rfl⟩
    refine Gm ?_
    refine Gv (V_extract rfl rfl rfl) ?_
    refine Gv (V_extract rfl rfl rfl) ?_
    refine Gv (V_extract rfl rfl rfl) ?_
    refine Ga ?_
    refine Ga ?_
    refine Ga ?_
    refine G_end (X_then (G_seq (G_region ?_)))
    refine Gm ?_
    refine Gv (V_eql rfl rfl rfl) ?_
    refine Gm ?_
    refine G.bool_f 21 rfl (decide_eq_false (by omega)) ?_
    refine Gn ?_
    refine Gn ?_
    refine Gn ?_
    refine Gn ?_
    refine Gn ?_
    refine Gv (V_pick_f rfl rfl rfl) ?_
    refine Gm ?_
    refine Ga ?_
    refine Ga ?_
    refine G_end (X_then (G_ret ?_))
    refine G_leaveS (.drop _ (.nil _)) (by exact (.cons (.tmp rfl) (.cons (.tmp rfl) (.nil)))) rfl ?_ ?_
    · exact (.refl _)
    exact ⟨(by (simp [resVal, *]; done)), (by rfl)⟩
end
end Go.Proofs.YtimiokmgnclggaaGreat
set_option linter.unusedSimpArgs false
set_option linter.unusedVariables false
set_option maxHeartbeats 2000000
set_option maxRecDepth 20000
namespace Go.Proofs.YtimiokmgnclggaaGreat
open Go.RowKit
/-! The checks of a configuration: ring, part, offsets, form. -/
/-- Each frame begins where the one before ends. -/
def contB (l : List Tok) : Bool := (List.range l.length).all fun i => decide (i = 0) || decide ((l.getD i ⟨0, [], 0⟩).at' = tbeh (l.getD (i - 1) ⟨0, [], 0⟩))
theorem contB_at {l : List Tok} (h : contB l = true) {i : Nat} (h0 : 0 < i) (hi : i < l.length) : l[i].at' = tbeh l[i - 1] := by
  have := List.all_eq_true.1 h i (List.mem_range.2 hi)
  simp only [Bool.or_eq_true, decide_eq_true_eq] at this
  rcases this with h1 | h1
  · omega
  · rwa [getD_at _ hi, getD_at _ (by omega)] at h1
theorem contB_of {l : List Tok} (h : ∀ i, 0 < i → (hi : i < l.length) → l[i].at' = tbeh l[i - 1]) : contB l = true := by
  refine List.all_eq_true.2 fun i hi => ?_
  have hi := List.mem_range.1 hi
  simp only [Bool.or_eq_true, decide_eq_true_eq]
  by_cases h0 : i = 0
  · exact .inl h0
  · refine .inr ?_
    rw [getD_at _ hi, getD_at _ (by omega)]
    exact h i (by omega) hi
theorem contB_no {l : List Tok} {i : Nat} (h0 : 0 < i) (hi : i < l.length) (h : l[i].at' ≠ tbeh l[i - 1]) : contB l = false := by
  cases e : contB l with
  | false => rfl
  | true => exact absurd (contB_at e h0 hi) h
/-- The error of the offsets (not in the state Bad). -/
def placM (at' : Int) (pn : Nat) (l : List Tok) (e ea : Int) : Int :=
  if contB l = false then 9
  else if e = 0 then (if at' - pn < 0 ∨ (0 < l.length ∧ tend l ≠ at' - pn) then 9 else 0)
  else if e = 1 then (if at' < ea + 2 ∨ ea + 26 < at' ∨ ea < 0 ∨ (0 < l.length ∧ tend l ≠ ea) then 9 else 0)
  else (if at' ≠ ea ∨ ea < 0 ∨ (0 < l.length ∧ tend l ≠ ea) then 9 else 0)
/-- The error of state, stack and ring together, in the states Between and Inside. -/
def formM (st : Int) (b : Bool) (tn sn : Nat) (e : Int) : Int :=
  if st = 1 then (if b = true ∨ 0 < sn then 10 else 0)
  else (if b = true then 0 else if 0 < sn then 10 else if 0 < tn ∨ e = 1 then 0 else 10)
def partM (s : List UInt8) (terms e : Int) : Int := if begE s terms ≠ 0 then begE s terms else if s ≠ [] ∧ e ≠ 0 then 3 else 0
section
variable (E : Env) (L : List Res) (st rc at' : Int) (part : List UInt8) (tp : Option Addr) (tn tc : Nat) (e ea : Int) (b : Bool) (sp : Option Addr) (sn sc : Nat) (gk : Int) (gp : Option Addr) (gn gc : Nat) (sep : List UInt8) (np : Option Addr) (nn nc : Nat) (start : Int) (pp : Option Addr) (pn pc : Nat)
theorem waitOk_call (l : List Tok) (hl : SlE E 3 tp tn (toks l)) (hg : gringB gk gn l e ea = true) : CallV Tryz.prog 31 #[ckV st rc at' part tp tn tc e ea b sp sn sc gk gp gn gc sep np nn nc start pp pn pc] E L (.int .i64 0) := by
  refine CallS.toV (CallS.intro (l := [_]) _ Tryz.func31 rfl Tryz.ntmps31 rfl ?_)
  refine G_seq (G_region ?_)
  (refine G_boxA rfl rfl rfl rfl (.none rfl) ?_; intro b1)
  refine Ga ?_
  refine G_end (X_then (G_seq (G_region ?_)))
  refine Gv (V_fieldAddr rfl rfl (by decide)) ?_
  refine Gv (V_fieldAddr rfl rfl (by decide)) ?_
  refine Gv (V_load rfl rfl (Cell.own (.head _) rfl)) ?_
  refine Gv (V_fieldAddr rfl rfl (by decide)) ?_
  refine Gv (V_fieldAddr rfl rfl (by decide)) ?_
  refine Gv (V_load rfl rfl (Cell.own (.head _) rfl)) ?_
  refine Gv (V_lenS rfl rfl) ?_
  refine Gv (V_fieldAddr rfl rfl (by decide)) ?_
  refine Gv (V_fieldAddr rfl rfl (by decide)) ?_
  refine Gv (V_loadF rfl rfl (.head _) (by simp only [Nat.zero_add, List.drop_succ_cons, List.drop_zero, List.take_succ_cons, List.take_zero]; rfl) (by rfl)) ?_
  refine G_callv (k := 54) (.mk rfl rfl rfl rfl) rfl rfl (.none rfl) (Check_call _ _ _ _ _ _ _ _ (by assumption) _ _ (by assumption)) ?_
  refine Ga ?_
  refine G_end (X_then (G_ret ?_))
  refine G_leaveS (.drop _ (.nil _)) (by exact (.cons (.tmp rfl) (.nil))) rfl ?_ ?_
  · exact (.refl _)
  exact ⟨(by kernel_rfl), rfl⟩
theorem cpart_call (hs : part.length ≤ 1) (h1 : 1 ≤ (gn : Int)) (h2 : (gn : Int) ≤ 8) (h3 : st = 1 ∨ st = 2) : CallV Tryz.prog 33 #[ckV st rc at' part tp tn tc e ea b sp sn sc gk gp gn gc sep np nn nc start pp pn pc] E L (.int .i64 (partM part gn e)) := by
  unfold partM
  by_cases h0 : begE part gn ≠ 0
  · rw [if_pos h0]
    have hb := fun L0 => Begins_call E L0 part gn hs h1 h2
    generalize begE part gn = x at *
    refine CallS.toV (CallS.intro (l := [_]) _ Tryz.func33 rfl Tryz.ntmps33 rfl ?_)
    refine G_seq (G_region ?_)
    (refine G_boxA rfl rfl rfl rfl (.none rfl) ?_; intro b1)
    refine Ga ?_
    refine G_end (X_then (G_seq (G_region ?_)))
    refine Gv (V_fieldAddr rfl rfl (by decide)) ?_
    refine Gv (V_fieldAddr rfl rfl (by decide)) ?_
    refine Gv (V_load rfl rfl (Cell.own (.head _) rfl)) ?_
    refine Gv (V_fieldAddr rfl rfl (by decide)) ?_
    refine Gv (V_fieldAddr rfl rfl (by decide)) ?_
    refine Gv (V_load rfl rfl (Cell.own (.head _) rfl)) ?_
    refine Gv (V_lenS rfl rfl) ?_
    refine G_callv (k := 64) (.mk rfl rfl rfl rfl) rfl rfl (.none rfl) (hb _) ?_
    refine Gm ?_
    refine Gv (V_extract rfl rfl rfl) ?_
    refine Gv (V_extract rfl rfl rfl) ?_
    refine Ga ?_
    refine Ga ?_
    refine G_end (X_then (G_seq (G_seq (G_region ?_))))
    refine Gm ?_
    refine Gv (V_neq rfl rfl rfl) ?_
    refine G_end (X_then ?_)
    refine G_cond_t rfl (decide_eq_true (by omega)) ?_
    refine G_seq (G_region ?_)
    refine Gm ?_
    refine Ga ?_
    refine G_end (X_then (G_ret (X_then_ret ?_)))
    refine G_leaveS (.drop _ (.nil _)) (by exact (.cons (.tmp rfl) (.nil))) rfl ?_ ?_
    · exact (.refl _)
    exact ⟨rfl, rfl⟩
  · rw [if_neg h0]
    have hb := fun L0 => Begins_call E L0 part gn hs h1 h2
    rw [show begE part gn = 0 by omega] at hb
    by_cases hp : part = []
    · subst hp
      rw [if_neg (by simp)]
      refine CallS.toV (CallS.intro (l := [_]) _ Tryz.func33 rfl Tryz.ntmps33 rfl ?_)
      refine G_seq (G_region ?_)
      (refine G_boxA rfl rfl rfl rfl (.none rfl) ?_; intro b1)
      refine Ga ?_
      refine G_end (X_then (G_seq (G_region ?_)))
      refine Gv (V_fieldAddr rfl rfl (by decide)) ?_
      refine Gv (V_fieldAddr rfl rfl (by decide)) ?_
      refine Gv (V_load rfl rfl (Cell.own (.head _) rfl)) ?_
      refine Gv (V_fieldAddr rfl rfl (by decide)) ?_
      refine Gv (V_fieldAddr rfl rfl (by decide)) ?_
      refine Gv (V_load rfl rfl (Cell.own (.head _) rfl)) ?_
      refine Gv (V_lenS rfl rfl) ?_
      refine G_callv (k := 64) (.mk rfl rfl rfl rfl) rfl rfl (.none rfl) (hb _) ?_
      refine Gm ?_
      refine Gv (V_extract rfl rfl rfl) ?_
      refine Gv (V_extract rfl rfl rfl) ?_
      refine Ga ?_
      refine Ga ?_
      refine G_end (X_then (G_seq (G_seq (G_region ?_))))
      refine Gm ?_
      refine Gv (V_neq rfl rfl rfl) ?_
      refine G_end (X_then ?_)
      refine G_cond_f rfl (by kernel_rfl) ?_
      refine G_skip (X_then (G_seq (G_seq (G_region ?_))))
      refine Gm ?_
      refine Gv (V_not rfl rfl) ?_
      refine Gm ?_
      refine G.bool_f 21 rfl (by kernel_rfl) ?_
      refine Gy (V_fieldAddr rfl rfl (by decide)) ?_
      refine Gy (V_fieldAddr rfl rfl (by decide)) ?_
      refine Gy (V_load rfl rfl (Cell.own (.head _) rfl)) ?_
      refine Gy (V_sneq rfl rfl rfl) ?_
      refine Gy (V_move rfl rfl) ?_
      refine G.bool_f 26 rfl (by kernel_rfl) ?_
      refine Gn ?_
      refine Gn ?_
      refine Gn ?_
      refine Gn ?_
      refine Gn ?_
      refine Gn ?_
      refine G_stay (.un rfl rfl rfl rfl) rfl rfl ?_
      refine G_stay (.un rfl rfl rfl rfl) rfl rfl ?_
      refine G_stay (.un rfl rfl rfl rfl) rfl rfl ?_
      refine G_stay (.un rfl rfl rfl rfl) rfl rfl ?_
      refine Gn ?_
      refine Gn ?_
      refine G_stay (.un rfl rfl rfl rfl) rfl rfl ?_
      refine G_stay (.un rfl rfl rfl rfl) rfl rfl ?_
      refine G_stay (.un rfl rfl rfl rfl) rfl rfl ?_
      refine G_stay (.un rfl rfl rfl rfl) rfl rfl ?_
      refine Gn ?_
      refine Gy (V_pick_f rfl rfl rfl) ?_
      refine Gv (V_pick_f rfl rfl rfl) ?_
      refine G_end (X_then ?_)
      refine G_cond_f rfl rfl ?_
      refine G_skip (X_then (G_seq (G_region ?_)))
      refine Ga ?_
      refine G_end (X_then (G_ret ?_))
      refine G_leaveS (.drop _ (.nil _)) (by exact (.cons (.tmp rfl) (.nil))) rfl ?_ ?_
      · exact (.refl _)
      exact ⟨(by kernel_rfl), rfl⟩
    · by_cases he : e ≠ 0
      · rw [if_pos ⟨hp, he⟩]
        refine CallS.toV (CallS.intro (l := [_]) _ Tryz.func33 rfl Tryz.ntmps33 rfl ?_)
        refine G_seq (G_region ?_)
        (refine G_boxA rfl rfl rfl rfl (.none rfl) ?_; intro b1)
        refine Ga ?_
        refine G_end (X_then (G_seq (G_region ?_)))
        refine Gv (V_fieldAddr rfl rfl (by decide)) ?_
        refine Gv (V_fieldAddr rfl rfl (by decide)) ?_
        refine Gv (V_load rfl rfl (Cell.own (.head _) rfl)) ?_
        refine Gv (V_fieldAddr rfl rfl (by decide)) ?_
        refine Gv (V_fieldAddr rfl rfl (by decide)) ?_
        refine Gv (V_load rfl rfl (Cell.own (.head _) rfl)) ?_
        refine Gv (V_lenS rfl rfl) ?_
        refine G_callv (k := 64) (.mk rfl rfl rfl rfl) rfl rfl (.none rfl) (hb _) ?_
        refine Gm ?_
        refine Gv (V_extract rfl rfl rfl) ?_
        refine Gv (V_extract rfl rfl rfl) ?_
        refine Ga ?_
        refine Ga ?_
        refine G_end (X_then (G_seq (G_seq (G_region ?_))))
        refine Gm ?_
        refine Gv (V_neq rfl rfl rfl) ?_
        refine G_end (X_then ?_)
        refine G_cond_f rfl (by kernel_rfl) ?_
        refine G_skip (X_then (G_seq (G_seq (G_region ?_))))
        refine Gm ?_
        refine Gv (V_not rfl rfl) ?_
        refine Gm ?_
        refine G.bool_f 21 rfl (by kernel_rfl) ?_
        refine Gy (V_fieldAddr rfl rfl (by decide)) ?_
        refine Gy (V_fieldAddr rfl rfl (by decide)) ?_
        refine Gy (V_load rfl rfl (Cell.own (.head _) rfl)) ?_
        refine Gy (V_sneq rfl rfl rfl) ?_
        refine Gy (V_move rfl rfl) ?_
        refine G.bool_t 26 rfl (decide_eq_true (by omega)) ?_
        refine Gy (V_fieldAddr rfl rfl (by decide)) ?_
        refine Gy (V_fieldAddr rfl rfl (by decide)) ?_
        refine Gy (V_fieldAddr rfl rfl (by decide)) ?_
        refine Gy (V_load rfl rfl (Cell.own (.head _) rfl)) ?_
        refine Gy (V_neq rfl rfl rfl) ?_
        refine Gy (V_move rfl rfl) ?_
        refine G.bool_t 32 rfl (decide_eq_true (by omega)) ?_
        refine Gn ?_
        refine Gn ?_
        refine Gn ?_
        refine Gn ?_
        refine Gy (V_pick_t rfl rfl rfl) ?_
        refine Gy (V_move rfl rfl) ?_
        refine Gn ?_
        refine Gn ?_
        refine Gn ?_
        refine Gn ?_
        refine Gy (V_pick_t rfl rfl rfl) ?_
        refine Gy (V_pick_t rfl rfl rfl) ?_
        refine Gv (V_pick_f rfl rfl rfl) ?_
        refine G_end (X_then ?_)
        refine G_cond_t rfl rfl ?_
        refine G_seq (G_region ?_)
        refine Ga ?_
        refine G_end (X_then (G_ret (X_then_ret ?_)))
        refine G_leaveS (.drop _ (.nil _)) (by exact (.cons (.tmp rfl) (.nil))) rfl ?_ ?_
        · exact (.refl _)
        exact ⟨(by kernel_rfl), rfl⟩
      · rw [if_neg (fun h => he h.2)]
        refine CallS.toV (CallS.intro (l := [_]) _ Tryz.func33 rfl Tryz.ntmps33 rfl ?_)
        refine G_seq (G_region ?_)
        (refine G_boxA rfl rfl rfl rfl (.none rfl) ?_; intro b1)
        refine Ga ?_
        refine G_end (X_then (G_seq (G_region ?_)))
        refine Gv (V_fieldAddr rfl rfl (by decide)) ?_
        refine Gv (V_fieldAddr rfl rfl (by decide)) ?_
        refine Gv (V_load rfl rfl (Cell.own (.head _) rfl)) ?_
        refine Gv (V_fieldAddr rfl rfl (by decide)) ?_
        refine Gv (V_fieldAddr rfl rfl (by decide)) ?_
        refine Gv (V_load rfl rfl (Cell.own (.head _) rfl)) ?_
        refine Gv (V_lenS rfl rfl) ?_
        refine G_callv (k := 64) (.mk rfl rfl rfl rfl) rfl rfl (.none rfl) (hb _) ?_
        refine Gm ?_
        refine Gv (V_extract rfl rfl rfl) ?_
        refine Gv (V_extract rfl rfl rfl) ?_
        refine Ga ?_
        refine Ga ?_
        refine G_end (X_then (G_seq (G_seq (G_region ?_))))
        refine Gm ?_
        refine Gv (V_neq rfl rfl rfl) ?_
        refine G_end (X_then ?_)
        refine G_cond_f rfl (by kernel_rfl) ?_
        refine G_skip (X_then (G_seq (G_seq (G_region ?_))))
        refine Gm ?_
        refine Gv (V_not rfl rfl) ?_
        refine Gm ?_
        refine G.bool_f 21 rfl (by kernel_rfl) ?_
        refine Gy (V_fieldAddr rfl rfl (by decide)) ?_
        refine Gy (V_fieldAddr rfl rfl (by decide)) ?_
        refine Gy (V_load rfl rfl (Cell.own (.head _) rfl)) ?_
        refine Gy (V_sneq rfl rfl rfl) ?_
        refine Gy (V_move rfl rfl) ?_
        refine G.bool_t 26 rfl (decide_eq_true (by omega)) ?_
        refine Gy (V_fieldAddr rfl rfl (by decide)) ?_
        refine Gy (V_fieldAddr rfl rfl (by decide)) ?_
        refine Gy (V_fieldAddr rfl rfl (by decide)) ?_
        refine Gy (V_load rfl rfl (Cell.own (.head _) rfl)) ?_
        refine Gy (V_neq rfl rfl rfl) ?_
        refine Gy (V_move rfl rfl) ?_
        refine G.bool_f 32 rfl (decide_eq_false (by omega)) ?_
        refine Gy (V_fieldAddr rfl rfl (by decide)) ?_
        refine Gy (V_fieldAddr rfl rfl (by decide)) ?_
        refine Gy (V_load rfl rfl (Cell.own (.head _) rfl)) ?_
        refine Gy (V_eql rfl rfl rfl) ?_
        refine Gy (V_pick_f rfl rfl rfl) ?_
        refine Gy (V_move rfl rfl) ?_
        refine G.bool_f 38 rfl (decide_eq_false (by omega)) ?_
        refine Gy (V_fieldAddr rfl rfl (by decide)) ?_
        refine Gy (V_fieldAddr rfl rfl (by decide)) ?_
        refine Gy (V_load rfl rfl (Cell.own (.head _) rfl)) ?_
        refine Gy (V_eql rfl rfl rfl) ?_
        refine Gy (V_pick_f rfl rfl rfl) ?_
        refine Gy (V_pick_t rfl rfl rfl) ?_
        refine Gv (V_pick_f rfl rfl rfl) ?_
        refine G_end (X_then ?_)
        refine G_cond_f rfl (decide_eq_false (by omega)) ?_
        refine G_skip (X_then (G_seq (G_region ?_)))
        refine Ga ?_
        refine G_end (X_then (G_ret ?_))
        refine G_leaveS (.drop _ (.nil _)) (by exact (.cons (.tmp rfl) (.nil))) rfl ?_ ?_
        · exact (.refl _)
        exact ⟨(by kernel_rfl), rfl⟩
theorem cform_call (h3 : st = 1 ∨ st = 2) : CallV Tryz.prog 36 #[ckV st rc at' part tp tn tc e ea b sp sn sc gk gp gn gc sep np nn nc start pp pn pc] E L (.int .i64 (formM st b tn sn e)) := by
  cases b with
  | true =>
    rcases h3 with rfl | rfl
    · refine CallS.toV (CallS.intro (l := [_]) _ Tryz.func36 rfl Tryz.ntmps36 rfl ?_)
      refine G_seq (G_region ?_)
      (refine G_boxA rfl rfl rfl rfl (.none rfl) ?_; intro b1)
      refine Ga ?_
      refine G_end (X_then (G_seq (G_region ?_)))
      refine Gv (V_fieldAddr rfl rfl (by decide)) ?_
      refine Gv (V_fieldAddr rfl rfl (by decide)) ?_
      refine Gv (V_load rfl rfl (Cell.own (.head _) rfl)) ?_
      refine Gv (V_not rfl rfl) ?_
      refine Gm ?_
      refine G.bool_f 10 rfl (by kernel_rfl) ?_
      refine Gn ?_
      refine Gn ?_
      refine Gn ?_
      refine Gn ?_
      refine Gn ?_
      refine Gv (V_pick_f rfl rfl rfl) ?_
      refine Ga ?_
      refine G_end (X_then (G_seq (G_region ?_)))
      refine Gv (V_fieldAddr rfl rfl (by decide)) ?_
      refine Gv (V_fieldAddr rfl rfl (by decide)) ?_
      refine Gv (V_load rfl rfl (Cell.own (.head _) rfl)) ?_
      refine Gm ?_
      refine Gn ?_
      refine Gn ?_
      refine Gn ?_
      refine Gn ?_
      refine Gn ?_
      refine Gn ?_
      refine Gv (V_pick_t rfl rfl rfl) ?_
      refine Gm ?_
      refine Gn ?_
      refine Gn ?_
      refine Gn ?_
      refine Gn ?_
      refine Gn ?_
      refine Gv (V_pick_t rfl rfl rfl) ?_
      refine Ga ?_
      refine G_end (X_then (G_seq (G_region ?_)))
      refine Gv (V_fieldAddr rfl rfl (by decide)) ?_
      refine Gv (V_fieldAddr rfl rfl (by decide)) ?_
      refine Gv (V_load rfl rfl (Cell.own (.head _) rfl)) ?_
      refine Gm ?_
      refine Gn ?_
      refine Gv (V_pick_t rfl rfl rfl) ?_
      refine Ga ?_
      refine G_end (X_then (G_seq (G_seq (G_region ?_))))
      refine Gv (V_fieldAddr rfl rfl (by decide)) ?_
      refine Gv (V_fieldAddr rfl rfl (by decide)) ?_
      refine Gv (V_load rfl rfl (Cell.own (.head _) rfl)) ?_
      refine G_end (X_then (G_block (G_seq (G_block (G_seq (G_block (G_seq (G_block (G_seq (G_block (G_seq ?_)))))))))))
      refine G_seq (G_seq (G_region ?_))
      refine Gv (V_eql rfl rfl rfl) ?_
      refine Ga ?_
      refine G_end (X_then ?_)
      refine G_cond_f rfl (by kernel_rfl) ?_
      refine G_skip (X_then (G_seq (G_seq (G_seq (G_region ?_)))))
      refine Gv (V_eql rfl rfl rfl) ?_
      refine Ga ?_
      refine G_end (X_then ?_)
      refine G_cond_t rfl (by kernel_rfl) ?_
      refine G_skip (X_then ?_)
      refine G_cond_t rfl (by kernel_rfl) ?_
      refine G_exit (X_then_exit (X_then_exit ?_))
      refine X_block_miss rfl ?_
      refine X_then_exit (X_block_hit (X_then (G_seq (G_region ?_))))
      refine Gm ?_
      refine Gm ?_
      refine Gy (V_move rfl rfl) ?_
      refine Gv (V_pick_t rfl rfl rfl) ?_
      refine Ga ?_
      refine G_end (X_then (G_exit ?_))
      refine X_block_miss rfl ?_
      refine X_then_exit ?_
      refine X_block_miss rfl ?_
      refine X_then_exit (X_block_hit (X_then (G_seq (G_seq (G_region ?_)))))
      refine Gm ?_
      refine Gv (V_not rfl rfl) ?_
      refine G_end (X_then ?_)
      refine G_cond_t rfl (by kernel_rfl) ?_
      refine G_seq (G_region ?_)
      refine Ga ?_
      refine G_end (X_then (G_ret (X_then_ret ?_)))
      refine G_leaveS (.drop _ (.nil _)) (by exact (.cons (.tmp rfl) (.nil))) rfl ?_ ?_
      · exact (.refl _)
      exact ⟨rfl, rfl⟩
    · refine CallS.toV (CallS.intro (l := [_]) _ Tryz.func36 rfl Tryz.ntmps36 rfl ?_)
      refine G_seq (G_region ?_)
      (refine G_boxA rfl rfl rfl rfl (.none rfl) ?_; intro b1)
      refine Ga ?_
      refine G_end (X_then (G_seq (G_region ?_)))
      refine Gv (V_fieldAddr rfl rfl (by decide)) ?_
      refine Gv (V_fieldAddr rfl rfl (by decide)) ?_
      refine Gv (V_load rfl rfl (Cell.own (.head _) rfl)) ?_
      refine Gv (V_not rfl rfl) ?_
      refine Gm ?_
      refine G.bool_f 10 rfl (by kernel_rfl) ?_
      refine Gn ?_
      refine Gn ?_
      refine Gn ?_
      refine Gn ?_
      refine Gn ?_
      refine Gv (V_pick_f rfl rfl rfl) ?_
      refine Ga ?_
      refine G_end (X_then (G_seq (G_region ?_)))
      refine Gv (V_fieldAddr rfl rfl (by decide)) ?_
      refine Gv (V_fieldAddr rfl rfl (by decide)) ?_
      refine Gv (V_load rfl rfl (Cell.own (.head _) rfl)) ?_
      refine Gm ?_
      refine Gn ?_
      refine Gn ?_
      refine Gn ?_
      refine Gn ?_
      refine Gn ?_
      refine Gn ?_
      refine Gv (V_pick_t rfl rfl rfl) ?_
      refine Gm ?_
      refine Gn ?_
      refine Gn ?_
      refine Gn ?_
      refine Gn ?_
      refine Gn ?_
      refine Gv (V_pick_t rfl rfl rfl) ?_
      refine Ga ?_
      refine G_end (X_then (G_seq (G_region ?_)))
      refine Gv (V_fieldAddr rfl rfl (by decide)) ?_
      refine Gv (V_fieldAddr rfl rfl (by decide)) ?_
      refine Gv (V_load rfl rfl (Cell.own (.head _) rfl)) ?_
      refine Gm ?_
      refine Gn ?_
      refine Gv (V_pick_t rfl rfl rfl) ?_
      refine Ga ?_
      refine G_end (X_then (G_seq (G_seq (G_region ?_))))
      refine Gv (V_fieldAddr rfl rfl (by decide)) ?_
      refine Gv (V_fieldAddr rfl rfl (by decide)) ?_
      refine Gv (V_load rfl rfl (Cell.own (.head _) rfl)) ?_
      refine G_end (X_then (G_block (G_seq (G_block (G_seq (G_block (G_seq (G_block (G_seq (G_block (G_seq ?_)))))))))))
      refine G_seq (G_seq (G_region ?_))
      refine Gv (V_eql rfl rfl rfl) ?_
      refine Ga ?_
      refine G_end (X_then ?_)
      refine G_cond_f rfl (by kernel_rfl) ?_
      refine G_skip (X_then (G_seq (G_seq (G_seq (G_region ?_)))))
      refine Gv (V_eql rfl rfl rfl) ?_
      refine Ga ?_
      refine G_end (X_then ?_)
      refine G_cond_f rfl (by kernel_rfl) ?_
      refine G_region ?_
      refine Gv (V_eql rfl rfl rfl) ?_
      refine Ga ?_
      refine G_end (X_then ?_)
      refine G_cond_f rfl (by kernel_rfl) ?_
      refine G_skip (X_then (G_seq (G_seq (G_seq (G_region ?_)))))
      refine Gv (V_eql rfl rfl rfl) ?_
      refine Ga ?_
      refine G_end (X_then ?_)
      refine G_cond_t rfl (by kernel_rfl) ?_
      refine G_skip (X_then ?_)
      refine G_cond_t rfl (by kernel_rfl) ?_
      refine G_exit (X_then_exit (X_then_exit ?_))
      refine X_block_miss rfl ?_
      refine X_then_exit ?_
      refine X_block_miss rfl ?_
      refine X_then_exit (X_block_hit (X_then (G_seq (G_region ?_))))
      refine Gm ?_
      refine Gm ?_
      refine Gy (V_move rfl rfl) ?_
      refine Gv (V_pick_t rfl rfl rfl) ?_
      refine Ga ?_
      refine G_end (X_then (G_exit ?_))
      refine X_block_miss rfl ?_
      refine X_then_exit (X_block_hit (X_then (G_seq (G_seq (G_region ?_)))))
      refine Gm ?_
      refine Gv (V_not rfl rfl) ?_
      refine G_end (X_then ?_)
      refine G_cond_f rfl (by kernel_rfl) ?_
      refine G_skip (X_then (G_seq (G_region ?_)))
      refine Ga ?_
      refine G_end (X_then (G_ret ?_))
      refine G_leaveS (.drop _ (.nil _)) (by exact (.cons (.tmp rfl) (.nil))) rfl ?_ ?_
      · exact (.refl _)
      exact ⟨rfl, rfl⟩
  | false =>
    rcases h3 with rfl | rfl
    · refine CallS.toV (CallS.intro (l := [_]) _ Tryz.func36 rfl Tryz.ntmps36 rfl ?_)
      refine G_seq (G_region ?_)
      (refine G_boxA rfl rfl rfl rfl (.none rfl) ?_; intro b1)
      refine Ga ?_
      refine G_end (X_then (G_seq (G_region ?_)))
      refine Gv (V_fieldAddr rfl rfl (by decide)) ?_
      refine Gv (V_fieldAddr rfl rfl (by decide)) ?_
      refine Gv (V_load rfl rfl (Cell.own (.head _) rfl)) ?_
      refine Gv (V_not rfl rfl) ?_
      refine Gm ?_
      refine G.bool_t 10 rfl (by kernel_rfl) ?_
      refine Gy (V_fieldAddr rfl rfl (by decide)) ?_
      refine Gy (V_fieldAddr rfl rfl (by decide)) ?_
      refine Gy (V_load rfl rfl (Cell.own (.head _) rfl)) ?_
      refine Gy (V_lenS rfl rfl) ?_
      refine Gy (V_eql rfl rfl rfl) ?_
      refine Gv (V_pick_t rfl rfl rfl) ?_
      refine Ga ?_
      refine G_end (X_then (G_seq (G_region ?_)))
      refine Gv (V_fieldAddr rfl rfl (by decide)) ?_
      refine Gv (V_fieldAddr rfl rfl (by decide)) ?_
      refine Gv (V_load rfl rfl (Cell.own (.head _) rfl)) ?_
      refine Gm ?_
      refine Gy (V_fieldAddr rfl rfl (by decide)) ?_
      refine Gy (V_fieldAddr rfl rfl (by decide)) ?_
      refine Gy (V_fieldAddr rfl rfl (by decide)) ?_
      refine Gy (V_load rfl rfl (Cell.own (.head _) rfl)) ?_
      refine Gy (V_lenS rfl rfl) ?_
      refine Gy (V_gtr rfl rfl rfl) ?_
      refine Gv (V_pick_f rfl rfl rfl) ?_
      refine Gm ?_
      apply G_joinOr 6 28 34 rfl
      · intro H1
        dsimp only [List.take]
        simp only [Bool.and_eq_true, Bool.or_eq_true, Bool.not_eq_true', Bool.not_eq_false', Bool.and_eq_false_iff, Bool.or_eq_false_iff, Bool.not_not, decide_eq_true_eq, decide_eq_false_iff_not, ne_eq, Decidable.not_not, Bool.decide_eq_true] at H1
        refine Gn ?_
        refine Gn ?_
        refine Gn ?_
        refine Gn ?_
        refine Gn ?_
        refine Gv (V_pick_t rfl rfl rfl) ?_
        refine G_end ?_
        exact JQ_end 6 rfl rfl (by kernel_rfl)
      · intro H2
        dsimp only [List.take]
        simp only [Bool.and_eq_true, Bool.or_eq_true, Bool.not_eq_true', Bool.not_eq_false', Bool.and_eq_false_iff, Bool.or_eq_false_iff, Bool.not_not, decide_eq_true_eq, decide_eq_false_iff_not, ne_eq, Decidable.not_not, Bool.decide_eq_true] at H2
        refine Gy (V_fieldAddr rfl rfl (by decide)) ?_
        refine Gy (V_fieldAddr rfl rfl (by decide)) ?_
        refine Gy (V_fieldAddr rfl rfl (by decide)) ?_
        refine Gy (V_load rfl rfl (Cell.own (.head _) rfl)) ?_
        refine Gy (V_eql rfl rfl rfl) ?_
        refine Gv (V_pick_f rfl rfl rfl) ?_
        refine G_end ?_
        exact JQ_end 6 rfl rfl (by kernel_rfl)
      dsimp only [List.drop]
      refine Ga ?_
      refine G_end (X_then (G_seq (G_region ?_)))
      refine Gv (V_fieldAddr rfl rfl (by decide)) ?_
      refine Gv (V_fieldAddr rfl rfl (by decide)) ?_
      refine Gv (V_load rfl rfl (Cell.own (.head _) rfl)) ?_
      refine Gm ?_
      refine Gy (V_move rfl rfl) ?_
      refine Gv (V_pick_f rfl rfl rfl) ?_
      refine Ga ?_
      refine G_end (X_then (G_seq (G_seq (G_region ?_))))
      refine Gv (V_fieldAddr rfl rfl (by decide)) ?_
      refine Gv (V_fieldAddr rfl rfl (by decide)) ?_
      refine Gv (V_load rfl rfl (Cell.own (.head _) rfl)) ?_
      refine G_end (X_then (G_block (G_seq (G_block (G_seq (G_block (G_seq (G_block (G_seq (G_block (G_seq ?_)))))))))))
      refine G_seq (G_seq (G_region ?_))
      refine Gv (V_eql rfl rfl rfl) ?_
      refine Ga ?_
      refine G_end (X_then ?_)
      refine G_cond_f rfl (by kernel_rfl) ?_
      refine G_skip (X_then (G_seq (G_seq (G_seq (G_region ?_)))))
      refine Gv (V_eql rfl rfl rfl) ?_
      refine Ga ?_
      refine G_end (X_then ?_)
      refine G_cond_t rfl (by kernel_rfl) ?_
      refine G_skip (X_then ?_)
      refine G_cond_t rfl (by kernel_rfl) ?_
      refine G_exit (X_then_exit (X_then_exit ?_))
      refine X_block_miss rfl ?_
      refine X_then_exit (X_block_hit (X_then (G_seq (G_region ?_))))
      refine Gm ?_
      refine Gm ?_
      apply G_joinAnd 2 71 73 rfl
      · intro H3
        dsimp only [List.take]
        simp only [Bool.and_eq_true, Bool.or_eq_true, Bool.not_eq_true', Bool.not_eq_false', Bool.and_eq_false_iff, Bool.or_eq_false_iff, Bool.not_not, decide_eq_true_eq, decide_eq_false_iff_not, ne_eq, Decidable.not_not, Bool.decide_eq_true] at H3
        refine Gy (V_move rfl rfl) ?_
        refine Gv (V_pick_t rfl rfl rfl) ?_
        refine G_end ?_
        exact JQ_end 2 rfl rfl (by kernel_rfl)
      · intro H4
        dsimp only [List.take]
        simp only [Bool.and_eq_true, Bool.or_eq_true, Bool.not_eq_true', Bool.not_eq_false', Bool.and_eq_false_iff, Bool.or_eq_false_iff, Bool.not_not, decide_eq_true_eq, decide_eq_false_iff_not, ne_eq, Decidable.not_not, Bool.decide_eq_true] at H4
        refine Gn ?_
        refine Gv (V_pick_f rfl rfl rfl) ?_
        refine G_end ?_
        exact JQ_end 2 rfl rfl (by kernel_rfl)
      dsimp only [List.drop]
      refine Ga ?_
      refine G_end (X_then (G_exit ?_))
      refine X_block_miss rfl ?_
      refine X_then_exit ?_
      refine X_block_miss rfl ?_
      refine X_then_exit (X_block_hit (X_then (G_seq (G_seq (G_region ?_)))))
      refine Gm ?_
      refine Gv (V_not rfl rfl) ?_
      refine G_end (X_then ?_)
      refine G_cond rfl (fun H5 => ?_) (fun H5 => ?_)
      · simp only [Bool.and_eq_true, Bool.or_eq_true, Bool.not_eq_true', Bool.not_eq_false', Bool.and_eq_false_iff, Bool.or_eq_false_iff, Bool.not_not, decide_eq_true_eq, decide_eq_false_iff_not, ne_eq, Decidable.not_not, Bool.decide_eq_true] at H5
        refine G_seq (G_region ?_)
        refine Ga ?_
        refine G_end (X_then (G_ret (X_then_ret ?_)))
        refine G_leaveS (.drop _ (.nil _)) (by exact (.cons (.tmp rfl) (.nil))) rfl ?_ ?_
        · exact (.refl _)
        exact ⟨(by (simp (discharger := omega) only [resVal, formM, if_pos, if_neg]; first | done | rfl)), (by rfl)⟩
      simp only [Bool.and_eq_true, Bool.or_eq_true, Bool.not_eq_true', Bool.not_eq_false', Bool.and_eq_false_iff, Bool.or_eq_false_iff, Bool.not_not, decide_eq_true_eq, decide_eq_false_iff_not, ne_eq, Decidable.not_not, Bool.decide_eq_true] at H5
      refine G_skip (X_then (G_seq (G_region ?_)))
      refine Ga ?_
      refine G_end (X_then (G_ret ?_))
      refine G_leaveS (.drop _ (.nil _)) (by exact (.cons (.tmp rfl) (.nil))) rfl ?_ ?_
      · exact (.refl _)
      exact ⟨(by ((try simp only [resVal, formM]); (repeat' split) <;> first | rfl | (exfalso; omega) | (simp_all; done) | (simp_all; omega))), (by rfl)⟩
    · refine CallS.toV (CallS.intro (l := [_]) _ Tryz.func36 rfl Tryz.ntmps36 rfl ?_)
      refine G_seq (G_region ?_)
      (refine G_boxA rfl rfl rfl rfl (.none rfl) ?_; intro b1)
      refine Ga ?_
      refine G_end (X_then (G_seq (G_region ?_)))
      refine Gv (V_fieldAddr rfl rfl (by decide)) ?_
      refine Gv (V_fieldAddr rfl rfl (by decide)) ?_
      refine Gv (V_load rfl rfl (Cell.own (.head _) rfl)) ?_
      refine Gv (V_not rfl rfl) ?_
      refine Gm ?_
      refine G.bool_t 10 rfl (by kernel_rfl) ?_
      refine Gy (V_fieldAddr rfl rfl (by decide)) ?_
      refine Gy (V_fieldAddr rfl rfl (by decide)) ?_
      refine Gy (V_load rfl rfl (Cell.own (.head _) rfl)) ?_
      refine Gy (V_lenS rfl rfl) ?_
      refine Gy (V_eql rfl rfl rfl) ?_
      refine Gv (V_pick_t rfl rfl rfl) ?_
      refine Ga ?_
      refine G_end (X_then (G_seq (G_region ?_)))
      refine Gv (V_fieldAddr rfl rfl (by decide)) ?_
      refine Gv (V_fieldAddr rfl rfl (by decide)) ?_
      refine Gv (V_load rfl rfl (Cell.own (.head _) rfl)) ?_
      refine Gm ?_
      refine Gy (V_fieldAddr rfl rfl (by decide)) ?_
      refine Gy (V_fieldAddr rfl rfl (by decide)) ?_
      refine Gy (V_fieldAddr rfl rfl (by decide)) ?_
      refine Gy (V_load rfl rfl (Cell.own (.head _) rfl)) ?_
      refine Gy (V_lenS rfl rfl) ?_
      refine Gy (V_gtr rfl rfl rfl) ?_
      refine Gv (V_pick_f rfl rfl rfl) ?_
      refine Gm ?_
      apply G_joinOr 6 28 34 rfl
      · intro H1
        dsimp only [List.take]
        simp only [Bool.and_eq_true, Bool.or_eq_true, Bool.not_eq_true', Bool.not_eq_false', Bool.and_eq_false_iff, Bool.or_eq_false_iff, Bool.not_not, decide_eq_true_eq, decide_eq_false_iff_not, ne_eq, Decidable.not_not, Bool.decide_eq_true] at H1
        refine Gn ?_
        refine Gn ?_
        refine Gn ?_
        refine Gn ?_
        refine Gn ?_
        refine Gv (V_pick_t rfl rfl rfl) ?_
        refine G_end ?_
        exact JQ_end 6 rfl rfl (by kernel_rfl)
      · intro H2
        dsimp only [List.take]
        simp only [Bool.and_eq_true, Bool.or_eq_true, Bool.not_eq_true', Bool.not_eq_false', Bool.and_eq_false_iff, Bool.or_eq_false_iff, Bool.not_not, decide_eq_true_eq, decide_eq_false_iff_not, ne_eq, Decidable.not_not, Bool.decide_eq_true] at H2
        refine Gy (V_fieldAddr rfl rfl (by decide)) ?_
        refine Gy (V_fieldAddr rfl rfl (by decide)) ?_
        refine Gy (V_fieldAddr rfl rfl (by decide)) ?_
        refine Gy (V_load rfl rfl (Cell.own (.head _) rfl)) ?_
        refine Gy (V_eql rfl rfl rfl) ?_
        refine Gv (V_pick_f rfl rfl rfl) ?_
        refine G_end ?_
        exact JQ_end 6 rfl rfl (by kernel_rfl)
      dsimp only [List.drop]
      refine Ga ?_
      refine G_end (X_then (G_seq (G_region ?_)))
      refine Gv (V_fieldAddr rfl rfl (by decide)) ?_
      refine Gv (V_fieldAddr rfl rfl (by decide)) ?_
      refine Gv (V_load rfl rfl (Cell.own (.head _) rfl)) ?_
      refine Gm ?_
      refine Gy (V_move rfl rfl) ?_
      refine Gv (V_pick_f rfl rfl rfl) ?_
      refine Ga ?_
      refine G_end (X_then (G_seq (G_seq (G_region ?_))))
      refine Gv (V_fieldAddr rfl rfl (by decide)) ?_
      refine Gv (V_fieldAddr rfl rfl (by decide)) ?_
      refine Gv (V_load rfl rfl (Cell.own (.head _) rfl)) ?_
      refine G_end (X_then (G_block (G_seq (G_block (G_seq (G_block (G_seq (G_block (G_seq (G_block (G_seq ?_)))))))))))
      refine G_seq (G_seq (G_region ?_))
      refine Gv (V_eql rfl rfl rfl) ?_
      refine Ga ?_
      refine G_end (X_then ?_)
      refine G_cond_f rfl (by kernel_rfl) ?_
      refine G_skip (X_then (G_seq (G_seq (G_seq (G_region ?_)))))
      refine Gv (V_eql rfl rfl rfl) ?_
      refine Ga ?_
      refine G_end (X_then ?_)
      refine G_cond_f rfl (by kernel_rfl) ?_
      refine G_region ?_
      refine Gv (V_eql rfl rfl rfl) ?_
      refine Ga ?_
      refine G_end (X_then ?_)
      refine G_cond_f rfl (by kernel_rfl) ?_
      refine G_skip (X_then (G_seq (G_seq (G_seq (G_region ?_)))))
      refine Gv (V_eql rfl rfl rfl) ?_
      refine Ga ?_
      refine G_end (X_then ?_)
      refine G_cond_t rfl (by kernel_rfl) ?_
      refine G_skip (X_then ?_)
      refine G_cond_t rfl (by kernel_rfl) ?_
      refine G_exit (X_then_exit (X_then_exit ?_))
      refine X_block_miss rfl ?_
      refine X_then_exit ?_
      refine X_block_miss rfl ?_
      refine X_then_exit (X_block_hit (X_then (G_seq (G_region ?_))))
      refine Gm ?_
      refine Gm ?_
      apply G_joinAnd 2 75 77 rfl
      · intro H3
        dsimp only [List.take]
        simp only [Bool.and_eq_true, Bool.or_eq_true, Bool.not_eq_true', Bool.not_eq_false', Bool.and_eq_false_iff, Bool.or_eq_false_iff, Bool.not_not, decide_eq_true_eq, decide_eq_false_iff_not, ne_eq, Decidable.not_not, Bool.decide_eq_true] at H3
        refine Gy (V_move rfl rfl) ?_
        refine Gv (V_pick_t rfl rfl rfl) ?_
        refine G_end ?_
        exact JQ_end 2 rfl rfl (by kernel_rfl)
      · intro H4
        dsimp only [List.take]
        simp only [Bool.and_eq_true, Bool.or_eq_true, Bool.not_eq_true', Bool.not_eq_false', Bool.and_eq_false_iff, Bool.or_eq_false_iff, Bool.not_not, decide_eq_true_eq, decide_eq_false_iff_not, ne_eq, Decidable.not_not, Bool.decide_eq_true] at H4
        refine Gn ?_
        refine Gv (V_pick_f rfl rfl rfl) ?_
        refine G_end ?_
        exact JQ_end 2 rfl rfl (by kernel_rfl)
      dsimp only [List.drop]
      refine Ga ?_
      refine G_end (X_then (G_exit ?_))
      refine X_block_miss rfl ?_
      refine X_then_exit (X_block_hit (X_then (G_seq (G_seq (G_region ?_)))))
      refine Gm ?_
      refine Gv (V_not rfl rfl) ?_
      refine G_end (X_then ?_)
      refine G_cond rfl (fun H5 => ?_) (fun H5 => ?_)
      · simp only [Bool.and_eq_true, Bool.or_eq_true, Bool.not_eq_true', Bool.not_eq_false', Bool.and_eq_false_iff, Bool.or_eq_false_iff, Bool.not_not, decide_eq_true_eq, decide_eq_false_iff_not, ne_eq, Decidable.not_not, Bool.decide_eq_true] at H5
        refine G_seq (G_region ?_)
        refine Ga ?_
        refine G_end (X_then (G_ret (X_then_ret ?_)))
        refine G_leaveS (.drop _ (.nil _)) (by exact (.cons (.tmp rfl) (.nil))) rfl ?_ ?_
        · exact (.refl _)
        exact ⟨(by ((try simp only [resVal, formM]); (repeat' split) <;> first | rfl | (exfalso; omega) | (simp_all; done) | (simp_all; omega))), (by rfl)⟩
      simp only [Bool.and_eq_true, Bool.or_eq_true, Bool.not_eq_true', Bool.not_eq_false', Bool.and_eq_false_iff, Bool.or_eq_false_iff, Bool.not_not, decide_eq_true_eq, decide_eq_false_iff_not, ne_eq, Decidable.not_not, Bool.decide_eq_true] at H5
      refine G_skip (X_then (G_seq (G_region ?_)))
      refine Ga ?_
      refine G_end (X_then (G_ret ?_))
      refine G_leaveS (.drop _ (.nil _)) (by exact (.cons (.tmp rfl) (.nil))) rfl ?_ ?_
      · exact (.refl _)
      exact ⟨(by (simp (discharger := omega) only [resVal, formM, if_pos, if_neg]; first | done | rfl)), (by rfl)⟩
end
end Go.Proofs.YtimiokmgnclggaaGreat
