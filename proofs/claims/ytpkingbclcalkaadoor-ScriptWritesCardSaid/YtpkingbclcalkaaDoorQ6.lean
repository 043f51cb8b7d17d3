/-
  Rules and contracts, packed: J8.
-/
import Derived.Test.YtpkingbclcalkaaDoorQ5
set_option maxHeartbeats 1000000
set_option linter.unusedSimpArgs false
set_option linter.unusedVariables false
set_option maxHeartbeats 2000000
set_option maxRecDepth 20000
namespace Go.Proofs.YtpkingbclcalkaaDoor
open Go.RowKit
theorem num3_cases (s : List UInt8) : (numM s = (0, 3) ∧ num3 s = (0, false, false)) ∨ (numM s = (0, 2) ∧ num3 s = (999, true, true)) ∨ (∃ n : Nat, n ≤ 999 ∧ numM s = ((n : Int), 0) ∧ num3 s = ((n : Int), false, true)) := by
  by_cases h : s = [] ∨ (s.head? = some 48 ∧ 1 < s.length)
  · exact .inl ⟨numM_form h, num3_err (numM_form h)⟩
  · cases h2 : s.all isD with
    | false => exact .inl ⟨numM_bad h2, num3_err (numM_bad h2)⟩
    | true =>
      by_cases h3 : 999 < accM 0 s
      · exact .inr (.inl ⟨numM_great h h2 h3, num3_great (numM_great h h2 h3)⟩)
      · exact .inr (.inr ⟨accM 0 s, by omega, numM_ok h h2 h3, num3_ok (numM_ok h h2 h3)⟩)
section
variable (E : Env) (L : List Res)
theorem line_call (s : List UInt8) (hs : s.length ≤ 1000000) : CallS Tryd.prog 39 #[.string (S s)] E L (fun r E' L' => r = .tuple #[(lineM s).1.v, .int .i64 (lineM s).2] ∧ E = E' ∧ L' = L) := by
  refine CallS.intro (l := [_]) _ Tryd.func39 rfl Tryd.ntmps39 rfl ?_
  have hk := kindM_err (cutB 32 s).1
  have hcl := cutB_le 32 s
  by_cases he : (kindM (cutB 32 s).1).2 = 0
  · obtain ⟨k1, k5, hkn⟩ := kindM_ok he
    by_cases h13 : (kindM (cutB 32 s).1).1 ≠ 1 ∧ (kindM (cutB 32 s).1).1 ≠ 3
    · obtain ⟨h1, h3⟩ := h13
      cases hm : (cutB 32 s).2.2 with
      | true =>
        have e : lineM s = (⟨0, 0, []⟩, 3) := by rw [lineM, if_neg (by omega), if_pos ⟨h1, h3⟩, if_pos hm]; rfl
        rw [e]
        refine G_seq (G_region ?_)
        (refine G_alloc rfl rfl rfl (.none rfl) ?_; intro b2)
        refine G_val (V_assign rfl rfl) rfl rfl (.none rfl) ?_
        refine G_end (X_then (G_seq (G_region ?_)))
        refine G_val (V_move rfl rfl) rfl rfl (.none rfl) ?_
        refine G_callv (k := 51) (.mk rfl rfl rfl rfl) rfl rfl (.none rfl) (Cut1_call _ _ _ _ (by omega)) ?_
        refine G_val (V_move rfl rfl) rfl rfl (.none rfl) ?_
        refine G_val (V_extract rfl rfl rfl) rfl rfl (.none rfl) ?_
        refine G_val (V_extract rfl rfl rfl) rfl rfl (.none rfl) ?_
        refine G_val (V_extract rfl rfl rfl) rfl rfl (.none rfl) ?_
        refine G_val (V_assign rfl rfl) rfl rfl (.none rfl) ?_
        refine G_val (V_assign rfl rfl) rfl rfl (.none rfl) ?_
        refine G_val (V_assign rfl rfl) rfl rfl (.none rfl) ?_
        refine G_end (X_then (G_seq (G_region ?_)))
        refine G_val (V_move rfl rfl) rfl rfl (.none rfl) ?_
        refine G_callv (k := 18) (.mk rfl rfl rfl rfl) rfl rfl (.none rfl) (Kind_call _ _ _) ?_
        refine G_val (V_move rfl rfl) rfl rfl (.none rfl) ?_
        refine G_val (V_extract rfl rfl rfl) rfl rfl (.none rfl) ?_
        refine G_val (V_extract rfl rfl rfl) rfl rfl (.none rfl) ?_
        refine G_val (V_assign rfl rfl) rfl rfl (.none rfl) ?_
        refine G_val (V_assign rfl rfl) rfl rfl (.none rfl) ?_
        refine G_end (X_then (G_seq (G_region ?_)))
        refine G_val (V_move rfl rfl) rfl rfl (.none rfl) ?_
        refine G_val (V_build rfl rfl (by simp [fillV, setLs, setL, Value.cells]; rfl)) rfl rfl (.none rfl) ?_
        (refine G_alloc rfl rfl rfl (.none rfl) ?_; intro b9)
        refine G_storeA rfl rfl rfl rfl (by simp [Value.oneCell']) rfl (.none rfl) (.head _ _ _) rfl ?_
        refine G_end (X_then (G_seq (G_block (G_seq (G_region ?_)))))
        refine G_val (V_move rfl rfl) rfl rfl (.none rfl) ?_
        refine G_val (V_neq rfl rfl rfl) rfl rfl (.none rfl) ?_
        refine G_val (V_assign rfl rfl) rfl rfl (.none rfl) ?_
        refine G_end (X_then ?_)
        refine G_cond_f rfl (decide_eq_false (by omega)) ?_
        refine G_seq (G_region ?_)
        refine G_val (V_move rfl rfl) rfl rfl (.none rfl) ?_
        refine G_val (V_neq rfl rfl rfl) rfl rfl (.none rfl) ?_
        refine G_val (V_move rfl rfl) rfl rfl (.none rfl) ?_
        refine G.bool_t 36 rfl (decide_eq_true (by omega)) ?_
        refine G_val (V_move rfl rfl) rfl rfl (.yes rfl rfl rfl rfl) ?_
        refine G_val (V_neq rfl rfl rfl) rfl rfl (.yes rfl rfl rfl rfl) ?_
        refine G_val (V_pick_t rfl rfl rfl) rfl rfl (.none rfl) ?_
        refine G_val (V_move rfl rfl) rfl rfl (.none rfl) ?_
        refine G.bool_t 40 rfl (decide_eq_true (by omega)) ?_
        refine G_val (V_move rfl rfl) rfl rfl (.yes rfl rfl rfl rfl) ?_
        refine G_val (V_not rfl rfl) rfl rfl (.yes rfl rfl rfl rfl) ?_
        refine G_val (V_pick_t rfl rfl rfl) rfl rfl (.none rfl) ?_
        refine G_val (V_assign rfl rfl) rfl rfl (.none rfl) ?_
        refine G_end (X_then ?_)
        refine G_cond_f rfl (by simp [*]; done) ?_
        refine G_seq (G_region ?_)
        refine G_val (V_move rfl rfl) rfl rfl (.none rfl) ?_
        refine G_val (V_neq rfl rfl rfl) rfl rfl (.none rfl) ?_
        refine G_val (V_move rfl rfl) rfl rfl (.none rfl) ?_
        refine G.bool_t 48 rfl (decide_eq_true (by omega)) ?_
        refine G_val (V_move rfl rfl) rfl rfl (.yes rfl rfl rfl rfl) ?_
        refine G_val (V_neq rfl rfl rfl) rfl rfl (.yes rfl rfl rfl rfl) ?_
        refine G_val (V_pick_t rfl rfl rfl) rfl rfl (.none rfl) ?_
        refine G_val (V_move rfl rfl) rfl rfl (.none rfl) ?_
        refine G.bool_t 52 rfl (decide_eq_true (by omega)) ?_
        refine G_stay (.no rfl rfl rfl rfl) rfl rfl ?_
        refine G_stay (.no rfl rfl rfl rfl) rfl rfl ?_
        refine G_val (V_pick_t rfl rfl rfl) rfl rfl (.none rfl) ?_
        refine G_val (V_assign rfl rfl) rfl rfl (.none rfl) ?_
        refine G_end (X_then ?_)
        refine G_cond_t rfl rfl ?_
        refine G_seq (G_region ?_)
        refine G_val (V_build rfl rfl (by simp [fillV, setLs, setL, Value.cells]; rfl)) rfl rfl (.none rfl) ?_
        refine G_storeA rfl rfl rfl rfl (by simp [Value.oneCell']) rfl (.none rfl) (.tail _ (.head _ _ _)) rfl ?_
        refine G_val (V_assign rfl rfl) rfl rfl (.none rfl) ?_
        refine G_end (X_then (G_ret (X_block_ret (X_then_ret ?_))))
        refine G_leaveS (.drop _ (.drop _ (.nil _))) (by exact (.cons (.cellA rfl (Cells.own (.tail _ (.head _))) rfl) (.cons (.tmp rfl) (.nil)))) rfl ?_ ?_
        · exact (.refl _)
        exact ⟨(by kernel_rfl), ⟨rfl, rfl⟩⟩
      | false =>
        have e : lineM s = (⟨(kindM (cutB 32 s).1).1, 0, []⟩, 0) := by rw [lineM, if_neg (by omega), if_pos ⟨h1, h3⟩, if_neg (by rw [hm]; decide)]
        rw [e]
        refine G_seq (G_region ?_)
        (refine G_alloc rfl rfl rfl (.none rfl) ?_; intro b2)
        refine G_val (V_assign rfl rfl) rfl rfl (.none rfl) ?_
        refine G_end (X_then (G_seq (G_region ?_)))
        refine G_val (V_move rfl rfl) rfl rfl (.none rfl) ?_
        refine G_callv (k := 51) (.mk rfl rfl rfl rfl) rfl rfl (.none rfl) (Cut1_call _ _ _ _ (by omega)) ?_
        refine G_val (V_move rfl rfl) rfl rfl (.none rfl) ?_
        refine G_val (V_extract rfl rfl rfl) rfl rfl (.none rfl) ?_
        refine G_val (V_extract rfl rfl rfl) rfl rfl (.none rfl) ?_
        refine G_val (V_extract rfl rfl rfl) rfl rfl (.none rfl) ?_
        refine G_val (V_assign rfl rfl) rfl rfl (.none rfl) ?_
        refine G_val (V_assign rfl rfl) rfl rfl (.none rfl) ?_
        refine G_val (V_assign rfl rfl) rfl rfl (.none rfl) ?_
        refine G_end (X_then (G_seq (G_region ?_)))
        refine G_val (V_move rfl rfl) rfl rfl (.none rfl) ?_
        refine G_callv (k := 18) (.mk rfl rfl rfl rfl) rfl rfl (.none rfl) (Kind_call _ _ _) ?_
        refine G_val (V_move rfl rfl) rfl rfl (.none rfl) ?_
        refine G_val (V_extract rfl rfl rfl) rfl rfl (.none rfl) ?_
        refine G_val (V_extract rfl rfl rfl) rfl rfl (.none rfl) ?_
        refine G_val (V_assign rfl rfl) rfl rfl (.none rfl) ?_
        refine G_val (V_assign rfl rfl) rfl rfl (.none rfl) ?_
        refine G_end (X_then (G_seq (G_region ?_)))
        refine G_val (V_move rfl rfl) rfl rfl (.none rfl) ?_
        refine G_val (V_build rfl rfl (by simp [fillV, setLs, setL, Value.cells]; rfl)) rfl rfl (.none rfl) ?_
        (refine G_alloc rfl rfl rfl (.none rfl) ?_; intro b9)
        refine G_storeA rfl rfl rfl rfl (by simp [Value.oneCell']) rfl (.none rfl) (.head _ _ _) rfl ?_
        refine G_end (X_then (G_seq (G_block (G_seq (G_region ?_)))))
        refine G_val (V_move rfl rfl) rfl rfl (.none rfl) ?_
        refine G_val (V_neq rfl rfl rfl) rfl rfl (.none rfl) ?_
        refine G_val (V_assign rfl rfl) rfl rfl (.none rfl) ?_
        refine G_end (X_then ?_)
        refine G_cond_f rfl (decide_eq_false (by omega)) ?_
        refine G_seq (G_region ?_)
        refine G_val (V_move rfl rfl) rfl rfl (.none rfl) ?_
        refine G_val (V_neq rfl rfl rfl) rfl rfl (.none rfl) ?_
        refine G_val (V_move rfl rfl) rfl rfl (.none rfl) ?_
        refine G.bool_t 36 rfl (decide_eq_true (by omega)) ?_
        refine G_val (V_move rfl rfl) rfl rfl (.yes rfl rfl rfl rfl) ?_
        refine G_val (V_neq rfl rfl rfl) rfl rfl (.yes rfl rfl rfl rfl) ?_
        refine G_val (V_pick_t rfl rfl rfl) rfl rfl (.none rfl) ?_
        refine G_val (V_move rfl rfl) rfl rfl (.none rfl) ?_
        refine G.bool_t 40 rfl (decide_eq_true (by omega)) ?_
        refine G_val (V_move rfl rfl) rfl rfl (.yes rfl rfl rfl rfl) ?_
        refine G_val (V_not rfl rfl) rfl rfl (.yes rfl rfl rfl rfl) ?_
        refine G_val (V_pick_t rfl rfl rfl) rfl rfl (.none rfl) ?_
        refine G_val (V_assign rfl rfl) rfl rfl (.none rfl) ?_
        refine G_end (X_then ?_)
        refine G_cond_t rfl (by simp [*]; done) ?_
        refine G_seq (G_region ?_)
        refine G_val (V_loadA rfl rfl (Cells.own (.head _)) rfl) rfl rfl (.none rfl) ?_
        refine G_storeA rfl rfl rfl rfl (by simp [Value.oneCell']) rfl (.none rfl) (.tail _ (.head _ _ _)) rfl ?_
        refine G_val (V_assign rfl rfl) rfl rfl (.none rfl) ?_
        refine G_end (X_then (G_ret (X_block_ret (X_then_ret ?_))))
        refine G_leaveS (.drop _ (.drop _ (.nil _))) (by exact (.cons (.cellA rfl (Cells.own (.tail _ (.head _))) rfl) (.cons (.tmp rfl) (.nil)))) rfl ?_ ?_
        · exact (.refl _)
        exact ⟨rfl, ⟨rfl, rfl⟩⟩
    · cases hm : (cutB 32 s).2.2 with
      | false =>
        have e : lineM s = (⟨0, 0, []⟩, 3) := by rw [lineM, if_neg (by omega), if_neg h13, if_pos hm]; rfl
        rw [e]
        by_cases h1 : (kindM (cutB 32 s).1).1 = 1
        · refine G_seq ?_
          refine G_region ?_
          (refine G_alloc rfl rfl rfl (.none rfl) ?_; intro b2)
          refine G_val (V_assign rfl rfl) rfl rfl (.none rfl) ?_
          refine G_end (X_then (G_seq (G_region ?_)))
          refine G_val (V_move rfl rfl) rfl rfl (.none rfl) ?_
          refine G_callv (k := 51) (.mk rfl rfl rfl rfl) rfl rfl (.none rfl) (Cut1_call _ _ _ _ (by omega)) ?_
          refine G_val (V_move rfl rfl) rfl rfl (.none rfl) ?_
          refine G_val (V_extract rfl rfl rfl) rfl rfl (.none rfl) ?_
          refine G_val (V_extract rfl rfl rfl) rfl rfl (.none rfl) ?_
          refine G_val (V_extract rfl rfl rfl) rfl rfl (.none rfl) ?_
          refine G_val (V_assign rfl rfl) rfl rfl (.none rfl) ?_
          refine G_val (V_assign rfl rfl) rfl rfl (.none rfl) ?_
          refine G_val (V_assign rfl rfl) rfl rfl (.none rfl) ?_
          refine G_end (X_then (G_seq (G_region ?_)))
          refine G_val (V_move rfl rfl) rfl rfl (.none rfl) ?_
          refine G_callv (k := 18) (.mk rfl rfl rfl rfl) rfl rfl (.none rfl) (Kind_call _ _ _) ?_
          refine G_val (V_move rfl rfl) rfl rfl (.none rfl) ?_
          refine G_val (V_extract rfl rfl rfl) rfl rfl (.none rfl) ?_
          refine G_val (V_extract rfl rfl rfl) rfl rfl (.none rfl) ?_
          refine G_val (V_assign rfl rfl) rfl rfl (.none rfl) ?_
          refine G_val (V_assign rfl rfl) rfl rfl (.none rfl) ?_
          refine G_end (X_then (G_seq (G_region ?_)))
          refine G_val (V_move rfl rfl) rfl rfl (.none rfl) ?_
          refine G_val (V_build rfl rfl (by simp [fillV, setLs, setL, Value.cells]; rfl)) rfl rfl (.none rfl) ?_
          (refine G_alloc rfl rfl rfl (.none rfl) ?_; intro b9)
          refine G_storeA rfl rfl rfl rfl (by simp [Value.oneCell']) rfl (.none rfl) (.head _ _ _) rfl ?_
          refine G_end (X_then (G_seq (G_block (G_seq (G_region ?_)))))
          refine G_val (V_move rfl rfl) rfl rfl (.none rfl) ?_
          refine G_val (V_neq rfl rfl rfl) rfl rfl (.none rfl) ?_
          refine G_val (V_assign rfl rfl) rfl rfl (.none rfl) ?_
          refine G_end (X_then ?_)
          refine G_cond_f rfl (decide_eq_false (by omega)) ?_
          refine G_seq (G_region ?_)
          refine G_val (V_move rfl rfl) rfl rfl (.none rfl) ?_
          refine G_val (V_neq rfl rfl rfl) rfl rfl (.none rfl) ?_
          refine G_val (V_move rfl rfl) rfl rfl (.none rfl) ?_
          refine G.bool_f 36 rfl (decide_eq_false (by omega)) ?_
          refine G_stay (.no rfl rfl rfl rfl) rfl rfl ?_
          refine G_stay (.no rfl rfl rfl rfl) rfl rfl ?_
          refine G_val (V_pick_f rfl rfl rfl) rfl rfl (.none rfl) ?_
          refine G_val (V_move rfl rfl) rfl rfl (.none rfl) ?_
          refine G_stay (.no rfl rfl rfl rfl) rfl rfl ?_
          refine G_stay (.no rfl rfl rfl rfl) rfl rfl ?_
          refine G_val (V_pick_f rfl rfl rfl) rfl rfl (.none rfl) ?_
          refine G_val (V_assign rfl rfl) rfl rfl (.none rfl) ?_
          refine G_end (X_then ?_)
          refine G_cond_f rfl rfl ?_
          refine G_seq (G_region ?_)
          refine G_val (V_move rfl rfl) rfl rfl (.none rfl) ?_
          refine G_val (V_neq rfl rfl rfl) rfl rfl (.none rfl) ?_
          refine G_val (V_move rfl rfl) rfl rfl (.none rfl) ?_
          refine G.bool_f 48 rfl (decide_eq_false (by omega)) ?_
          refine G_stay (.no rfl rfl rfl rfl) rfl rfl ?_
          refine G_stay (.no rfl rfl rfl rfl) rfl rfl ?_
          refine G_val (V_pick_f rfl rfl rfl) rfl rfl (.none rfl) ?_
          refine G_val (V_move rfl rfl) rfl rfl (.none rfl) ?_
          refine G_val (V_move rfl rfl) rfl rfl (.yes rfl rfl rfl rfl) ?_
          refine G_val (V_not rfl rfl) rfl rfl (.yes rfl rfl rfl rfl) ?_
          refine G_val (V_pick_f rfl rfl rfl) rfl rfl (.none rfl) ?_
          refine G_val (V_assign rfl rfl) rfl rfl (.none rfl) ?_
          refine G_end (X_then ?_)
          refine G_cond_t rfl (by simp [*]; done) ?_
          refine G_seq (G_region ?_)
          refine G_val (V_build rfl rfl (by simp [fillV, setLs, setL, Value.cells]; rfl)) rfl rfl (.none rfl) ?_
          refine G_storeA rfl rfl rfl rfl (by simp [Value.oneCell']) rfl (.none rfl) (.tail _ (.head _ _ _)) rfl ?_
          refine G_val (V_assign rfl rfl) rfl rfl (.none rfl) ?_
          refine G_end (X_then (G_ret (X_block_ret (X_then_ret ?_))))
          refine G_leaveS (.drop _ (.drop _ (.nil _))) (by exact (.cons (.cellA rfl (Cells.own (.tail _ (.head _))) rfl) (.cons (.tmp rfl) (.nil)))) rfl ?_ ?_
          · exact (.refl _)
          exact ⟨(by kernel_rfl), ⟨rfl, rfl⟩⟩
        · have h3 : (kindM (cutB 32 s).1).1 = 3 := by omega
          refine G_seq (G_region ?_)
          (refine G_alloc rfl rfl rfl (.none rfl) ?_; intro b2)
          refine G_val (V_assign rfl rfl) rfl rfl (.none rfl) ?_
          refine G_end (X_then (G_seq (G_region ?_)))
          refine G_val (V_move rfl rfl) rfl rfl (.none rfl) ?_
          refine G_callv (k := 51) (.mk rfl rfl rfl rfl) rfl rfl (.none rfl) (Cut1_call _ _ _ _ (by omega)) ?_
          refine G_val (V_move rfl rfl) rfl rfl (.none rfl) ?_
          refine G_val (V_extract rfl rfl rfl) rfl rfl (.none rfl) ?_
          refine G_val (V_extract rfl rfl rfl) rfl rfl (.none rfl) ?_
          refine G_val (V_extract rfl rfl rfl) rfl rfl (.none rfl) ?_
          refine G_val (V_assign rfl rfl) rfl rfl (.none rfl) ?_
          refine G_val (V_assign rfl rfl) rfl rfl (.none rfl) ?_
          refine G_val (V_assign rfl rfl) rfl rfl (.none rfl) ?_
          refine G_end (X_then (G_seq (G_region ?_)))
          refine G_val (V_move rfl rfl) rfl rfl (.none rfl) ?_
          refine G_callv (k := 18) (.mk rfl rfl rfl rfl) rfl rfl (.none rfl) (Kind_call _ _ _) ?_
          refine G_val (V_move rfl rfl) rfl rfl (.none rfl) ?_
          refine G_val (V_extract rfl rfl rfl) rfl rfl (.none rfl) ?_
          refine G_val (V_extract rfl rfl rfl) rfl rfl (.none rfl) ?_
          refine G_val (V_assign rfl rfl) rfl rfl (.none rfl) ?_
          refine G_val (V_assign rfl rfl) rfl rfl (.none rfl) ?_
          refine G_end (X_then (G_seq (G_region ?_)))
          refine G_val (V_move rfl rfl) rfl rfl (.none rfl) ?_
          refine G_val (V_build rfl rfl (by simp [fillV, setLs, setL, Value.cells]; rfl)) rfl rfl (.none rfl) ?_
          (refine G_alloc rfl rfl rfl (.none rfl) ?_; intro b9)
          refine G_storeA rfl rfl rfl rfl (by simp [Value.oneCell']) rfl (.none rfl) (.head _ _ _) rfl ?_
          refine G_end (X_then (G_seq (G_block (G_seq (G_region ?_)))))
          refine G_val (V_move rfl rfl) rfl rfl (.none rfl) ?_
          refine G_val (V_neq rfl rfl rfl) rfl rfl (.none rfl) ?_
          refine G_val (V_assign rfl rfl) rfl rfl (.none rfl) ?_
          refine G_end (X_then ?_)
          refine G_cond_f rfl (decide_eq_false (by omega)) ?_
          refine G_seq (G_region ?_)
          refine G_val (V_move rfl rfl) rfl rfl (.none rfl) ?_
          refine G_val (V_neq rfl rfl rfl) rfl rfl (.none rfl) ?_
          refine G_val (V_move rfl rfl) rfl rfl (.none rfl) ?_
          refine G.bool_t 36 rfl (decide_eq_true (by omega)) ?_
          refine G_val (V_move rfl rfl) rfl rfl (.yes rfl rfl rfl rfl) ?_
          refine G_val (V_neq rfl rfl rfl) rfl rfl (.yes rfl rfl rfl rfl) ?_
          refine G_val (V_pick_t rfl rfl rfl) rfl rfl (.none rfl) ?_
          refine G_val (V_move rfl rfl) rfl rfl (.none rfl) ?_
          refine G.bool_f 40 rfl (decide_eq_false (by omega)) ?_
          refine G_stay (.no rfl rfl rfl rfl) rfl rfl ?_
          refine G_stay (.no rfl rfl rfl rfl) rfl rfl ?_
          refine G_val (V_pick_f rfl rfl rfl) rfl rfl (.none rfl) ?_
          refine G_val (V_assign rfl rfl) rfl rfl (.none rfl) ?_
          refine G_end (X_then ?_)
          refine G_cond_f rfl rfl ?_
          refine G_seq (G_region ?_)
          refine G_val (V_move rfl rfl) rfl rfl (.none rfl) ?_
          refine G_val (V_neq rfl rfl rfl) rfl rfl (.none rfl) ?_
          refine G_val (V_move rfl rfl) rfl rfl (.none rfl) ?_
          refine G.bool_t 48 rfl (decide_eq_true (by omega)) ?_
          refine G_val (V_move rfl rfl) rfl rfl (.yes rfl rfl rfl rfl) ?_
          refine G_val (V_neq rfl rfl rfl) rfl rfl (.yes rfl rfl rfl rfl) ?_
          refine G_val (V_pick_t rfl rfl rfl) rfl rfl (.none rfl) ?_
          refine G_val (V_move rfl rfl) rfl rfl (.none rfl) ?_
          refine G.bool_f 52 rfl (decide_eq_false (by omega)) ?_
          refine G_val (V_move rfl rfl) rfl rfl (.yes rfl rfl rfl rfl) ?_
          refine G_val (V_not rfl rfl) rfl rfl (.yes rfl rfl rfl rfl) ?_
          refine G_val (V_pick_f rfl rfl rfl) rfl rfl (.none rfl) ?_
          refine G_val (V_assign rfl rfl) rfl rfl (.none rfl) ?_
          refine G_end (X_then ?_)
          refine G_cond_t rfl (by simp [*]; done) ?_
          refine G_seq (G_region ?_)
          refine G_val (V_build rfl rfl (by simp [fillV, setLs, setL, Value.cells]; rfl)) rfl rfl (.none rfl) ?_
          refine G_storeA rfl rfl rfl rfl (by simp [Value.oneCell']) rfl (.none rfl) (.tail _ (.head _ _ _)) rfl ?_
          refine G_val (V_assign rfl rfl) rfl rfl (.none rfl) ?_
          refine G_end (X_then (G_ret (X_block_ret (X_then_ret ?_))))
          refine G_leaveS (.drop _ (.drop _ (.nil _))) (by exact (.cons (.cellA rfl (Cells.own (.tail _ (.head _))) rfl) (.cons (.tmp rfl) (.nil)))) rfl ?_ ?_
          · exact (.refl _)
          exact ⟨(by kernel_rfl), ⟨rfl, rfl⟩⟩
      | true =>
        have hlt := cutB_lt hm
        obtain ⟨r, hr⟩ : ∃ r, (cutB 32 s).2.1 = r := ⟨_, rfl⟩
        by_cases h1 : (kindM (cutB 32 s).1).1 = 1
        · have e0 : lineM s = if (feedM r).2 ≠ 0 then (Cl.zero, (feedM r).2) else (⟨1, 0, (feedM r).1⟩, 0) := by rw [lineM, if_neg (by omega), if_neg h13, if_neg (by rw [hm]; decide), if_pos h1, hr]
          by_cases h45 : r = [45]
          · have e : lineM s = (⟨1, 0, []⟩, 0) := by rw [e0, feedM, if_pos h45]; rfl
            rw [e]
            refine G_seq (G_region ?_)
            (refine G_alloc rfl rfl rfl (.none rfl) ?_; intro b2)
            refine G_val (V_assign rfl rfl) rfl rfl (.none rfl) ?_
            refine G_end (X_then (G_seq (G_region ?_)))
            refine G_val (V_move rfl rfl) rfl rfl (.none rfl) ?_
            refine G_callv (k := 51) (.mk rfl rfl rfl rfl) rfl rfl (.none rfl) (Cut1_call _ _ _ _ (by omega)) ?_
            refine G_val (V_move rfl rfl) rfl rfl (.none rfl) ?_
            refine G_val (V_extract rfl rfl rfl) rfl rfl (.none rfl) ?_
            refine G_val (V_extract rfl rfl rfl) rfl rfl (.none rfl) ?_
            refine G_val (V_extract rfl rfl rfl) rfl rfl (.none rfl) ?_
            refine G_val (V_assign rfl rfl) rfl rfl (.none rfl) ?_
            refine G_val (V_assign rfl rfl) rfl rfl (.none rfl) ?_
            refine G_val (V_assign rfl rfl) rfl rfl (.none rfl) ?_
            refine G_end (X_then (G_seq (G_region ?_)))
            refine G_val (V_move rfl rfl) rfl rfl (.none rfl) ?_
            refine G_callv (k := 18) (.mk rfl rfl rfl rfl) rfl rfl (.none rfl) (Kind_call _ _ _) ?_
            refine G_val (V_move rfl rfl) rfl rfl (.none rfl) ?_
            refine G_val (V_extract rfl rfl rfl) rfl rfl (.none rfl) ?_
            refine G_val (V_extract rfl rfl rfl) rfl rfl (.none rfl) ?_
            refine G_val (V_assign rfl rfl) rfl rfl (.none rfl) ?_
            refine G_val (V_assign rfl rfl) rfl rfl (.none rfl) ?_
            refine G_end (X_then (G_seq (G_region ?_)))
            refine G_val (V_move rfl rfl) rfl rfl (.none rfl) ?_
            refine G_val (V_build rfl rfl (by simp [fillV, setLs, setL, Value.cells]; rfl)) rfl rfl (.none rfl) ?_
            (refine G_alloc rfl rfl rfl (.none rfl) ?_; intro b9)
            refine G_storeA rfl rfl rfl rfl (by simp [Value.oneCell']) rfl (.none rfl) (.head _ _ _) rfl ?_
            refine G_end (X_then (G_seq (G_block (G_seq (G_region ?_)))))
            refine G_val (V_move rfl rfl) rfl rfl (.none rfl) ?_
            refine G_val (V_neq rfl rfl rfl) rfl rfl (.none rfl) ?_
            refine G_val (V_assign rfl rfl) rfl rfl (.none rfl) ?_
            refine G_end (X_then ?_)
            refine G_cond_f rfl (decide_eq_false (by omega)) ?_
            refine G_seq (G_region ?_)
            refine G_val (V_move rfl rfl) rfl rfl (.none rfl) ?_
            refine G_val (V_neq rfl rfl rfl) rfl rfl (.none rfl) ?_
            refine G_val (V_move rfl rfl) rfl rfl (.none rfl) ?_
            refine G.bool_f 36 rfl (decide_eq_false (by omega)) ?_
            refine G_stay (.no rfl rfl rfl rfl) rfl rfl ?_
            refine G_stay (.no rfl rfl rfl rfl) rfl rfl ?_
            refine G_val (V_pick_f rfl rfl rfl) rfl rfl (.none rfl) ?_
            refine G_val (V_move rfl rfl) rfl rfl (.none rfl) ?_
            refine G_stay (.no rfl rfl rfl rfl) rfl rfl ?_
            refine G_stay (.no rfl rfl rfl rfl) rfl rfl ?_
            refine G_val (V_pick_f rfl rfl rfl) rfl rfl (.none rfl) ?_
            refine G_val (V_assign rfl rfl) rfl rfl (.none rfl) ?_
            refine G_end (X_then ?_)
            refine G_cond_f rfl rfl ?_
            refine G_seq (G_region ?_)
            refine G_val (V_move rfl rfl) rfl rfl (.none rfl) ?_
            refine G_val (V_neq rfl rfl rfl) rfl rfl (.none rfl) ?_
            refine G_val (V_move rfl rfl) rfl rfl (.none rfl) ?_
            refine G.bool_f 48 rfl (decide_eq_false (by omega)) ?_
            refine G_stay (.no rfl rfl rfl rfl) rfl rfl ?_
            refine G_stay (.no rfl rfl rfl rfl) rfl rfl ?_
            refine G_val (V_pick_f rfl rfl rfl) rfl rfl (.none rfl) ?_
            refine G_val (V_move rfl rfl) rfl rfl (.none rfl) ?_
            refine G_val (V_move rfl rfl) rfl rfl (.yes rfl rfl rfl rfl) ?_
            refine G_val (V_not rfl rfl) rfl rfl (.yes rfl rfl rfl rfl) ?_
            refine G_val (V_pick_f rfl rfl rfl) rfl rfl (.none rfl) ?_
            refine G_val (V_assign rfl rfl) rfl rfl (.none rfl) ?_
            refine G_end (X_then ?_)
            refine G_cond_f rfl (by simp [*]; done) ?_
            refine G_seq (G_region ?_)
            refine G_val (V_move rfl rfl) rfl rfl (.none rfl) ?_
            refine G_val (V_eql rfl rfl rfl) rfl rfl (.none rfl) ?_
            refine G_val (V_move rfl rfl) rfl rfl (.none rfl) ?_
            refine G.bool_t 60 rfl (decide_eq_true (by omega)) ?_
            refine G_val (V_move rfl rfl) rfl rfl (.yes rfl rfl rfl rfl) ?_
            refine G_val (V_seql rfl rfl rfl) rfl rfl (.yes rfl rfl rfl rfl) ?_
            refine G_val (V_pick_t rfl rfl rfl) rfl rfl (.none rfl) ?_
            refine G_val (V_assign rfl rfl) rfl rfl (.none rfl) ?_
            refine G_end (X_then ?_)
            refine G_cond_t rfl (by simp [*]; done) ?_
            refine G_seq (G_region ?_)
            refine G_val (V_loadA rfl rfl (Cells.own (.head _)) rfl) rfl rfl (.none rfl) ?_
            refine G_storeA rfl rfl rfl rfl (by simp [Value.oneCell']) rfl (.none rfl) (.tail _ (.head _ _ _)) rfl ?_
            refine G_val (V_assign rfl rfl) rfl rfl (.none rfl) ?_
            refine G_end (X_then (G_ret (X_block_ret (X_then_ret ?_))))
            refine G_leaveS (.drop _ (.drop _ (.nil _))) (by exact (.cons (.cellA rfl (Cells.own (.tail _ (.head _))) rfl) (.cons (.tmp rfl) (.nil)))) rfl ?_ ?_
            · exact (.refl _)
            exact ⟨(by (simp (discharger := omega) only [resVal, hm, hr, h1, if_pos, if_neg]; first | done | rfl)), ⟨(by rfl), (by rfl)⟩⟩
          · cases hu : unhexM r with
            | none =>
              have e : lineM s = (⟨0, 0, []⟩, 3) := by rw [e0, feedM, if_neg h45, hu]; rfl
              rw [e]
              refine G_seq (G_region ?_)
              (refine G_alloc rfl rfl rfl (.none rfl) ?_; intro b2)
              refine G_val (V_assign rfl rfl) rfl rfl (.none rfl) ?_
              refine G_end (X_then (G_seq (G_region ?_)))
              refine G_val (V_move rfl rfl) rfl rfl (.none rfl) ?_
              refine G_callv (k := 51) (.mk rfl rfl rfl rfl) rfl rfl (.none rfl) (Cut1_call _ _ _ _ (by omega)) ?_
              refine G_val (V_move rfl rfl) rfl rfl (.none rfl) ?_
              refine G_val (V_extract rfl rfl rfl) rfl rfl (.none rfl) ?_
              refine G_val (V_extract rfl rfl rfl) rfl rfl (.none rfl) ?_
              refine G_val (V_extract rfl rfl rfl) rfl rfl (.none rfl) ?_
              refine G_val (V_assign rfl rfl) rfl rfl (.none rfl) ?_
              refine G_val (V_assign rfl rfl) rfl rfl (.none rfl) ?_
              refine G_val (V_assign rfl rfl) rfl rfl (.none rfl) ?_
              refine G_end (X_then (G_seq (G_region ?_)))
              refine G_val (V_move rfl rfl) rfl rfl (.none rfl) ?_
              refine G_callv (k := 18) (.mk rfl rfl rfl rfl) rfl rfl (.none rfl) (Kind_call _ _ _) ?_
              refine G_val (V_move rfl rfl) rfl rfl (.none rfl) ?_
              refine G_val (V_extract rfl rfl rfl) rfl rfl (.none rfl) ?_
              refine G_val (V_extract rfl rfl rfl) rfl rfl (.none rfl) ?_
              refine G_val (V_assign rfl rfl) rfl rfl (.none rfl) ?_
              refine G_val (V_assign rfl rfl) rfl rfl (.none rfl) ?_
              refine G_end (X_then (G_seq (G_region ?_)))
              refine G_val (V_move rfl rfl) rfl rfl (.none rfl) ?_
              refine G_val (V_build rfl rfl (by simp [fillV, setLs, setL, Value.cells]; rfl)) rfl rfl (.none rfl) ?_
              (refine G_alloc rfl rfl rfl (.none rfl) ?_; intro b9)
              refine G_storeA rfl rfl rfl rfl (by simp [Value.oneCell']) rfl (.none rfl) (.head _ _ _) rfl ?_
              refine G_end (X_then (G_seq (G_block (G_seq (G_region ?_)))))
              refine G_val (V_move rfl rfl) rfl rfl (.none rfl) ?_
              refine G_val (V_neq rfl rfl rfl) rfl rfl (.none rfl) ?_
              refine G_val (V_assign rfl rfl) rfl rfl (.none rfl) ?_
              refine G_end (X_then ?_)
              refine G_cond_f rfl (decide_eq_false (by omega)) ?_
              refine G_seq (G_region ?_)
              refine G_val (V_move rfl rfl) rfl rfl (.none rfl) ?_
              refine G_val (V_neq rfl rfl rfl) rfl rfl (.none rfl) ?_
              refine G_val (V_move rfl rfl) rfl rfl (.none rfl) ?_
              refine G.bool_f 36 rfl (decide_eq_false (by omega)) ?_
              refine G_stay (.no rfl rfl rfl rfl) rfl rfl ?_
              refine G_stay (.no rfl rfl rfl rfl) rfl rfl ?_
              refine G_val (V_pick_f rfl rfl rfl) rfl rfl (.none rfl) ?_
              refine G_val (V_move rfl rfl) rfl rfl (.none rfl) ?_
              refine G_stay (.no rfl rfl rfl rfl) rfl rfl ?_
              refine G_stay (.no rfl rfl rfl rfl) rfl rfl ?_
              refine G_val (V_pick_f rfl rfl rfl) rfl rfl (.none rfl) ?_
              refine G_val (V_assign rfl rfl) rfl rfl (.none rfl) ?_
              refine G_end (X_then ?_)
              refine G_cond_f rfl rfl ?_
              refine G_seq (G_region ?_)
              refine G_val (V_move rfl rfl) rfl rfl (.none rfl) ?_
              refine G_val (V_neq rfl rfl rfl) rfl rfl (.none rfl) ?_
              refine G_val (V_move rfl rfl) rfl rfl (.none rfl) ?_
              refine G.bool_f 48 rfl (decide_eq_false (by omega)) ?_
              refine G_stay (.no rfl rfl rfl rfl) rfl rfl ?_
              refine G_stay (.no rfl rfl rfl rfl) rfl rfl ?_
              refine G_val (V_pick_f rfl rfl rfl) rfl rfl (.none rfl) ?_
              refine G_val (V_move rfl rfl) rfl rfl (.none rfl) ?_
              refine G_val (V_move rfl rfl) rfl rfl (.yes rfl rfl rfl rfl) ?_
              refine G_val (V_not rfl rfl) rfl rfl (.yes rfl rfl rfl rfl) ?_
              refine G_val (V_pick_f rfl rfl rfl) rfl rfl (.none rfl) ?_
              refine G_val (V_assign rfl rfl) rfl rfl (.none rfl) ?_
              refine G_end (X_then ?_)
              refine G_cond_f rfl (by simp [*]; done) ?_
              refine G_seq (G_region ?_)
              refine G_val (V_move rfl rfl) rfl rfl (.none rfl) ?_
              refine G_val (V_eql rfl rfl rfl) rfl rfl (.none rfl) ?_
              refine G_val (V_move rfl rfl) rfl rfl (.none rfl) ?_
              refine G.bool_t 60 rfl (decide_eq_true (by omega)) ?_
              refine G_val (V_move rfl rfl) rfl rfl (.yes rfl rfl rfl rfl) ?_
              refine G_val (V_seql rfl rfl rfl) rfl rfl (.yes rfl rfl rfl rfl) ?_
              refine G_val (V_pick_t rfl rfl rfl) rfl rfl (.none rfl) ?_
              refine G_val (V_assign rfl rfl) rfl rfl (.none rfl) ?_
              refine G_end (X_then ?_)
              refine G_cond_f rfl (by simp [*]; done) ?_
              refine G_seq (G_region ?_)
              refine G_val (V_move rfl rfl) rfl rfl (.none rfl) ?_
              refine G_val (V_eql rfl rfl rfl) rfl rfl (.none rfl) ?_
              refine G_val (V_assign rfl rfl) rfl rfl (.none rfl) ?_
              refine G_end (X_then ?_)
              refine G_cond_t rfl (decide_eq_true (by omega)) ?_
              refine G_seq (G_region ?_)
              refine G_val (V_move rfl rfl) rfl rfl (.none rfl) ?_
              refine G_call (k := 52) (.mk rfl rfl rfl rfl) rfl rfl (.none rfl) (unhex_call _ _ _ (by omega)) ?_
              rintro r1 E2 L3 hE4 ⟨rfl, ⟨rfl, rfl⟩⟩
              refine G_val (V_move rfl rfl) rfl rfl (.none rfl) ?_
              refine G_val (V_extract rfl rfl rfl) rfl rfl (.none rfl) ?_
              refine G_val (V_extract rfl rfl rfl) rfl rfl (.none rfl) ?_
              refine G_val (V_assign rfl rfl) rfl rfl (.none rfl) ?_
              refine G_val (V_assign rfl rfl) rfl rfl (.none rfl) ?_
              refine G_end (X_then (G_seq (G_seq (G_region ?_))))
              refine G_val (V_move rfl rfl) rfl rfl (.none rfl) ?_
              refine G_val (V_not rfl rfl) rfl rfl (.none rfl) ?_
              refine G_val (V_move rfl rfl) rfl rfl (.none rfl) ?_
              refine G.bool_t 75 rfl (by simp [*]; done) ?_
              refine G_stay (.no rfl rfl rfl rfl) rfl rfl ?_
              refine G_stay (.no rfl rfl rfl rfl) rfl rfl ?_
              refine G_val (V_pick_t rfl rfl rfl) rfl rfl (.none rfl) ?_
              refine G_end (X_then ?_)
              refine G_cond_t rfl rfl ?_
              refine G_seq (G_region ?_)
              refine G_val (V_build rfl rfl (by simp [fillV, setLs, setL, Value.cells]; rfl)) rfl rfl (.none rfl) ?_
              refine G_storeA rfl rfl rfl rfl (by simp [Value.oneCell']) rfl (.none rfl) (.tail _ (.head _ _ _)) rfl ?_
              refine G_val (V_assign rfl rfl) rfl rfl (.none rfl) ?_
              refine G_end (X_then (G_ret (X_then_ret (X_block_ret (X_then_ret ?_)))))
              refine G_leaveS (.drop _ (.drop _ (.nil _))) (by exact (.cons (.cellA rfl (Cells.own (.tail _ (.head _))) rfl) (.cons (.tmp rfl) (.nil)))) rfl ?_ ?_
              · exact (.refl _)
              exact ⟨(by kernel_rfl), ⟨rfl, rfl⟩⟩
            | some t =>
              by_cases ht0 : t = []
              · have e : lineM s = (⟨0, 0, []⟩, 3) := by rw [e0, feedM, if_neg h45, hu, ht0]; rfl
                rw [e]
                refine G_seq (G_region ?_)
                (refine G_alloc rfl rfl rfl (.none rfl) ?_; intro b2)
                refine G_val (V_assign rfl rfl) rfl rfl (.none rfl) ?_
                refine G_end (X_then (G_seq (G_region ?_)))
                refine G_val (V_move rfl rfl) rfl rfl (.none rfl) ?_
                refine G_callv (k := 51) (.mk rfl rfl rfl rfl) rfl rfl (.none rfl) (Cut1_call _ _ _ _ (by omega)) ?_
                refine G_val (V_move rfl rfl) rfl rfl (.none rfl) ?_
                refine G_val (V_extract rfl rfl rfl) rfl rfl (.none rfl) ?_
                refine G_val (V_extract rfl rfl rfl) rfl rfl (.none rfl) ?_
                refine G_val (V_extract rfl rfl rfl) rfl rfl (.none rfl) ?_
                refine G_val (V_assign rfl rfl) rfl rfl (.none rfl) ?_
                refine G_val (V_assign rfl rfl) rfl rfl (.none rfl) ?_
                refine G_val (V_assign rfl rfl) rfl rfl (.none rfl) ?_
                refine G_end (X_then (G_seq (G_region ?_)))
                refine G_val (V_move rfl rfl) rfl rfl (.none rfl) ?_
                refine G_callv (k := 18) (.mk rfl rfl rfl rfl) rfl rfl (.none rfl) (Kind_call _ _ _) ?_
                refine G_val (V_move rfl rfl) rfl rfl (.none rfl) ?_
                refine G_val (V_extract rfl rfl rfl) rfl rfl (.none rfl) ?_
                refine G_val (V_extract rfl rfl rfl) rfl rfl (.none rfl) ?_
                refine G_val (V_assign rfl rfl) rfl rfl (.none rfl) ?_
                refine G_val (V_assign rfl rfl) rfl rfl (.none rfl) ?_
                refine G_end (X_then (G_seq (G_region ?_)))
                refine G_val (V_move rfl rfl) rfl rfl (.none rfl) ?_
                refine G_val (V_build rfl rfl (by simp [fillV, setLs, setL, Value.cells]; rfl)) rfl rfl (.none rfl) ?_
                (refine G_alloc rfl rfl rfl (.none rfl) ?_; intro b9)
                refine G_storeA rfl rfl rfl rfl (by simp [Value.oneCell']) rfl (.none rfl) (.head _ _ _) rfl ?_
                refine G_end (X_then (G_seq (G_block (G_seq (G_region ?_)))))
                refine G_val (V_move rfl rfl) rfl rfl (.none rfl) ?_
                refine G_val (V_neq rfl rfl rfl) rfl rfl (.none rfl) ?_
                refine G_val (V_assign rfl rfl) rfl rfl (.none rfl) ?_
                refine G_end (X_then ?_)
                refine G_cond_f rfl (decide_eq_false (by omega)) ?_
                refine G_seq (G_region ?_)
                refine G_val (V_move rfl rfl) rfl rfl (.none rfl) ?_
                refine G_val (V_neq rfl rfl rfl) rfl rfl (.none rfl) ?_
                refine G_val (V_move rfl rfl) rfl rfl (.none rfl) ?_
                refine G.bool_f 36 rfl (decide_eq_false (by omega)) ?_
                refine G_stay (.no rfl rfl rfl rfl) rfl rfl ?_
                refine G_stay (.no rfl rfl rfl rfl) rfl rfl ?_
                refine G_val (V_pick_f rfl rfl rfl) rfl rfl (.none rfl) ?_
                refine G_val (V_move rfl rfl) rfl rfl (.none rfl) ?_
                refine G_stay (.no rfl rfl rfl rfl) rfl rfl ?_
                refine G_stay (.no rfl rfl rfl rfl) rfl rfl ?_
                refine G_val (V_pick_f rfl rfl rfl) rfl rfl (.none rfl) ?_
                refine G_val (V_assign rfl rfl) rfl rfl (.none rfl) ?_
                refine G_end (X_then ?_)
                refine G_cond_f rfl rfl ?_
                refine G_seq (G_region ?_)
                refine G_val (V_move rfl rfl) rfl rfl (.none rfl) ?_
                refine G_val (V_neq rfl rfl rfl) rfl rfl (.none rfl) ?_
                refine G_val (V_move rfl rfl) rfl rfl (.none rfl) ?_
                refine G.bool_f 48 rfl (decide_eq_false (by omega)) ?_
                refine G_stay (.no rfl rfl rfl rfl) rfl rfl ?_
                refine G_stay (.no rfl rfl rfl rfl) rfl rfl ?_
                refine G_val (V_pick_f rfl rfl rfl) rfl rfl (.none rfl) ?_
                refine G_val (V_move rfl rfl) rfl rfl (.none rfl) ?_
                refine G_val (V_move rfl rfl) rfl rfl (.yes rfl rfl rfl rfl) ?_
                refine G_val (V_not rfl rfl) rfl rfl (.yes rfl rfl rfl rfl) ?_
                refine G_val (V_pick_f rfl rfl rfl) rfl rfl (.none rfl) ?_
                refine G_val (V_assign rfl rfl) rfl rfl (.none rfl) ?_
                refine G_end (X_then ?_)
                refine G_cond_f rfl (by simp [*]; done) ?_
                refine G_seq (G_region ?_)
                refine G_val (V_move rfl rfl) rfl rfl (.none rfl) ?_
                refine G_val (V_eql rfl rfl rfl) rfl rfl (.none rfl) ?_
                refine G_val (V_move rfl rfl) rfl rfl (.none rfl) ?_
                refine G.bool_t 60 rfl (decide_eq_true (by omega)) ?_
                refine G_val (V_move rfl rfl) rfl rfl (.yes rfl rfl rfl rfl) ?_
                refine G_val (V_seql rfl rfl rfl) rfl rfl (.yes rfl rfl rfl rfl) ?_
                refine G_val (V_pick_t rfl rfl rfl) rfl rfl (.none rfl) ?_
                refine G_val (V_assign rfl rfl) rfl rfl (.none rfl) ?_
                refine G_end (X_then ?_)
                refine G_cond_f rfl (by simp [*]; done) ?_
                refine G_seq (G_region ?_)
                refine G_val (V_move rfl rfl) rfl rfl (.none rfl) ?_
                refine G_val (V_eql rfl rfl rfl) rfl rfl (.none rfl) ?_
                refine G_val (V_assign rfl rfl) rfl rfl (.none rfl) ?_
                refine G_end (X_then ?_)
                refine G_cond_t rfl (decide_eq_true (by omega)) ?_
                refine G_seq (G_region ?_)
                refine G_val (V_move rfl rfl) rfl rfl (.none rfl) ?_
                refine G_call (k := 52) (.mk rfl rfl rfl rfl) rfl rfl (.none rfl) (unhex_call _ _ _ (by omega)) ?_
                rintro r1 E2 L3 hE4 ⟨rfl, ⟨rfl, rfl⟩⟩
                refine G_val (V_move rfl rfl) rfl rfl (.none rfl) ?_
                refine G_val (V_extract rfl rfl rfl) rfl rfl (.none rfl) ?_
                refine G_val (V_extract rfl rfl rfl) rfl rfl (.none rfl) ?_
                refine G_val (V_assign rfl rfl) rfl rfl (.none rfl) ?_
                refine G_val (V_assign rfl rfl) rfl rfl (.none rfl) ?_
                refine G_end (X_then (G_seq (G_seq (G_region ?_))))
                refine G_val (V_move rfl rfl) rfl rfl (.none rfl) ?_
                refine G_val (V_not rfl rfl) rfl rfl (.none rfl) ?_
                refine G_val (V_move rfl rfl) rfl rfl (.none rfl) ?_
                refine G.bool_f 75 rfl (by simp [*]; done) ?_
                refine G_val (V_move rfl rfl) rfl rfl (.yes rfl rfl rfl rfl) ?_
                refine G_val (V_seql rfl rfl rfl) rfl rfl (.yes rfl rfl rfl rfl) ?_
                refine G_val (V_pick_f rfl rfl rfl) rfl rfl (.none rfl) ?_
                refine G_end (X_then ?_)
                refine G_cond_t rfl (by simp [*]; done) ?_
                refine G_seq (G_region ?_)
                refine G_val (V_build rfl rfl (by simp [fillV, setLs, setL, Value.cells]; rfl)) rfl rfl (.none rfl) ?_
                refine G_storeA rfl rfl rfl rfl (by simp [Value.oneCell']) rfl (.none rfl) (.tail _ (.head _ _ _)) rfl ?_
                refine G_val (V_assign rfl rfl) rfl rfl (.none rfl) ?_
                refine G_end (X_then (G_ret (X_then_ret (X_block_ret (X_then_ret ?_)))))
                refine G_leaveS (.drop _ (.drop _ (.nil _))) (by exact (.cons (.cellA rfl (Cells.own (.tail _ (.head _))) rfl) (.cons (.tmp rfl) (.nil)))) rfl ?_ ?_
                · exact (.refl _)
                exact ⟨(by kernel_rfl), ⟨rfl, rfl⟩⟩
              · by_cases hlong : 1000 < t.length
                · have e : lineM s = (⟨0, 0, []⟩, 4) := by rw [e0, feedM, if_neg h45, hu]; simp only [ht0, hlong, if_false, if_true]; rfl
                  rw [e]
                  refine G_seq (G_region ?_)
                  (refine G_alloc rfl rfl rfl (.none rfl) ?_; intro b2)
                  refine G_val (V_assign rfl rfl) rfl rfl (.none rfl) ?_
                  refine G_end (X_then (G_seq (G_region ?_)))
                  refine G_val (V_move rfl rfl) rfl rfl (.none rfl) ?_
                  refine G_callv (k := 51) (.mk rfl rfl rfl rfl) rfl rfl (.none rfl) (Cut1_call _ _ _ _ (by omega)) ?_
                  refine G_val (V_move rfl rfl) rfl rfl (.none rfl) ?_
                  refine G_val (V_extract rfl rfl rfl) rfl rfl (.none rfl) ?_
                  refine G_val (V_extract rfl rfl rfl) rfl rfl (.none rfl) ?_
                  refine G_val (V_extract rfl rfl rfl) rfl rfl (.none rfl) ?_
                  refine G_val (V_assign rfl rfl) rfl rfl (.none rfl) ?_
                  refine G_val (V_assign rfl rfl) rfl rfl (.none rfl) ?_
                  refine G_val (V_assign rfl rfl) rfl rfl (.none rfl) ?_
                  refine G_end (X_then (G_seq (G_region ?_)))
                  refine G_val (V_move rfl rfl) rfl rfl (.none rfl) ?_
                  refine G_callv (k := 18) (.mk rfl rfl rfl rfl) rfl rfl (.none rfl) (Kind_call _ _ _) ?_
                  refine G_val (V_move rfl rfl) rfl rfl (.none rfl) ?_
                  refine G_val (V_extract rfl rfl rfl) rfl rfl (.none rfl) ?_
                  refine G_val (V_extract rfl rfl rfl) rfl rfl (.none rfl) ?_
                  refine G_val (V_assign rfl rfl) rfl rfl (.none rfl) ?_
                  refine G_val (V_assign rfl rfl) rfl rfl (.none rfl) ?_
                  refine G_end (X_then (G_seq (G_region ?_)))
                  refine G_val (V_move rfl rfl) rfl rfl (.none rfl) ?_
                  refine G_val (V_build rfl rfl (by simp [fillV, setLs, setL, Value.cells]; rfl)) rfl rfl (.none rfl) ?_
                  (refine G_alloc rfl rfl rfl (.none rfl) ?_; intro b9)
                  refine G_storeA rfl rfl rfl rfl (by simp [Value.oneCell']) rfl (.none rfl) (.head _ _ _) rfl ?_
                  refine G_end (X_then (G_seq (G_block (G_seq (G_region ?_)))))
                  refine G_val (V_move rfl rfl) rfl rfl (.none rfl) ?_
                  refine G_val (V_neq rfl rfl rfl) rfl rfl (.none rfl) ?_
                  refine G_val (V_assign rfl rfl) rfl rfl (.none rfl) ?_
                  refine G_end (X_then ?_)
                  refine G_cond_f rfl (decide_eq_false (by omega)) ?_
                  refine G_seq (G_region ?_)
                  refine G_val (V_move rfl rfl) rfl rfl (.none rfl) ?_
                  refine G_val (V_neq rfl rfl rfl) rfl rfl (.none rfl) ?_
                  refine G_val (V_move rfl rfl) rfl rfl (.none rfl) ?_
                  refine G.bool_f 36 rfl (decide_eq_false (by omega)) ?_
                  refine G_stay (.no rfl rfl rfl rfl) rfl rfl ?_
                  refine G_stay (.no rfl rfl rfl rfl) rfl rfl ?_
                  refine G_val (V_pick_f rfl rfl rfl) rfl rfl (.none rfl) ?_
                  refine G_val (V_move rfl rfl) rfl rfl (.none rfl) ?_
                  refine G_stay (.no rfl rfl rfl rfl) rfl rfl ?_
                  refine G_stay (.no rfl rfl rfl rfl) rfl rfl ?_
                  refine G_val (V_pick_f rfl rfl rfl) rfl rfl (.none rfl) ?_
                  refine G_val (V_assign rfl rfl) rfl rfl (.none rfl) ?_
                  refine G_end (X_then ?_)
                  refine G_cond_f rfl rfl ?_
                  refine G_seq (G_region ?_)
                  refine G_val (V_move rfl rfl) rfl rfl (.none rfl) ?_
                  refine G_val (V_neq rfl rfl rfl) rfl rfl (.none rfl) ?_
                  refine G_val (V_move rfl rfl) rfl rfl (.none rfl) ?_
                  refine G.bool_f 48 rfl (decide_eq_false (by omega)) ?_
                  refine G_stay (.no rfl rfl rfl rfl) rfl rfl ?_
                  refine G_stay (.no rfl rfl rfl rfl) rfl rfl ?_
                  refine G_val (V_pick_f rfl rfl rfl) rfl rfl (.none rfl) ?_
                  refine G_val (V_move rfl rfl) rfl rfl (.none rfl) ?_
                  refine G_val (V_move rfl rfl) rfl rfl (.yes rfl rfl rfl rfl) ?_
                  refine G_val (V_not rfl rfl) rfl rfl (.yes rfl rfl rfl rfl) ?_
                  refine G_val (V_pick_f rfl rfl rfl) rfl rfl (.none rfl) ?_
                  refine G_val (V_assign rfl rfl) rfl rfl (.none rfl) ?_
                  refine G_end (X_then ?_)
                  refine G_cond_f rfl (by simp [*]; done) ?_
                  refine G_seq (G_region ?_)
                  refine G_val (V_move rfl rfl) rfl rfl (.none rfl) ?_
                  refine G_val (V_eql rfl rfl rfl) rfl rfl (.none rfl) ?_
                  refine G_val (V_move rfl rfl) rfl rfl (.none rfl) ?_
                  refine G.bool_t 60 rfl (decide_eq_true (by omega)) ?_
                  refine G_val (V_move rfl rfl) rfl rfl (.yes rfl rfl rfl rfl) ?_
                  refine G_val (V_seql rfl rfl rfl) rfl rfl (.yes rfl rfl rfl rfl) ?_
                  refine G_val (V_pick_t rfl rfl rfl) rfl rfl (.none rfl) ?_
                  refine G_val (V_assign rfl rfl) rfl rfl (.none rfl) ?_
                  refine G_end (X_then ?_)
                  refine G_cond_f rfl (by simp [*]; done) ?_
                  refine G_seq (G_region ?_)
                  refine G_val (V_move rfl rfl) rfl rfl (.none rfl) ?_
                  refine G_val (V_eql rfl rfl rfl) rfl rfl (.none rfl) ?_
                  refine G_val (V_assign rfl rfl) rfl rfl (.none rfl) ?_
                  refine G_end (X_then ?_)
                  refine G_cond_t rfl (decide_eq_true (by omega)) ?_
                  refine G_seq (G_region ?_)
                  refine G_val (V_move rfl rfl) rfl rfl (.none rfl) ?_
                  refine G_call (k := 52) (.mk rfl rfl rfl rfl) rfl rfl (.none rfl) (unhex_call _ _ _ (by omega)) ?_
                  rintro r1 E2 L3 hE4 ⟨rfl, ⟨rfl, rfl⟩⟩
                  refine G_val (V_move rfl rfl) rfl rfl (.none rfl) ?_
                  refine G_val (V_extract rfl rfl rfl) rfl rfl (.none rfl) ?_
                  refine G_val (V_extract rfl rfl rfl) rfl rfl (.none rfl) ?_
                  refine G_val (V_assign rfl rfl) rfl rfl (.none rfl) ?_
                  refine G_val (V_assign rfl rfl) rfl rfl (.none rfl) ?_
                  refine G_end (X_then (G_seq (G_seq (G_region ?_))))
                  refine G_val (V_move rfl rfl) rfl rfl (.none rfl) ?_
                  refine G_val (V_not rfl rfl) rfl rfl (.none rfl) ?_
                  refine G_val (V_move rfl rfl) rfl rfl (.none rfl) ?_
                  refine G.bool_f 75 rfl (by simp [*]; done) ?_
                  refine G_val (V_move rfl rfl) rfl rfl (.yes rfl rfl rfl rfl) ?_
                  refine G_val (V_seql rfl rfl rfl) rfl rfl (.yes rfl rfl rfl rfl) ?_
                  refine G_val (V_pick_f rfl rfl rfl) rfl rfl (.none rfl) ?_
                  refine G_end (X_then ?_)
                  refine G_cond_f rfl (by simp [*]; done) ?_
                  refine G_skip (X_then (G_seq (G_seq (G_region ?_))))
                  refine G_val (V_move rfl rfl) rfl rfl (.none rfl) ?_
                  refine G_val (V_len rfl rfl) rfl rfl (.none rfl) ?_
                  refine G_val (V_gtr rfl rfl rfl) rfl rfl (.none rfl) ?_
                  refine G_end (X_then ?_)
                  refine G_cond rfl (fun H5 => ?_) (fun H5 => ?_)
                  · simp only [Bool.and_eq_true, Bool.or_eq_true, Bool.not_eq_true', Bool.not_eq_false', Bool.and_eq_false_iff, Bool.or_eq_false_iff, Bool.not_not, decide_eq_true_eq, decide_eq_false_iff_not, ne_eq, Decidable.not_not, Bool.decide_eq_true] at H5
                    refine G_seq (G_region ?_)
                    refine G_val (V_build rfl rfl (by simp [fillV, setLs, setL, Value.cells]; rfl)) rfl rfl (.none rfl) ?_
                    refine G_storeA rfl rfl rfl rfl (by simp [Value.oneCell']) rfl (.none rfl) (.tail _ (.head _ _ _)) rfl ?_
                    refine G_val (V_assign rfl rfl) rfl rfl (.none rfl) ?_
                    refine G_end (X_then (G_ret (X_then_ret (X_block_ret (X_then_ret ?_)))))
                    refine G_leaveS (.drop _ (.drop _ (.nil _))) (by exact (.cons (.cellA rfl (Cells.own (.tail _ (.head _))) rfl) (.cons (.tmp rfl) (.nil)))) rfl ?_ ?_
                    · exact (.refl _)
                    exact ⟨(by kernel_rfl), ⟨rfl, rfl⟩⟩
                  simp only [Bool.and_eq_true, Bool.or_eq_true, Bool.not_eq_true', Bool.not_eq_false', Bool.and_eq_false_iff, Bool.or_eq_false_iff, Bool.not_not, decide_eq_true_eq, decide_eq_false_iff_not, ne_eq, Decidable.not_not, Bool.decide_eq_true] at H5
                  refine G_skip (X_then (G_seq (G_region ?_)))
                  refine G_val (V_move rfl rfl) rfl rfl (.none rfl) ?_
                  refine G_val (V_fieldAddr rfl rfl (by decide)) rfl rfl (.none rfl) ?_
                  refine G_storeAt rfl rfl rfl rfl rfl rfl (.none rfl) (.head _ _ _) (Nat.le_of_ble_eq_true rfl) (by simp only [putAll, Nat.zero_add, Nat.reduceAdd, List.setIfInBounds_toArray, List.set_cons_succ, List.set_cons_zero]; rfl) ?_
                  refine G_end (X_then (G_seq (G_region ?_)))
                  refine G_val (V_loadA rfl rfl (Cells.own (.head _)) rfl) rfl rfl (.none rfl) ?_
                  refine G_storeA rfl rfl rfl rfl (by simp [Value.oneCell']) rfl (.none rfl) (.tail _ (.head _ _ _)) rfl ?_
                  refine G_val (V_assign rfl rfl) rfl rfl (.none rfl) ?_
                  refine G_end (X_then (G_ret (X_block_ret (X_then_ret ?_))))
                  refine G_leaveS (.drop _ (.drop _ (.nil _))) (by exact (.cons (.cellA rfl (Cells.own (.tail _ (.head _))) rfl) (.cons (.tmp rfl) (.nil)))) rfl ?_ ?_
                  · exact (.refl _)
                  exact ⟨(by ((try simp only [resVal, hm, hr, hu, h1]); (repeat' split) <;> first | rfl | (exfalso; omega) | (simp_all; done) | (simp_all; omega))), ⟨(by rfl), (by rfl)⟩⟩
                · have e : lineM s = (⟨1, 0, t⟩, 0) := by rw [e0, feedM, if_neg h45, hu]; simp only [ht0, hlong, if_false]; rfl
                  rw [e]
                  refine G_seq (G_region ?_)
                  (refine G_alloc rfl rfl rfl (.none rfl) ?_; intro b2)
                  refine G_val (V_assign rfl rfl) rfl rfl (.none rfl) ?_
                  refine G_end (X_then (G_seq (G_region ?_)))
                  refine G_val (V_move rfl rfl) rfl rfl (.none rfl) ?_
                  refine G_callv (k := 51) (.mk rfl rfl rfl rfl) rfl rfl (.none rfl) (Cut1_call _ _ _ _ (by omega)) ?_
                  refine G_val (V_move rfl rfl) rfl rfl (.none rfl) ?_
                  refine G_val (V_extract rfl rfl rfl) rfl rfl (.none rfl) ?_
                  refine G_val (V_extract rfl rfl rfl) rfl rfl (.none rfl) ?_
                  refine G_val (V_extract rfl rfl rfl) rfl rfl (.none rfl) ?_
                  refine G_val (V_assign rfl rfl) rfl rfl (.none rfl) ?_
                  refine G_val (V_assign rfl rfl) rfl rfl (.none rfl) ?_
                  refine G_val (V_assign rfl rfl) rfl rfl (.none rfl) ?_
                  refine G_end (X_then (G_seq (G_region ?_)))
                  refine G_val (V_move rfl rfl) rfl rfl (.none rfl) ?_
                  refine G_callv (k := 18) (.mk rfl rfl rfl rfl) rfl rfl (.none rfl) (Kind_call _ _ _) ?_
                  refine G_val (V_move rfl rfl) rfl rfl (.none rfl) ?_
                  refine G_val (V_extract rfl rfl rfl) rfl rfl (.none rfl) ?_
                  refine G_val (V_extract rfl rfl rfl) rfl rfl (.none rfl) ?_
                  refine G_val (V_assign rfl rfl) rfl rfl (.none rfl) ?_
                  refine G_val (V_assign rfl rfl) rfl rfl (.none rfl) ?_
                  refine G_end (X_then (G_seq (G_region ?_)))
                  refine G_val (V_move rfl rfl) rfl rfl (.none rfl) ?_
                  refine G_val (V_build rfl rfl (by simp [fillV, setLs, setL, Value.cells]; rfl)) rfl rfl (.none rfl) ?_
                  (refine G_alloc rfl rfl rfl (.none rfl) ?_; intro b9)
                  refine G_storeA rfl rfl rfl rfl (by simp [Value.oneCell']) rfl (.none rfl) (.head _ _ _) rfl ?_
                  refine G_end (X_then (G_seq (G_block (G_seq (G_region ?_)))))
                  refine G_val (V_move rfl rfl) rfl rfl (.none rfl) ?_
                  refine G_val (V_neq rfl rfl rfl) rfl rfl (.none rfl) ?_
                  refine G_val (V_assign rfl rfl) rfl rfl (.none rfl) ?_
                  refine G_end (X_then ?_)
                  refine G_cond_f rfl (decide_eq_false (by omega)) ?_
                  refine G_seq (G_region ?_)
                  refine G_val (V_move rfl rfl) rfl rfl (.none rfl) ?_
                  refine G_val (V_neq rfl rfl rfl) rfl rfl (.none rfl) ?_
                  refine G_val (V_move rfl rfl) rfl rfl (.none rfl) ?_
                  refine G.bool_f 36 rfl (decide_eq_false (by omega)) ?_
                  refine G_stay (.no rfl rfl rfl rfl) rfl rfl ?_
                  refine G_stay (.no rfl rfl rfl rfl) rfl rfl ?_
                  refine G_val (V_pick_f rfl rfl rfl) rfl rfl (.none rfl) ?_
                  refine G_val (V_move rfl rfl) rfl rfl (.none rfl) ?_
                  refine G_stay (.no rfl rfl rfl rfl) rfl rfl ?_
                  refine G_stay (.no rfl rfl rfl rfl) rfl rfl ?_
                  refine G_val (V_pick_f rfl rfl rfl) rfl rfl (.none rfl) ?_
                  refine G_val (V_assign rfl rfl) rfl rfl (.none rfl) ?_
                  refine G_end (X_then ?_)
                  refine G_cond_f rfl rfl ?_
                  refine G_seq (G_region ?_)
                  refine G_val (V_move rfl rfl) rfl rfl (.none rfl) ?_
                  refine G_val (V_neq rfl rfl rfl) rfl rfl (.none rfl) ?_
                  refine G_val (V_move rfl rfl) rfl rfl (.none rfl) ?_
                  refine G.bool_f 48 rfl (decide_eq_false (by omega)) ?_
                  refine G_stay (.no rfl rfl rfl rfl) rfl rfl ?_
                  refine G_stay (.no rfl rfl rfl rfl) rfl rfl ?_
                  refine G_val (V_pick_f rfl rfl rfl) rfl rfl (.none rfl) ?_
                  refine G_val (V_move rfl rfl) rfl rfl (.none rfl) ?_
                  refine G_val (V_move rfl rfl) rfl rfl (.yes rfl rfl rfl rfl) ?_
                  refine G_val (V_not rfl rfl) rfl rfl (.yes rfl rfl rfl rfl) ?_
                  refine G_val (V_pick_f rfl rfl rfl) rfl rfl (.none rfl) ?_
                  refine G_val (V_assign rfl rfl) rfl rfl (.none rfl) ?_
                  refine G_end (X_then ?_)
                  refine G_cond_f rfl (by simp [*]; done) ?_
                  refine G_seq (G_region ?_)
                  refine G_val (V_move rfl rfl) rfl rfl (.none rfl) ?_
                  refine G_val (V_eql rfl rfl rfl) rfl rfl (.none rfl) ?_
                  refine G_val (V_move rfl rfl) rfl rfl (.none rfl) ?_
                  refine G.bool_t 60 rfl (decide_eq_true (by omega)) ?_
                  refine G_val (V_move rfl rfl) rfl rfl (.yes rfl rfl rfl rfl) ?_
                  refine G_val (V_seql rfl rfl rfl) rfl rfl (.yes rfl rfl rfl rfl) ?_
                  refine G_val (V_pick_t rfl rfl rfl) rfl rfl (.none rfl) ?_
                  refine G_val (V_assign rfl rfl) rfl rfl (.none rfl) ?_
                  refine G_end (X_then ?_)
                  refine G_cond_f rfl (by simp [*]; done) ?_
                  refine G_seq (G_region ?_)
                  refine G_val (V_move rfl rfl) rfl rfl (.none rfl) ?_
                  refine G_val (V_eql rfl rfl rfl) rfl rfl (.none rfl) ?_
                  refine G_val (V_assign rfl rfl) rfl rfl (.none rfl) ?_
                  refine G_end (X_then ?_)
                  refine G_cond_t rfl (decide_eq_true (by omega)) ?_
                  refine G_seq (G_region ?_)
                  refine G_val (V_move rfl rfl) rfl rfl (.none rfl) ?_
                  refine G_call (k := 52) (.mk rfl rfl rfl rfl) rfl rfl (.none rfl) (unhex_call _ _ _ (by omega)) ?_
                  rintro r1 E2 L3 hE4 ⟨rfl, ⟨rfl, rfl⟩⟩
                  refine G_val (V_move rfl rfl) rfl rfl (.none rfl) ?_
                  refine G_val (V_extract rfl rfl rfl) rfl rfl (.none rfl) ?_
                  refine G_val (V_extract rfl rfl rfl) rfl rfl (.none rfl) ?_
                  refine G_val (V_assign rfl rfl) rfl rfl (.none rfl) ?_
                  refine G_val (V_assign rfl rfl) rfl rfl (.none rfl) ?_
                  refine G_end (X_then (G_seq (G_seq (G_region ?_))))
                  refine G_val (V_move rfl rfl) rfl rfl (.none rfl) ?_
                  refine G_val (V_not rfl rfl) rfl rfl (.none rfl) ?_
                  refine G_val (V_move rfl rfl) rfl rfl (.none rfl) ?_
                  refine G.bool_f 75 rfl (by simp [*]; done) ?_
                  refine G_val (V_move rfl rfl) rfl rfl (.yes rfl rfl rfl rfl) ?_
                  refine G_val (V_seql rfl rfl rfl) rfl rfl (.yes rfl rfl rfl rfl) ?_
                  refine G_val (V_pick_f rfl rfl rfl) rfl rfl (.none rfl) ?_
                  refine G_end (X_then ?_)
                  refine G_cond_f rfl (by simp [*]; done) ?_
                  refine G_skip (X_then (G_seq (G_seq (G_region ?_))))
                  refine G_val (V_move rfl rfl) rfl rfl (.none rfl) ?_
                  refine G_val (V_len rfl rfl) rfl rfl (.none rfl) ?_
                  refine G_val (V_gtr rfl rfl rfl) rfl rfl (.none rfl) ?_
                  refine G_end (X_then ?_)
                  refine G_cond rfl (fun H5 => ?_) (fun H5 => ?_)
                  · simp only [Bool.and_eq_true, Bool.or_eq_true, Bool.not_eq_true', Bool.not_eq_false', Bool.and_eq_false_iff, Bool.or_eq_false_iff, Bool.not_not, decide_eq_true_eq, decide_eq_false_iff_not, ne_eq, Decidable.not_not, Bool.decide_eq_true] at H5
                    refine G_seq (G_region ?_)
                    refine G_val (V_build rfl rfl (by simp [fillV, setLs, setL, Value.cells]; rfl)) rfl rfl (.none rfl) ?_
                    refine G_storeA rfl rfl rfl rfl (by simp [Value.oneCell']) rfl (.none rfl) (.tail _ (.head _ _ _)) rfl ?_
                    refine G_val (V_assign rfl rfl) rfl rfl (.none rfl) ?_
                    refine G_end (X_then (G_ret (X_then_ret (X_block_ret (X_then_ret ?_)))))
                    refine G_leaveS (.drop _ (.drop _ (.nil _))) (by exact (.cons (.cellA rfl (Cells.own (.tail _ (.head _))) rfl) (.cons (.tmp rfl) (.nil)))) rfl ?_ ?_
                    · exact (.refl _)
                    exact ⟨(by ((try simp only [resVal, hm, hr, hu, h1]); (repeat' split) <;> first | rfl | (exfalso; omega) | (simp_all; done) | (simp_all; omega))), ⟨(by rfl), (by rfl)⟩⟩
                  simp only [Bool.and_eq_true, Bool.or_eq_true, Bool.not_eq_true', Bool.not_eq_false', Bool.and_eq_false_iff, Bool.or_eq_false_iff, Bool.not_not, decide_eq_true_eq, decide_eq_false_iff_not, ne_eq, Decidable.not_not, Bool.decide_eq_true] at H5
                  refine G_skip (X_then (G_seq (G_region ?_)))
                  refine G_val (V_move rfl rfl) rfl rfl (.none rfl) ?_
                  refine G_val (V_fieldAddr rfl rfl (by decide)) rfl rfl (.none rfl) ?_
                  refine G_storeAt rfl rfl rfl rfl rfl rfl (.none rfl) (.head _ _ _) (Nat.le_of_ble_eq_true rfl) (by simp only [putAll, Nat.zero_add, Nat.reduceAdd, List.setIfInBounds_toArray, List.set_cons_succ, List.set_cons_zero]; rfl) ?_
                  refine G_end (X_then (G_seq (G_region ?_)))
                  refine G_val (V_loadA rfl rfl (Cells.own (.head _)) rfl) rfl rfl (.none rfl) ?_
                  refine G_storeA rfl rfl rfl rfl (by simp [Value.oneCell']) rfl (.none rfl) (.tail _ (.head _ _ _)) rfl ?_
                  refine G_val (V_assign rfl rfl) rfl rfl (.none rfl) ?_
                  refine G_end (X_then (G_ret (X_block_ret (X_then_ret ?_))))
                  refine G_leaveS (.drop _ (.drop _ (.nil _))) (by exact (.cons (.cellA rfl (Cells.own (.tail _ (.head _))) rfl) (.cons (.tmp rfl) (.nil)))) rfl ?_ ?_
                  · exact (.refl _)
                  exact ⟨(by (simp (discharger := omega) only [resVal, hm, hr, hu, h1, if_pos, if_neg]; first | done | rfl)), ⟨(by rfl), (by rfl)⟩⟩
        · have h3 : (kindM (cutB 32 s).1).1 = 3 := by omega
          have e0 : lineM s = if (numM r).2 ≠ 0 then (Cl.zero, (numM r).2) else (⟨3, (numM r).1, []⟩, 0) := by rw [lineM, if_neg (by omega), if_neg h13, if_neg (by rw [hm]; decide), if_neg h1, hr]
          rcases num3_cases r with ⟨q1, q2⟩ | ⟨q1, q2⟩ | ⟨n, hn, q1, q2⟩
          · have e : lineM s = (⟨0, 0, []⟩, 3) := by rw [e0, q1]; rfl
            rw [e]
            refine G_seq (G_region ?_)
            (refine G_alloc rfl rfl rfl (.none rfl) ?_; intro b2)
            refine G_val (V_assign rfl rfl) rfl rfl (.none rfl) ?_
            refine G_end (X_then (G_seq (G_region ?_)))
            refine G_val (V_move rfl rfl) rfl rfl (.none rfl) ?_
            refine G_callv (k := 51) (.mk rfl rfl rfl rfl) rfl rfl (.none rfl) (Cut1_call _ _ _ _ (by omega)) ?_
            refine G_val (V_move rfl rfl) rfl rfl (.none rfl) ?_
            refine G_val (V_extract rfl rfl rfl) rfl rfl (.none rfl) ?_
            refine G_val (V_extract rfl rfl rfl) rfl rfl (.none rfl) ?_
            refine G_val (V_extract rfl rfl rfl) rfl rfl (.none rfl) ?_
            refine G_val (V_assign rfl rfl) rfl rfl (.none rfl) ?_
            refine G_val (V_assign rfl rfl) rfl rfl (.none rfl) ?_
            refine G_val (V_assign rfl rfl) rfl rfl (.none rfl) ?_
            refine G_end (X_then (G_seq (G_region ?_)))
            refine G_val (V_move rfl rfl) rfl rfl (.none rfl) ?_
            refine G_callv (k := 18) (.mk rfl rfl rfl rfl) rfl rfl (.none rfl) (Kind_call _ _ _) ?_
            refine G_val (V_move rfl rfl) rfl rfl (.none rfl) ?_
            refine G_val (V_extract rfl rfl rfl) rfl rfl (.none rfl) ?_
            refine G_val (V_extract rfl rfl rfl) rfl rfl (.none rfl) ?_
            refine G_val (V_assign rfl rfl) rfl rfl (.none rfl) ?_
            refine G_val (V_assign rfl rfl) rfl rfl (.none rfl) ?_
            refine G_end (X_then (G_seq (G_region ?_)))
            refine G_val (V_move rfl rfl) rfl rfl (.none rfl) ?_
            refine G_val (V_build rfl rfl (by simp [fillV, setLs, setL, Value.cells]; rfl)) rfl rfl (.none rfl) ?_
            (refine G_alloc rfl rfl rfl (.none rfl) ?_; intro b9)
            refine G_storeA rfl rfl rfl rfl (by simp [Value.oneCell']) rfl (.none rfl) (.head _ _ _) rfl ?_
            refine G_end (X_then (G_seq (G_block (G_seq (G_region ?_)))))
            refine G_val (V_move rfl rfl) rfl rfl (.none rfl) ?_
            refine G_val (V_neq rfl rfl rfl) rfl rfl (.none rfl) ?_
            refine G_val (V_assign rfl rfl) rfl rfl (.none rfl) ?_
            refine G_end (X_then ?_)
            refine G_cond_f rfl (decide_eq_false (by omega)) ?_
            refine G_seq (G_region ?_)
            refine G_val (V_move rfl rfl) rfl rfl (.none rfl) ?_
            refine G_val (V_neq rfl rfl rfl) rfl rfl (.none rfl) ?_
            refine G_val (V_move rfl rfl) rfl rfl (.none rfl) ?_
            refine G.bool_t 36 rfl (decide_eq_true (by omega)) ?_
            refine G_val (V_move rfl rfl) rfl rfl (.yes rfl rfl rfl rfl) ?_
            refine G_val (V_neq rfl rfl rfl) rfl rfl (.yes rfl rfl rfl rfl) ?_
            refine G_val (V_pick_t rfl rfl rfl) rfl rfl (.none rfl) ?_
            refine G_val (V_move rfl rfl) rfl rfl (.none rfl) ?_
            refine G.bool_f 40 rfl (decide_eq_false (by omega)) ?_
            refine G_stay (.no rfl rfl rfl rfl) rfl rfl ?_
            refine G_stay (.no rfl rfl rfl rfl) rfl rfl ?_
            refine G_val (V_pick_f rfl rfl rfl) rfl rfl (.none rfl) ?_
            refine G_val (V_assign rfl rfl) rfl rfl (.none rfl) ?_
            refine G_end (X_then ?_)
            refine G_cond_f rfl rfl ?_
            refine G_seq (G_region ?_)
            refine G_val (V_move rfl rfl) rfl rfl (.none rfl) ?_
            refine G_val (V_neq rfl rfl rfl) rfl rfl (.none rfl) ?_
            refine G_val (V_move rfl rfl) rfl rfl (.none rfl) ?_
            refine G.bool_t 48 rfl (decide_eq_true (by omega)) ?_
            refine G_val (V_move rfl rfl) rfl rfl (.yes rfl rfl rfl rfl) ?_
            refine G_val (V_neq rfl rfl rfl) rfl rfl (.yes rfl rfl rfl rfl) ?_
            refine G_val (V_pick_t rfl rfl rfl) rfl rfl (.none rfl) ?_
            refine G_val (V_move rfl rfl) rfl rfl (.none rfl) ?_
            refine G.bool_f 52 rfl (decide_eq_false (by omega)) ?_
            refine G_val (V_move rfl rfl) rfl rfl (.yes rfl rfl rfl rfl) ?_
            refine G_val (V_not rfl rfl) rfl rfl (.yes rfl rfl rfl rfl) ?_
            refine G_val (V_pick_f rfl rfl rfl) rfl rfl (.none rfl) ?_
            refine G_val (V_assign rfl rfl) rfl rfl (.none rfl) ?_
            refine G_end (X_then ?_)
            refine G_cond_f rfl (by simp [*]; done) ?_
            refine G_seq (G_region ?_)
            refine G_val (V_move rfl rfl) rfl rfl (.none rfl) ?_
            refine G_val (V_eql rfl rfl rfl) rfl rfl (.none rfl) ?_
            refine G_val (V_move rfl rfl) rfl rfl (.none rfl) ?_
            refine G.bool_f 60 rfl (decide_eq_false (by omega)) ?_
            refine G_stay (.no rfl rfl rfl rfl) rfl rfl ?_
            refine G_stay (.no rfl rfl rfl rfl) rfl rfl ?_
            refine G_val (V_pick_f rfl rfl rfl) rfl rfl (.none rfl) ?_
            refine G_val (V_assign rfl rfl) rfl rfl (.none rfl) ?_
            refine G_end (X_then ?_)
            refine G_cond_f rfl rfl ?_
            refine G_seq (G_region ?_)
            refine G_val (V_move rfl rfl) rfl rfl (.none rfl) ?_
            refine G_val (V_eql rfl rfl rfl) rfl rfl (.none rfl) ?_
            refine G_val (V_assign rfl rfl) rfl rfl (.none rfl) ?_
            refine G_end (X_then ?_)
            refine G_cond_f rfl (decide_eq_false (by omega)) ?_
            refine G_skip (X_block (X_then (G_seq (G_region ?_))))
            refine G_val (V_move rfl rfl) rfl rfl (.none rfl) ?_
            refine G_callv (k := 53) (.mk rfl rfl rfl rfl) rfl rfl (.none rfl) (number_call _ _ _ (by omega)) ?_
            refine G_val (V_move rfl rfl) rfl rfl (.none rfl) ?_
            refine G_val (V_extract rfl rfl rfl) rfl rfl (.none rfl) ?_
            refine G_val (V_extract rfl rfl rfl) rfl rfl (.none rfl) ?_
            refine G_val (V_extract rfl rfl rfl) rfl rfl (.none rfl) ?_
            refine G_val (V_assign rfl rfl) rfl rfl (.none rfl) ?_
            refine G_val (V_assign rfl rfl) rfl rfl (.none rfl) ?_
            refine G_val (V_assign rfl rfl) rfl rfl (.none rfl) ?_
            refine G_end (X_then (G_seq (G_seq (G_region ?_))))
            refine G_val (V_move rfl rfl) rfl rfl (.none rfl) ?_
            refine G_val (V_not rfl rfl) rfl rfl (.none rfl) ?_
            refine G_end (X_then ?_)
            refine G_cond_t rfl (by simp [*]; done) ?_
            refine G_seq (G_region ?_)
            refine G_val (V_build rfl rfl (by simp [fillV, setLs, setL, Value.cells]; rfl)) rfl rfl (.none rfl) ?_
            refine G_storeA rfl rfl rfl rfl (by simp [Value.oneCell']) rfl (.none rfl) (.tail _ (.head _ _ _)) rfl ?_
            refine G_val (V_assign rfl rfl) rfl rfl (.none rfl) ?_
            refine G_end (X_then (G_ret (X_then_ret ?_)))
            refine G_leaveS (.drop _ (.drop _ (.nil _))) (by exact (.cons (.cellA rfl (Cells.own (.tail _ (.head _))) rfl) (.cons (.tmp rfl) (.nil)))) rfl ?_ ?_
            · exact (.refl _)
            exact ⟨(by kernel_rfl), ⟨rfl, rfl⟩⟩
          · have e : lineM s = (⟨0, 0, []⟩, 2) := by rw [e0, q1]; rfl
            rw [e]
            refine G_seq (G_region ?_)
            (refine G_alloc rfl rfl rfl (.none rfl) ?_; intro b2)
            refine G_val (V_assign rfl rfl) rfl rfl (.none rfl) ?_
            refine G_end (X_then (G_seq (G_region ?_)))
            refine G_val (V_move rfl rfl) rfl rfl (.none rfl) ?_
            refine G_callv (k := 51) (.mk rfl rfl rfl rfl) rfl rfl (.none rfl) (Cut1_call _ _ _ _ (by omega)) ?_
            refine G_val (V_move rfl rfl) rfl rfl (.none rfl) ?_
            refine G_val (V_extract rfl rfl rfl) rfl rfl (.none rfl) ?_
            refine G_val (V_extract rfl rfl rfl) rfl rfl (.none rfl) ?_
            refine G_val (V_extract rfl rfl rfl) rfl rfl (.none rfl) ?_
            refine G_val (V_assign rfl rfl) rfl rfl (.none rfl) ?_
            refine G_val (V_assign rfl rfl) rfl rfl (.none rfl) ?_
            refine G_val (V_assign rfl rfl) rfl rfl (.none rfl) ?_
            refine G_end (X_then (G_seq (G_region ?_)))
            refine G_val (V_move rfl rfl) rfl rfl (.none rfl) ?_
            refine G_callv (k := 18) (.mk rfl rfl rfl rfl) rfl rfl (.none rfl) (Kind_call _ _ _) ?_
            refine G_val (V_move rfl rfl) rfl rfl (.none rfl) ?_
            refine G_val (V_extract rfl rfl rfl) rfl rfl (.none rfl) ?_
            refine G_val (V_extract rfl rfl rfl) rfl rfl (.none rfl) ?_
            refine G_val (V_assign rfl rfl) rfl rfl (.none rfl) ?_
            refine G_val (V_assign rfl rfl) rfl rfl (.none rfl) ?_
            refine G_end (X_then (G_seq (G_region ?_)))
            refine G_val (V_move rfl rfl) rfl rfl (.none rfl) ?_
            refine G_val (V_build rfl rfl (by simp [fillV, setLs, setL, Value.cells]; rfl)) rfl rfl (.none rfl) ?_
            (refine G_alloc rfl rfl rfl (.none rfl) ?_; intro b9)
            refine G_storeA rfl rfl rfl rfl (by simp [Value.oneCell']) rfl (.none rfl) (.head _ _ _) rfl ?_
            refine G_end (X_then (G_seq (G_block (G_seq (G_region ?_)))))
            refine G_val (V_move rfl rfl) rfl rfl (.none rfl) ?_
            refine G_val (V_neq rfl rfl rfl) rfl rfl (.none rfl) ?_
            refine G_val (V_assign rfl rfl) rfl rfl (.none rfl) ?_
            refine G_end (X_then ?_)
            refine G_cond_f rfl (decide_eq_false (by omega)) ?_
            refine G_seq (G_region ?_)
            refine G_val (V_move rfl rfl) rfl rfl (.none rfl) ?_
            refine G_val (V_neq rfl rfl rfl) rfl rfl (.none rfl) ?_
            refine G_val (V_move rfl rfl) rfl rfl (.none rfl) ?_
            refine G.bool_t 36 rfl (decide_eq_true (by omega)) ?_
            refine G_val (V_move rfl rfl) rfl rfl (.yes rfl rfl rfl rfl) ?_
            refine G_val (V_neq rfl rfl rfl) rfl rfl (.yes rfl rfl rfl rfl) ?_
            refine G_val (V_pick_t rfl rfl rfl) rfl rfl (.none rfl) ?_
            refine G_val (V_move rfl rfl) rfl rfl (.none rfl) ?_
            refine G.bool_f 40 rfl (decide_eq_false (by omega)) ?_
            refine G_stay (.no rfl rfl rfl rfl) rfl rfl ?_
            refine G_stay (.no rfl rfl rfl rfl) rfl rfl ?_
            refine G_val (V_pick_f rfl rfl rfl) rfl rfl (.none rfl) ?_
            refine G_val (V_assign rfl rfl) rfl rfl (.none rfl) ?_
            refine G_end (X_then ?_)
            refine G_cond_f rfl rfl ?_
            refine G_seq (G_region ?_)
            refine G_val (V_move rfl rfl) rfl rfl (.none rfl) ?_
            refine G_val (V_neq rfl rfl rfl) rfl rfl (.none rfl) ?_
            refine G_val (V_move rfl rfl) rfl rfl (.none rfl) ?_
            refine G.bool_t 48 rfl (decide_eq_true (by omega)) ?_
            refine G_val (V_move rfl rfl) rfl rfl (.yes rfl rfl rfl rfl) ?_
            refine G_val (V_neq rfl rfl rfl) rfl rfl (.yes rfl rfl rfl rfl) ?_
            refine G_val (V_pick_t rfl rfl rfl) rfl rfl (.none rfl) ?_
            refine G_val (V_move rfl rfl) rfl rfl (.none rfl) ?_
            refine G.bool_f 52 rfl (decide_eq_false (by omega)) ?_
            refine G_val (V_move rfl rfl) rfl rfl (.yes rfl rfl rfl rfl) ?_
            refine G_val (V_not rfl rfl) rfl rfl (.yes rfl rfl rfl rfl) ?_
            refine G_val (V_pick_f rfl rfl rfl) rfl rfl (.none rfl) ?_
            refine G_val (V_assign rfl rfl) rfl rfl (.none rfl) ?_
            refine G_end (X_then ?_)
            refine G_cond_f rfl (by simp [*]; done) ?_
            refine G_seq (G_region ?_)
            refine G_val (V_move rfl rfl) rfl rfl (.none rfl) ?_
            refine G_val (V_eql rfl rfl rfl) rfl rfl (.none rfl) ?_
            refine G_val (V_move rfl rfl) rfl rfl (.none rfl) ?_
            refine G.bool_f 60 rfl (decide_eq_false (by omega)) ?_
            refine G_stay (.no rfl rfl rfl rfl) rfl rfl ?_
            refine G_stay (.no rfl rfl rfl rfl) rfl rfl ?_
            refine G_val (V_pick_f rfl rfl rfl) rfl rfl (.none rfl) ?_
            refine G_val (V_assign rfl rfl) rfl rfl (.none rfl) ?_
            refine G_end (X_then ?_)
            refine G_cond_f rfl rfl ?_
            refine G_seq (G_region ?_)
            refine G_val (V_move rfl rfl) rfl rfl (.none rfl) ?_
            refine G_val (V_eql rfl rfl rfl) rfl rfl (.none rfl) ?_
            refine G_val (V_assign rfl rfl) rfl rfl (.none rfl) ?_
            refine G_end (X_then ?_)
            refine G_cond_f rfl (decide_eq_false (by omega)) ?_
            refine G_skip (X_block (X_then (G_seq (G_region ?_))))
            refine G_val (V_move rfl rfl) rfl rfl (.none rfl) ?_
            refine G_callv (k := 53) (.mk rfl rfl rfl rfl) rfl rfl (.none rfl) (number_call _ _ _ (by omega)) ?_
            refine G_val (V_move rfl rfl) rfl rfl (.none rfl) ?_
            refine G_val (V_extract rfl rfl rfl) rfl rfl (.none rfl) ?_
            refine G_val (V_extract rfl rfl rfl) rfl rfl (.none rfl) ?_
            refine G_val (V_extract rfl rfl rfl) rfl rfl (.none rfl) ?_
            refine G_val (V_assign rfl rfl) rfl rfl (.none rfl) ?_
            refine G_val (V_assign rfl rfl) rfl rfl (.none rfl) ?_
            refine G_val (V_assign rfl rfl) rfl rfl (.none rfl) ?_
            refine G_end (X_then (G_seq (G_seq (G_region ?_))))
            refine G_val (V_move rfl rfl) rfl rfl (.none rfl) ?_
            refine G_val (V_not rfl rfl) rfl rfl (.none rfl) ?_
            refine G_end (X_then ?_)
            refine G_cond_f rfl (by simp [*]; done) ?_
            refine G_skip (X_then (G_seq (G_seq (G_region ?_))))
            refine G_val (V_move rfl rfl) rfl rfl (.none rfl) ?_
            refine G_end (X_then ?_)
            refine G_cond_t rfl (by simp [*]; done) ?_
            refine G_seq (G_region ?_)
            refine G_val (V_build rfl rfl (by simp [fillV, setLs, setL, Value.cells]; rfl)) rfl rfl (.none rfl) ?_
            refine G_storeA rfl rfl rfl rfl (by simp [Value.oneCell']) rfl (.none rfl) (.tail _ (.head _ _ _)) rfl ?_
            refine G_val (V_assign rfl rfl) rfl rfl (.none rfl) ?_
            refine G_end (X_then (G_ret (X_then_ret ?_)))
            refine G_leaveS (.drop _ (.drop _ (.nil _))) (by exact (.cons (.cellA rfl (Cells.own (.tail _ (.head _))) rfl) (.cons (.tmp rfl) (.nil)))) rfl ?_ ?_
            · exact (.refl _)
            exact ⟨(by kernel_rfl), ⟨rfl, rfl⟩⟩
          · have e : lineM s = (⟨3, n, []⟩, 0) := by rw [e0, q1]; rfl
            rw [e]
            refine G_seq (G_region ?_)
            (refine G_alloc rfl rfl rfl (.none rfl) ?_; intro b2)
            refine G_val (V_assign rfl rfl) rfl rfl (.none rfl) ?_
            refine G_end (X_then (G_seq (G_region ?_)))
            refine G_val (V_move rfl rfl) rfl rfl (.none rfl) ?_
            refine G_callv (k := 51) (.mk rfl rfl rfl rfl) rfl rfl (.none rfl) (Cut1_call _ _ _ _ (by omega)) ?_
            refine G_val (V_move rfl rfl) rfl rfl (.none rfl) ?_
            refine G_val (V_extract rfl rfl rfl) rfl rfl (.none rfl) ?_
            refine G_val (V_extract rfl rfl rfl) rfl rfl (.none rfl) ?_
            refine G_val (V_extract rfl rfl rfl) rfl rfl (.none rfl) ?_
            refine G_val (V_assign rfl rfl) rfl rfl (.none rfl) ?_
            refine G_val (V_assign rfl rfl) rfl rfl (.none rfl) ?_
            refine G_val (V_assign rfl rfl) rfl rfl (.none rfl) ?_
            refine G_end (X_then (G_seq (G_region ?_)))
            refine G_val (V_move rfl rfl) rfl rfl (.none rfl) ?_
            refine G_callv (k := 18) (.mk rfl rfl rfl rfl) rfl rfl (.none rfl) (Kind_call _ _ _) ?_
            refine G_val (V_move rfl rfl) rfl rfl (.none rfl) ?_
            refine G_val (V_extract rfl rfl rfl) rfl rfl (.none rfl) ?_
            refine G_val (V_extract rfl rfl rfl) rfl rfl (.none rfl) ?_
            refine G_val (V_assign rfl rfl) rfl rfl (.none rfl) ?_
            refine G_val (V_assign rfl rfl) rfl rfl (.none rfl) ?_
            refine G_end (X_then (G_seq (G_region ?_)))
            refine G_val (V_move rfl rfl) rfl rfl (.none rfl) ?_
            refine G_val (V_build rfl rfl (by simp [fillV, setLs, setL, Value.cells]; rfl)) rfl rfl (.none rfl) ?_
            (refine G_alloc rfl rfl rfl (.none rfl) ?_; intro b9)
            refine G_storeA rfl rfl rfl rfl (by simp [Value.oneCell']) rfl (.none rfl) (.head _ _ _) rfl ?_
            refine G_end (X_then (G_seq (G_block (G_seq (G_region ?_)))))
            refine G_val (V_move rfl rfl) rfl rfl (.none rfl) ?_
            refine G_val (V_neq rfl rfl rfl) rfl rfl (.none rfl) ?_
            refine G_val (V_assign rfl rfl) rfl rfl (.none rfl) ?_
            refine G_end (X_then ?_)
            refine G_cond_f rfl (decide_eq_false (by omega)) ?_
            refine G_seq (G_region ?_)
            refine G_val (V_move rfl rfl) rfl rfl (.none rfl) ?_
            refine G_val (V_neq rfl rfl rfl) rfl rfl (.none rfl) ?_
            refine G_val (V_move rfl rfl) rfl rfl (.none rfl) ?_
            refine G.bool_t 36 rfl (decide_eq_true (by omega)) ?_
            refine G_val (V_move rfl rfl) rfl rfl (.yes rfl rfl rfl rfl) ?_
            refine G_val (V_neq rfl rfl rfl) rfl rfl (.yes rfl rfl rfl rfl) ?_
            refine G_val (V_pick_t rfl rfl rfl) rfl rfl (.none rfl) ?_
            refine G_val (V_move rfl rfl) rfl rfl (.none rfl) ?_
            refine G.bool_f 40 rfl (decide_eq_false (by omega)) ?_
            refine G_stay (.no rfl rfl rfl rfl) rfl rfl ?_
            refine G_stay (.no rfl rfl rfl rfl) rfl rfl ?_
            refine G_val (V_pick_f rfl rfl rfl) rfl rfl (.none rfl) ?_
            refine G_val (V_assign rfl rfl) rfl rfl (.none rfl) ?_
            refine G_end (X_then ?_)
            refine G_cond_f rfl rfl ?_
            refine G_seq (G_region ?_)
            refine G_val (V_move rfl rfl) rfl rfl (.none rfl) ?_
            refine G_val (V_neq rfl rfl rfl) rfl rfl (.none rfl) ?_
            refine G_val (V_move rfl rfl) rfl rfl (.none rfl) ?_
            refine G.bool_t 48 rfl (decide_eq_true (by omega)) ?_
            refine G_val (V_move rfl rfl) rfl rfl (.yes rfl rfl rfl rfl) ?_
            refine G_val (V_neq rfl rfl rfl) rfl rfl (.yes rfl rfl rfl rfl) ?_
            refine G_val (V_pick_t rfl rfl rfl) rfl rfl (.none rfl) ?_
            refine G_val (V_move rfl rfl) rfl rfl (.none rfl) ?_
            refine G.bool_f 52 rfl (decide_eq_false (by omega)) ?_
            refine G_val (V_move rfl rfl) rfl rfl (.yes rfl rfl rfl rfl) ?_
            refine G_val (V_not rfl rfl) rfl rfl (.yes rfl rfl rfl rfl) ?_
            refine G_val (V_pick_f rfl rfl rfl) rfl rfl (.none rfl) ?_
            refine G_val (V_assign rfl rfl) rfl rfl (.none rfl) ?_
            refine G_end (X_then ?_)
            refine G_cond_f rfl (by simp [*]; done) ?_
            refine G_seq (G_region ?_)
            refine G_val (V_move rfl rfl) rfl rfl (.none rfl) ?_
            refine G_val (V_eql rfl rfl rfl) rfl rfl (.none rfl) ?_
            refine G_val (V_move rfl rfl) rfl rfl (.none rfl) ?_
            refine G.bool_f 60 rfl (decide_eq_false (by omega)) ?_
            refine G_stay (.no rfl rfl rfl rfl) rfl rfl ?_
            refine G_stay (.no rfl rfl rfl rfl) rfl rfl ?_
            refine G_val (V_pick_f rfl rfl rfl) rfl rfl (.none rfl) ?_
            refine G_val (V_assign rfl rfl) rfl rfl (.none rfl) ?_
            refine G_end (X_then ?_)
            refine G_cond_f rfl rfl ?_
            refine G_seq (G_region ?_)
            refine G_val (V_move rfl rfl) rfl rfl (.none rfl) ?_
            refine G_val (V_eql rfl rfl rfl) rfl rfl (.none rfl) ?_
            refine G_val (V_assign rfl rfl) rfl rfl (.none rfl) ?_
            refine G_end (X_then ?_)
            refine G_cond_f rfl (decide_eq_false (by omega)) ?_
            refine G_skip (X_block (X_then (G_seq (G_region ?_))))
            refine G_val (V_move rfl rfl) rfl rfl (.none rfl) ?_
            refine G_callv (k := 53) (.mk rfl rfl rfl rfl) rfl rfl (.none rfl) (number_call _ _ _ (by omega)) ?_
            refine G_val (V_move rfl rfl) rfl rfl (.none rfl) ?_
            refine G_val (V_extract rfl rfl rfl) rfl rfl (.none rfl) ?_
            refine G_val (V_extract rfl rfl rfl) rfl rfl (.none rfl) ?_
            refine G_val (V_extract rfl rfl rfl) rfl rfl (.none rfl) ?_
            refine G_val (V_assign rfl rfl) rfl rfl (.none rfl) ?_
            refine G_val (V_assign rfl rfl) rfl rfl (.none rfl) ?_
            refine G_val (V_assign rfl rfl) rfl rfl (.none rfl) ?_
            refine G_end (X_then (G_seq (G_seq (G_region ?_))))
            refine G_val (V_move rfl rfl) rfl rfl (.none rfl) ?_
            refine G_val (V_not rfl rfl) rfl rfl (.none rfl) ?_
            refine G_end (X_then ?_)
            refine G_cond_f rfl (by simp [*]; done) ?_
            refine G_skip (X_then (G_seq (G_seq (G_region ?_))))
            refine G_val (V_move rfl rfl) rfl rfl (.none rfl) ?_
            refine G_end (X_then ?_)
            refine G_cond_f rfl (by simp [*]; done) ?_
            refine G_skip (X_then (G_seq (G_region ?_)))
            refine G_val (V_move rfl rfl) rfl rfl (.none rfl) ?_
            refine G_val (V_fieldAddr rfl rfl (by decide)) rfl rfl (.none rfl) ?_
            refine G_storeAt rfl rfl rfl rfl rfl rfl (.none rfl) (.head _ _ _) (Nat.le_of_ble_eq_true rfl) (by simp only [putAll, Nat.zero_add, Nat.reduceAdd, List.setIfInBounds_toArray, List.set_cons_succ, List.set_cons_zero]; rfl) ?_
            refine G_end (X_then (G_seq (G_region ?_)))
            refine G_val (V_loadA rfl rfl (Cells.own (.head _)) rfl) rfl rfl (.none rfl) ?_
            refine G_storeA rfl rfl rfl rfl (by simp [Value.oneCell']) rfl (.none rfl) (.tail _ (.head _ _ _)) rfl ?_
            refine G_val (V_assign rfl rfl) rfl rfl (.none rfl) ?_
            refine G_end (X_then (G_ret ?_))
            refine G_leaveS (.drop _ (.drop _ (.nil _))) (by exact (.cons (.cellA rfl (Cells.own (.tail _ (.head _))) rfl) (.cons (.tmp rfl) (.nil)))) rfl ?_ ?_
            · exact (.refl _)
            exact ⟨(by (simp (discharger := omega) only [resVal, hm, hr, q2, h3, if_pos, if_neg]; first | done | rfl)), ⟨(by rfl), (by rfl)⟩⟩
  · have e : lineM s = (⟨0, 0, []⟩, (kindM (cutB 32 s).1).2) := by rw [lineM, if_pos he]; rfl
    rw [e]
    refine G_seq (G_region ?_)
    (refine G_alloc rfl rfl rfl (.none rfl) ?_; intro b2)
    refine G_val (V_assign rfl rfl) rfl rfl (.none rfl) ?_
    refine G_end (X_then (G_seq (G_region ?_)))
    refine G_val (V_move rfl rfl) rfl rfl (.none rfl) ?_
    refine G_callv (k := 51) (.mk rfl rfl rfl rfl) rfl rfl (.none rfl) (Cut1_call _ _ _ _ (by omega)) ?_
    refine G_val (V_move rfl rfl) rfl rfl (.none rfl) ?_
    refine G_val (V_extract rfl rfl rfl) rfl rfl (.none rfl) ?_
    refine G_val (V_extract rfl rfl rfl) rfl rfl (.none rfl) ?_
    refine G_val (V_extract rfl rfl rfl) rfl rfl (.none rfl) ?_
    refine G_val (V_assign rfl rfl) rfl rfl (.none rfl) ?_
    refine G_val (V_assign rfl rfl) rfl rfl (.none rfl) ?_
    refine G_val (V_assign rfl rfl) rfl rfl (.none rfl) ?_
    refine G_end (X_then (G_seq (G_region ?_)))
    refine G_val (V_move rfl rfl) rfl rfl (.none rfl) ?_
    refine G_callv (k := 18) (.mk rfl rfl rfl rfl) rfl rfl (.none rfl) (Kind_call _ _ _) ?_
    refine G_val (V_move rfl rfl) rfl rfl (.none rfl) ?_
    refine G_val (V_extract rfl rfl rfl) rfl rfl (.none rfl) ?_
    refine G_val (V_extract rfl rfl rfl) rfl rfl (.none rfl) ?_
    refine G_val (V_assign rfl rfl) rfl rfl (.none rfl) ?_
    refine G_val (V_assign rfl rfl) rfl rfl (.none rfl) ?_
    refine G_end (X_then (G_seq (G_region ?_)))
    refine G_val (V_move rfl rfl) rfl rfl (.none rfl) ?_
    refine G_val (V_build rfl rfl (by simp [fillV, setLs, setL, Value.cells]; rfl)) rfl rfl (.none rfl) ?_
    (refine G_alloc rfl rfl rfl (.none rfl) ?_; intro b9)
    refine G_storeA rfl rfl rfl rfl (by simp [Value.oneCell']) rfl (.none rfl) (.head _ _ _) rfl ?_
    refine G_end (X_then (G_seq (G_block (G_seq (G_region ?_)))))
    refine G_val (V_move rfl rfl) rfl rfl (.none rfl) ?_
    refine G_val (V_neq rfl rfl rfl) rfl rfl (.none rfl) ?_
    refine G_val (V_assign rfl rfl) rfl rfl (.none rfl) ?_
    refine G_end (X_then ?_)
    refine G_cond_t rfl (decide_eq_true (by omega)) ?_
    refine G_seq (G_region ?_)
    refine G_val (V_build rfl rfl (by simp [fillV, setLs, setL, Value.cells]; rfl)) rfl rfl (.none rfl) ?_
    refine G_val (V_move rfl rfl) rfl rfl (.none rfl) ?_
    refine G_storeA rfl rfl rfl rfl (by simp [Value.oneCell']) rfl (.none rfl) (.tail _ (.head _ _ _)) rfl ?_
    refine G_val (V_assign rfl rfl) rfl rfl (.none rfl) ?_
    refine G_end (X_then (G_ret (X_block_ret (X_then_ret ?_))))
    refine G_leaveS (.drop _ (.drop _ (.nil _))) (by exact (.cons (.cellA rfl (Cells.own (.tail _ (.head _))) rfl) (.cons (.tmp rfl) (.nil)))) rfl ?_ ?_
    · exact (.refl _)
    exact ⟨rfl, ⟨rfl, rfl⟩⟩
theorem call_call (s : List UInt8) (hs : s.length ≤ 1000000) : CallS Tryd.prog 41 #[.string (S s)] E L (fun r E' L' => r = .tuple #[(lineM s).1.v, .int .i64 (lineM s).2] ∧ E = E' ∧ L' = L) := by
  refine CallS.intro (l := [_]) _ Tryd.func41 rfl Tryd.ntmps41 rfl ?_
  have hk := kindM_err (cutB 32 s).1
  have hcl := cutB_le 32 s
  refine G_seq (G_region ?_)
  (refine G_alloc rfl rfl rfl (.none rfl) ?_; intro b2)
  refine G_val (V_assign rfl rfl) rfl rfl (.none rfl) ?_
  refine G_end (X_then (G_seq (G_region ?_)))
  refine G_val (V_assign rfl rfl) rfl rfl (.none rfl) ?_
  refine G_end (X_then (G_seq (G_block ?_)))
  refine G_loop (α := Nat) (fun i => [(0, .string (S s)), (2, .pointer (some ⟨b2, 0, none⟩)), (4, .int .i64 i)]) (fun _ => E) (fun _ => .blk b2 (.cells #[.int .i64 0, .int .i64 0, .string (S [])] 41 (0, 0)) :: L) (fun i => i ≤ (cutB 32 s).1.length) (fun i => (cutB 32 s).1.length - i) 0 (Nat.zero_le _) ⟨rfl, rfl, rfl, trivial⟩ rfl rfl ?_
  intro i hi
  by_cases hlt : i < (cutB 32 s).1.length
  · have hx0 : s[(i : Int).toNat]? = some (s[i]'(by omega)) := List.getElem?_eq_getElem (by omega)
    have hne : ¬ ((s[i]'(by omega)).toNat : Int) = 32 := by
      have h1 := cutB_notin 32 s
      have h2 := cutB_take 32 s
      have h3 : (cutB 32 s).1[i] = s[i]'(by omega) := by
        have : ((s.take (cutB 32 s).1.length))[i]? = (cutB 32 s).1[i]? := by rw [h2]
        rw [List.getElem?_take_of_lt hlt, List.getElem?_eq_getElem (by omega), List.getElem?_eq_getElem hlt] at this
        exact (Option.some.inj this).symm
      intro h4
      have h5 : s[i]'(by omega) = 32 := UInt8.toNat_inj.1 (by have : (32 : UInt8).toNat = 32 := rfl; omega)
      have h6 := List.getElem_mem hlt
      rw [h3, h5] at h6
      exact h1 h6
    refine G_seq (G_seq (G_region ?_))
    refine G_val (V_move rfl rfl) rfl rfl (.none rfl) ?_
    refine G_val (V_move rfl rfl) rfl rfl (.none rfl) ?_
    refine G_val (V_len rfl rfl) rfl rfl (.none rfl) ?_
    refine G_val (V_lss rfl rfl rfl) rfl rfl (.none rfl) ?_
    refine G_val (V_move rfl rfl) rfl rfl (.none rfl) ?_
    refine G.bool_t 12 rfl (decide_eq_true (by omega)) ?_
    refine G_val (V_move rfl rfl) rfl rfl (.yes rfl rfl rfl rfl) ?_
    refine G_val (V_move rfl rfl) rfl rfl (.yes rfl rfl rfl rfl) ?_
    refine G_val (V_sidx rfl rfl rfl (by omega) (by assumption)) rfl rfl (.yes rfl rfl rfl rfl) ?_
    refine G_val (V_neq rfl rfl rfl) rfl rfl (.yes rfl rfl rfl rfl) ?_
    refine G_val (V_pick_t rfl rfl rfl) rfl rfl (.none rfl) ?_
    refine G_end (X_then ?_)
    refine G_cond_t rfl (decide_eq_true (by omega)) ?_
    refine G_skip (X_then (G_block (G_region ?_)))
    refine G_val (V_move rfl rfl) rfl rfl (.none rfl) ?_
    refine G_val (V_add_i64 rfl rfl rfl (by omega) (by omega)) rfl rfl (.none rfl) ?_
    refine G_val (V_assign rfl rfl) rfl rfl (.none rfl) ?_
    refine G_end (X_block (X_then ?_))
    exact G_again (i + 1) hlt (by omega) ⟨rfl, rfl, rfl, trivial⟩ rfl rfl
  · obtain rfl : i = (cutB 32 s).1.length := by omega
    have htk := cutB_take 32 s
    have e1 : s.take (((cutB 32 s).1.length : Nat) : Int).toNat = (cutB 32 s).1 := htk
    have e2 : s.drop ((((cutB 32 s).1.length : Nat) : Int) + 1).toNat = s.drop ((cutB 32 s).1.length + 1) := rfl
    cases hm : (cutB 32 s).2.2 with
    | false =>
      have hll : (cutB 32 s).1.length = s.length := congrArg List.length (cutB_none hm).1
      by_cases he : (kindM (cutB 32 s).1).2 = 0
      · obtain ⟨k1, k5, hkn⟩ := kindM_ok he
        have he2 := he; rw [← e1] at he2
        by_cases h13 : (kindM (cutB 32 s).1).1 ≠ 1 ∧ (kindM (cutB 32 s).1).1 ≠ 3
        · obtain ⟨h1, h3⟩ := h13
          have h12 := h1; rw [← e1] at h12
          have h32 := h3; rw [← e1] at h32
          have e : lineM s = (⟨(kindM (cutB 32 s).1).1, 0, []⟩, 0) := by rw [lineM, if_neg (by omega), if_pos ⟨h1, h3⟩, if_neg (by rw [hm]; decide)]
          rw [e]
          refine G_seq (G_seq (G_region ?_))
          refine G_val (V_move rfl rfl) rfl rfl (.none rfl) ?_
          refine G_val (V_move rfl rfl) rfl rfl (.none rfl) ?_
          refine G_val (V_len rfl rfl) rfl rfl (.none rfl) ?_
          refine G_val (V_lss rfl rfl rfl) rfl rfl (.none rfl) ?_
          refine G_val (V_move rfl rfl) rfl rfl (.none rfl) ?_
          refine G.bool_f 12 rfl (decide_eq_false (by omega)) ?_
          refine G_stay (.no rfl rfl rfl rfl) rfl rfl ?_
          refine G_stay (.no rfl rfl rfl rfl) rfl rfl ?_
          refine G_stay (.no rfl rfl rfl rfl) rfl rfl ?_
          refine G_stay (.no rfl rfl rfl rfl) rfl rfl ?_
          refine G_val (V_pick_f rfl rfl rfl) rfl rfl (.none rfl) ?_
          refine G_end (X_then ?_)
          refine G_cond_f rfl rfl ?_
          refine G_exit (X_then_exit (X_then_exit (X_block_hit (X_then (G_seq (G_region ?_))))))
          refine G_val (V_move rfl rfl) rfl rfl (.none rfl) ?_
          refine G_val (V_move rfl rfl) rfl rfl (.none rfl) ?_
          refine G_val (V_front rfl rfl rfl (by omega) (by omega)) rfl rfl (.none rfl) ?_
          refine G_callv (k := 19) (.mk rfl rfl rfl rfl) rfl rfl (.none rfl) (KindR_call _ _ _) ?_
          refine G_val (V_move rfl rfl) rfl rfl (.none rfl) ?_
          refine G_val (V_extract rfl rfl rfl) rfl rfl (.none rfl) ?_
          refine G_val (V_extract rfl rfl rfl) rfl rfl (.none rfl) ?_
          refine G_val (V_assign rfl rfl) rfl rfl (.none rfl) ?_
          refine G_val (V_assign rfl rfl) rfl rfl (.none rfl) ?_
          refine G_end (X_then (G_seq (G_seq (G_region ?_))))
          refine G_val (V_move rfl rfl) rfl rfl (.none rfl) ?_
          refine G_val (V_neq rfl rfl rfl) rfl rfl (.none rfl) ?_
          refine G_end (X_then ?_)
          refine G_cond_f rfl (decide_eq_false (by omega)) ?_
          refine G_skip (X_then (G_seq (G_region ?_)))
          refine G_val (V_move rfl rfl) rfl rfl (.none rfl) ?_
          refine G_val (V_build rfl rfl (by simp [fillV, setLs, setL, Value.cells]; rfl)) rfl rfl (.none rfl) ?_
          (refine G_alloc rfl rfl rfl (.none rfl) ?_; intro b7)
          refine G_storeA rfl rfl rfl rfl (by simp [Value.oneCell']) rfl (.none rfl) (.head _ _ _) rfl ?_
          refine G_end (X_then (G_seq (G_block (G_seq (G_region ?_)))))
          refine G_val (V_move rfl rfl) rfl rfl (.none rfl) ?_
          refine G_val (V_neq rfl rfl rfl) rfl rfl (.none rfl) ?_
          refine G_val (V_move rfl rfl) rfl rfl (.none rfl) ?_
          refine G.bool_t 45 rfl (decide_eq_true (by omega)) ?_
          refine G_val (V_move rfl rfl) rfl rfl (.yes rfl rfl rfl rfl) ?_
          refine G_val (V_neq rfl rfl rfl) rfl rfl (.yes rfl rfl rfl rfl) ?_
          refine G_val (V_pick_t rfl rfl rfl) rfl rfl (.none rfl) ?_
          refine G_val (V_assign rfl rfl) rfl rfl (.none rfl) ?_
          refine G_end (X_then ?_)
          refine G_cond_t rfl (decide_eq_true (by omega)) ?_
          refine G_seq (G_region ?_)
          refine G_val (V_move rfl rfl) rfl rfl (.none rfl) ?_
          refine G_val (V_move rfl rfl) rfl rfl (.none rfl) ?_
          refine G_val (V_len rfl rfl) rfl rfl (.none rfl) ?_
          refine G_val (V_neq rfl rfl rfl) rfl rfl (.none rfl) ?_
          refine G_end (X_then ?_)
          refine G_cond_f rfl (decide_eq_false (by omega)) ?_
          refine G_skip (X_block (X_then (G_seq (G_seq (G_region ?_)))))
          refine G_val (V_move rfl rfl) rfl rfl (.none rfl) ?_
          refine G_val (V_neq rfl rfl rfl) rfl rfl (.none rfl) ?_
          refine G_end (X_then ?_)
          refine G_cond_f rfl (decide_eq_false (by omega)) ?_
          refine G_skip (X_then (G_seq (G_region ?_)))
          refine G_val (V_loadA rfl rfl (Cells.own (.head _)) rfl) rfl rfl (.none rfl) ?_
          refine G_storeA rfl rfl rfl rfl (by simp [Value.oneCell']) rfl (.none rfl) (.tail _ (.head _ _ _)) rfl ?_
          refine G_val (V_assign rfl rfl) rfl rfl (.none rfl) ?_
          refine G_end (X_then (G_ret ?_))
          refine G_leaveS (.drop _ (.drop _ (.nil _))) (by exact (.cons (.cellA rfl (Cells.own (.tail _ (.head _))) rfl) (.cons (.tmp rfl) (.nil)))) rfl ?_ ?_
          · exact (.refl _)
          exact ⟨(by (simp (discharger := omega) only [resVal, e1, htk, if_pos, if_neg]; first | done | rfl)), ⟨(by rfl), (by rfl)⟩⟩
        · have e : lineM s = (⟨0, 0, []⟩, 3) := by rw [lineM, if_neg (by omega), if_neg h13, if_pos hm]; rfl
          rw [e]
          by_cases h1 : (kindM (cutB 32 s).1).1 = 1
          · have h12 := h1; rw [← e1] at h12
            refine G_seq (G_seq (G_region ?_))
            refine G_val (V_move rfl rfl) rfl rfl (.none rfl) ?_
            refine G_val (V_move rfl rfl) rfl rfl (.none rfl) ?_
            refine G_val (V_len rfl rfl) rfl rfl (.none rfl) ?_
            refine G_val (V_lss rfl rfl rfl) rfl rfl (.none rfl) ?_
            refine G_val (V_move rfl rfl) rfl rfl (.none rfl) ?_
            refine G.bool_f 12 rfl (decide_eq_false (by omega)) ?_
            refine G_stay (.no rfl rfl rfl rfl) rfl rfl ?_
            refine G_stay (.no rfl rfl rfl rfl) rfl rfl ?_
            refine G_stay (.no rfl rfl rfl rfl) rfl rfl ?_
            refine G_stay (.no rfl rfl rfl rfl) rfl rfl ?_
            refine G_val (V_pick_f rfl rfl rfl) rfl rfl (.none rfl) ?_
            refine G_end (X_then ?_)
            refine G_cond_f rfl rfl ?_
            refine G_exit (X_then_exit (X_then_exit (X_block_hit (X_then (G_seq (G_region ?_))))))
            refine G_val (V_move rfl rfl) rfl rfl (.none rfl) ?_
            refine G_val (V_move rfl rfl) rfl rfl (.none rfl) ?_
            refine G_val (V_front rfl rfl rfl (by omega) (by omega)) rfl rfl (.none rfl) ?_
            refine G_callv (k := 19) (.mk rfl rfl rfl rfl) rfl rfl (.none rfl) (KindR_call _ _ _) ?_
            refine G_val (V_move rfl rfl) rfl rfl (.none rfl) ?_
            refine G_val (V_extract rfl rfl rfl) rfl rfl (.none rfl) ?_
            refine G_val (V_extract rfl rfl rfl) rfl rfl (.none rfl) ?_
            refine G_val (V_assign rfl rfl) rfl rfl (.none rfl) ?_
            refine G_val (V_assign rfl rfl) rfl rfl (.none rfl) ?_
            refine G_end (X_then (G_seq (G_seq (G_region ?_))))
            refine G_val (V_move rfl rfl) rfl rfl (.none rfl) ?_
            refine G_val (V_neq rfl rfl rfl) rfl rfl (.none rfl) ?_
            refine G_end (X_then ?_)
            refine G_cond_f rfl (decide_eq_false (by omega)) ?_
            refine G_skip (X_then (G_seq (G_region ?_)))
            refine G_val (V_move rfl rfl) rfl rfl (.none rfl) ?_
            refine G_val (V_build rfl rfl (by simp [fillV, setLs, setL, Value.cells]; rfl)) rfl rfl (.none rfl) ?_
            (refine G_alloc rfl rfl rfl (.none rfl) ?_; intro b7)
            refine G_storeA rfl rfl rfl rfl (by simp [Value.oneCell']) rfl (.none rfl) (.head _ _ _) rfl ?_
            refine G_end (X_then (G_seq (G_block (G_seq (G_region ?_)))))
            refine G_val (V_move rfl rfl) rfl rfl (.none rfl) ?_
            refine G_val (V_neq rfl rfl rfl) rfl rfl (.none rfl) ?_
            refine G_val (V_move rfl rfl) rfl rfl (.none rfl) ?_
            refine G.bool_f 45 rfl (decide_eq_false (by omega)) ?_
            refine G_stay (.no rfl rfl rfl rfl) rfl rfl ?_
            refine G_stay (.no rfl rfl rfl rfl) rfl rfl ?_
            refine G_val (V_pick_f rfl rfl rfl) rfl rfl (.none rfl) ?_
            refine G_val (V_assign rfl rfl) rfl rfl (.none rfl) ?_
            refine G_end (X_then ?_)
            refine G_cond_f rfl rfl ?_
            refine G_seq (G_region ?_)
            refine G_val (V_move rfl rfl) rfl rfl (.none rfl) ?_
            refine G_val (V_move rfl rfl) rfl rfl (.none rfl) ?_
            refine G_val (V_len rfl rfl) rfl rfl (.none rfl) ?_
            refine G_val (V_eql rfl rfl rfl) rfl rfl (.none rfl) ?_
            refine G_val (V_assign rfl rfl) rfl rfl (.none rfl) ?_
            refine G_end (X_then ?_)
            refine G_cond_t rfl (decide_eq_true (by omega)) ?_
            refine G_region ?_
            refine G_val (V_assign rfl rfl) rfl rfl (.none rfl) ?_
            refine G_end (X_block (X_then (G_seq (G_seq (G_region ?_)))))
            refine G_val (V_move rfl rfl) rfl rfl (.none rfl) ?_
            refine G_val (V_neq rfl rfl rfl) rfl rfl (.none rfl) ?_
            refine G_end (X_then ?_)
            refine G_cond_t rfl (by kernel_rfl) ?_
            refine G_seq (G_region ?_)
            refine G_val (V_build rfl rfl (by simp [fillV, setLs, setL, Value.cells]; rfl)) rfl rfl (.none rfl) ?_
            refine G_val (V_move rfl rfl) rfl rfl (.none rfl) ?_
            refine G_storeA rfl rfl rfl rfl (by simp [Value.oneCell']) rfl (.none rfl) (.tail _ (.head _ _ _)) rfl ?_
            refine G_val (V_assign rfl rfl) rfl rfl (.none rfl) ?_
            refine G_end (X_then (G_ret (X_then_ret ?_)))
            refine G_leaveS (.drop _ (.drop _ (.nil _))) (by exact (.cons (.cellA rfl (Cells.own (.tail _ (.head _))) rfl) (.cons (.tmp rfl) (.nil)))) rfl ?_ ?_
            · exact (.refl _)
            exact ⟨(by kernel_rfl), ⟨rfl, rfl⟩⟩
          · have h3 : (kindM (cutB 32 s).1).1 = 3 := by omega
            have h12 := h1; rw [← e1] at h12
            have h32 := h3; rw [← e1] at h32
            refine G_seq (G_seq (G_region ?_))
            refine G_val (V_move rfl rfl) rfl rfl (.none rfl) ?_
            refine G_val (V_move rfl rfl) rfl rfl (.none rfl) ?_
            refine G_val (V_len rfl rfl) rfl rfl (.none rfl) ?_
            refine G_val (V_lss rfl rfl rfl) rfl rfl (.none rfl) ?_
            refine G_val (V_move rfl rfl) rfl rfl (.none rfl) ?_
            refine G.bool_f 12 rfl (decide_eq_false (by omega)) ?_
            refine G_stay (.no rfl rfl rfl rfl) rfl rfl ?_
            refine G_stay (.no rfl rfl rfl rfl) rfl rfl ?_
            refine G_stay (.no rfl rfl rfl rfl) rfl rfl ?_
            refine G_stay (.no rfl rfl rfl rfl) rfl rfl ?_
            refine G_val (V_pick_f rfl rfl rfl) rfl rfl (.none rfl) ?_
            refine G_end (X_then ?_)
            refine G_cond_f rfl rfl ?_
            refine G_exit (X_then_exit (X_then_exit (X_block_hit (X_then (G_seq (G_region ?_))))))
            refine G_val (V_move rfl rfl) rfl rfl (.none rfl) ?_
            refine G_val (V_move rfl rfl) rfl rfl (.none rfl) ?_
            refine G_val (V_front rfl rfl rfl (by omega) (by omega)) rfl rfl (.none rfl) ?_
            refine G_callv (k := 19) (.mk rfl rfl rfl rfl) rfl rfl (.none rfl) (KindR_call _ _ _) ?_
            refine G_val (V_move rfl rfl) rfl rfl (.none rfl) ?_
            refine G_val (V_extract rfl rfl rfl) rfl rfl (.none rfl) ?_
            refine G_val (V_extract rfl rfl rfl) rfl rfl (.none rfl) ?_
            refine G_val (V_assign rfl rfl) rfl rfl (.none rfl) ?_
            refine G_val (V_assign rfl rfl) rfl rfl (.none rfl) ?_
            refine G_end (X_then (G_seq (G_seq (G_region ?_))))
            refine G_val (V_move rfl rfl) rfl rfl (.none rfl) ?_
            refine G_val (V_neq rfl rfl rfl) rfl rfl (.none rfl) ?_
            refine G_end (X_then ?_)
            refine G_cond_f rfl (decide_eq_false (by omega)) ?_
            refine G_skip (X_then (G_seq (G_region ?_)))
            refine G_val (V_move rfl rfl) rfl rfl (.none rfl) ?_
            refine G_val (V_build rfl rfl (by simp [fillV, setLs, setL, Value.cells]; rfl)) rfl rfl (.none rfl) ?_
            (refine G_alloc rfl rfl rfl (.none rfl) ?_; intro b7)
            refine G_storeA rfl rfl rfl rfl (by simp [Value.oneCell']) rfl (.none rfl) (.head _ _ _) rfl ?_
            refine G_end (X_then (G_seq (G_block (G_seq (G_region ?_)))))
            refine G_val (V_move rfl rfl) rfl rfl (.none rfl) ?_
            refine G_val (V_neq rfl rfl rfl) rfl rfl (.none rfl) ?_
            refine G_val (V_move rfl rfl) rfl rfl (.none rfl) ?_
            refine G.bool_t 45 rfl (decide_eq_true (by omega)) ?_
            refine G_val (V_move rfl rfl) rfl rfl (.yes rfl rfl rfl rfl) ?_
            refine G_val (V_neq rfl rfl rfl) rfl rfl (.yes rfl rfl rfl rfl) ?_
            refine G_val (V_pick_t rfl rfl rfl) rfl rfl (.none rfl) ?_
            refine G_val (V_assign rfl rfl) rfl rfl (.none rfl) ?_
            refine G_end (X_then ?_)
            refine G_cond_f rfl (decide_eq_false (by omega)) ?_
            refine G_seq (G_region ?_)
            refine G_val (V_move rfl rfl) rfl rfl (.none rfl) ?_
            refine G_val (V_move rfl rfl) rfl rfl (.none rfl) ?_
            refine G_val (V_len rfl rfl) rfl rfl (.none rfl) ?_
            refine G_val (V_eql rfl rfl rfl) rfl rfl (.none rfl) ?_
            refine G_val (V_assign rfl rfl) rfl rfl (.none rfl) ?_
            refine G_end (X_then ?_)
            refine G_cond_t rfl (decide_eq_true (by omega)) ?_
            refine G_region ?_
            refine G_val (V_assign rfl rfl) rfl rfl (.none rfl) ?_
            refine G_end (X_block (X_then (G_seq (G_seq (G_region ?_)))))
            refine G_val (V_move rfl rfl) rfl rfl (.none rfl) ?_
            refine G_val (V_neq rfl rfl rfl) rfl rfl (.none rfl) ?_
            refine G_end (X_then ?_)
            refine G_cond_t rfl (by kernel_rfl) ?_
            refine G_seq (G_region ?_)
            refine G_val (V_build rfl rfl (by simp [fillV, setLs, setL, Value.cells]; rfl)) rfl rfl (.none rfl) ?_
            refine G_val (V_move rfl rfl) rfl rfl (.none rfl) ?_
            refine G_storeA rfl rfl rfl rfl (by simp [Value.oneCell']) rfl (.none rfl) (.tail _ (.head _ _ _)) rfl ?_
            refine G_val (V_assign rfl rfl) rfl rfl (.none rfl) ?_
            refine G_end (X_then (G_ret (X_then_ret ?_)))
            refine G_leaveS (.drop _ (.drop _ (.nil _))) (by exact (.cons (.cellA rfl (Cells.own (.tail _ (.head _))) rfl) (.cons (.tmp rfl) (.nil)))) rfl ?_ ?_
            · exact (.refl _)
            exact ⟨(by kernel_rfl), ⟨rfl, rfl⟩⟩
      · have e : lineM s = (⟨0, 0, []⟩, (kindM (cutB 32 s).1).2) := by rw [lineM, if_pos he]; rfl
        rw [e]
        have he2 := he; rw [← e1] at he2
        refine G_seq (G_seq (G_region ?_))
        refine G_val (V_move rfl rfl) rfl rfl (.none rfl) ?_
        refine G_val (V_move rfl rfl) rfl rfl (.none rfl) ?_
        refine G_val (V_len rfl rfl) rfl rfl (.none rfl) ?_
        refine G_val (V_lss rfl rfl rfl) rfl rfl (.none rfl) ?_
        refine G_val (V_move rfl rfl) rfl rfl (.none rfl) ?_
        refine G.bool_f 12 rfl (decide_eq_false (by omega)) ?_
        refine G_stay (.no rfl rfl rfl rfl) rfl rfl ?_
        refine G_stay (.no rfl rfl rfl rfl) rfl rfl ?_
        refine G_stay (.no rfl rfl rfl rfl) rfl rfl ?_
        refine G_stay (.no rfl rfl rfl rfl) rfl rfl ?_
        refine G_val (V_pick_f rfl rfl rfl) rfl rfl (.none rfl) ?_
        refine G_end (X_then ?_)
        refine G_cond_f rfl rfl ?_
        refine G_exit (X_then_exit (X_then_exit (X_block_hit (X_then (G_seq (G_region ?_))))))
        refine G_val (V_move rfl rfl) rfl rfl (.none rfl) ?_
        refine G_val (V_move rfl rfl) rfl rfl (.none rfl) ?_
        refine G_val (V_front rfl rfl rfl (by omega) (by omega)) rfl rfl (.none rfl) ?_
        refine G_callv (k := 19) (.mk rfl rfl rfl rfl) rfl rfl (.none rfl) (KindR_call _ _ _) ?_
        refine G_val (V_move rfl rfl) rfl rfl (.none rfl) ?_
        refine G_val (V_extract rfl rfl rfl) rfl rfl (.none rfl) ?_
        refine G_val (V_extract rfl rfl rfl) rfl rfl (.none rfl) ?_
        refine G_val (V_assign rfl rfl) rfl rfl (.none rfl) ?_
        refine G_val (V_assign rfl rfl) rfl rfl (.none rfl) ?_
        refine G_end (X_then (G_seq (G_seq (G_region ?_))))
        refine G_val (V_move rfl rfl) rfl rfl (.none rfl) ?_
        refine G_val (V_neq rfl rfl rfl) rfl rfl (.none rfl) ?_
        refine G_end (X_then ?_)
        refine G_cond_t rfl (decide_eq_true (by omega)) ?_
        refine G_seq (G_region ?_)
        refine G_val (V_build rfl rfl (by simp [fillV, setLs, setL, Value.cells]; rfl)) rfl rfl (.none rfl) ?_
        refine G_val (V_move rfl rfl) rfl rfl (.none rfl) ?_
        refine G_storeA rfl rfl rfl rfl (by simp [Value.oneCell']) rfl (.none rfl) (.head _ _ _) rfl ?_
        refine G_val (V_assign rfl rfl) rfl rfl (.none rfl) ?_
        refine G_end (X_then (G_ret (X_then_ret ?_)))
        refine G_leaveS (.drop _ (.nil _)) (by exact (.cons (.cellA rfl (Cells.own (.head _)) rfl) (.cons (.tmp rfl) (.nil)))) rfl ?_ ?_
        · exact (.refl _)
        exact ⟨(by (simp (discharger := omega) only [resVal, e1, htk, if_pos, if_neg]; first | done | rfl)), ⟨(by rfl), (by rfl)⟩⟩
    | true =>
      have hlt2 := cutB_lt hm
      have hx0 : s[((cutB 32 s).1.length : Int).toNat]? = some 32 := by
        have := cutB_found hm
        show s[(cutB 32 s).1.length]? = some 32
        generalize (cutB 32 s).1 = x at *
        rw [this, List.getElem?_append_right (Nat.le_refl _), Nat.sub_self]; rfl
      have h255 : ((32 : UInt8).toNat : Int) = 32 := rfl
      have hdr := cutB_drop hm
      obtain ⟨r, hr⟩ : ∃ r, (cutB 32 s).2.1 = r := ⟨_, rfl⟩
      rw [hr] at hdr
      rw [hdr] at e2
      by_cases he : (kindM (cutB 32 s).1).2 = 0
      · obtain ⟨k1, k5, hkn⟩ := kindM_ok he
        have he2 := he; rw [← e1] at he2
        by_cases h13 : (kindM (cutB 32 s).1).1 ≠ 1 ∧ (kindM (cutB 32 s).1).1 ≠ 3
        · obtain ⟨h1, h3⟩ := h13
          have h12 := h1; rw [← e1] at h12
          have h32 := h3; rw [← e1] at h32
          have e : lineM s = (⟨0, 0, []⟩, 3) := by rw [lineM, if_neg (by omega), if_pos ⟨h1, h3⟩, if_pos hm]; rfl
          rw [e]
          refine G_seq (G_seq (G_region ?_))
          refine G_val (V_move rfl rfl) rfl rfl (.none rfl) ?_
          refine G_val (V_move rfl rfl) rfl rfl (.none rfl) ?_
          refine G_val (V_len rfl rfl) rfl rfl (.none rfl) ?_
          refine G_val (V_lss rfl rfl rfl) rfl rfl (.none rfl) ?_
          refine G_val (V_move rfl rfl) rfl rfl (.none rfl) ?_
          refine G.bool_t 12 rfl (decide_eq_true (by omega)) ?_
          refine G_val (V_move rfl rfl) rfl rfl (.yes rfl rfl rfl rfl) ?_
          refine G_val (V_move rfl rfl) rfl rfl (.yes rfl rfl rfl rfl) ?_
          refine G_val (V_sidx rfl rfl rfl (by omega) (by assumption)) rfl rfl (.yes rfl rfl rfl rfl) ?_
          refine G_val (V_neq rfl rfl rfl) rfl rfl (.yes rfl rfl rfl rfl) ?_
          refine G_val (V_pick_t rfl rfl rfl) rfl rfl (.none rfl) ?_
          refine G_end (X_then ?_)
          refine G_cond_f rfl (by kernel_rfl) ?_
          refine G_exit (X_then_exit (X_then_exit (X_block_hit (X_then (G_seq (G_region ?_))))))
          refine G_val (V_move rfl rfl) rfl rfl (.none rfl) ?_
          refine G_val (V_move rfl rfl) rfl rfl (.none rfl) ?_
          refine G_val (V_front rfl rfl rfl (by omega) (by omega)) rfl rfl (.none rfl) ?_
          refine G_callv (k := 19) (.mk rfl rfl rfl rfl) rfl rfl (.none rfl) (KindR_call _ _ _) ?_
          refine G_val (V_move rfl rfl) rfl rfl (.none rfl) ?_
          refine G_val (V_extract rfl rfl rfl) rfl rfl (.none rfl) ?_
          refine G_val (V_extract rfl rfl rfl) rfl rfl (.none rfl) ?_
          refine G_val (V_assign rfl rfl) rfl rfl (.none rfl) ?_
          refine G_val (V_assign rfl rfl) rfl rfl (.none rfl) ?_
          refine G_end (X_then (G_seq (G_seq (G_region ?_))))
          refine G_val (V_move rfl rfl) rfl rfl (.none rfl) ?_
          refine G_val (V_neq rfl rfl rfl) rfl rfl (.none rfl) ?_
          refine G_end (X_then ?_)
          refine G_cond_f rfl (decide_eq_false (by omega)) ?_
          refine G_skip (X_then (G_seq (G_region ?_)))
          refine G_val (V_move rfl rfl) rfl rfl (.none rfl) ?_
          refine G_val (V_build rfl rfl (by simp [fillV, setLs, setL, Value.cells]; rfl)) rfl rfl (.none rfl) ?_
          (refine G_alloc rfl rfl rfl (.none rfl) ?_; intro b7)
          refine G_storeA rfl rfl rfl rfl (by simp [Value.oneCell']) rfl (.none rfl) (.head _ _ _) rfl ?_
          refine G_end (X_then (G_seq (G_block (G_seq (G_region ?_)))))
          refine G_val (V_move rfl rfl) rfl rfl (.none rfl) ?_
          refine G_val (V_neq rfl rfl rfl) rfl rfl (.none rfl) ?_
          refine G_val (V_move rfl rfl) rfl rfl (.none rfl) ?_
          refine G.bool_t 45 rfl (decide_eq_true (by omega)) ?_
          refine G_val (V_move rfl rfl) rfl rfl (.yes rfl rfl rfl rfl) ?_
          refine G_val (V_neq rfl rfl rfl) rfl rfl (.yes rfl rfl rfl rfl) ?_
          refine G_val (V_pick_t rfl rfl rfl) rfl rfl (.none rfl) ?_
          refine G_val (V_assign rfl rfl) rfl rfl (.none rfl) ?_
          refine G_end (X_then ?_)
          refine G_cond_t rfl (decide_eq_true (by omega)) ?_
          refine G_seq (G_region ?_)
          refine G_val (V_move rfl rfl) rfl rfl (.none rfl) ?_
          refine G_val (V_move rfl rfl) rfl rfl (.none rfl) ?_
          refine G_val (V_len rfl rfl) rfl rfl (.none rfl) ?_
          refine G_val (V_neq rfl rfl rfl) rfl rfl (.none rfl) ?_
          refine G_end (X_then ?_)
          refine G_cond_t rfl (decide_eq_true (by omega)) ?_
          refine G_region ?_
          refine G_val (V_assign rfl rfl) rfl rfl (.none rfl) ?_
          refine G_end (X_block (X_then (G_seq (G_seq (G_region ?_)))))
          refine G_val (V_move rfl rfl) rfl rfl (.none rfl) ?_
          refine G_val (V_neq rfl rfl rfl) rfl rfl (.none rfl) ?_
          refine G_end (X_then ?_)
          refine G_cond_t rfl (by kernel_rfl) ?_
          refine G_seq (G_region ?_)
          refine G_val (V_build rfl rfl (by simp [fillV, setLs, setL, Value.cells]; rfl)) rfl rfl (.none rfl) ?_
          refine G_val (V_move rfl rfl) rfl rfl (.none rfl) ?_
          refine G_storeA rfl rfl rfl rfl (by simp [Value.oneCell']) rfl (.none rfl) (.tail _ (.head _ _ _)) rfl ?_
          refine G_val (V_assign rfl rfl) rfl rfl (.none rfl) ?_
          refine G_end (X_then (G_ret (X_then_ret ?_)))
          refine G_leaveS (.drop _ (.drop _ (.nil _))) (by exact (.cons (.cellA rfl (Cells.own (.tail _ (.head _))) rfl) (.cons (.tmp rfl) (.nil)))) rfl ?_ ?_
          · exact (.refl _)
          exact ⟨(by kernel_rfl), ⟨rfl, rfl⟩⟩
        · by_cases h1 : (kindM (cutB 32 s).1).1 = 1
          · have h12 := h1; rw [← e1] at h12
            have e0 : lineM s = if (feedM r).2 ≠ 0 then (Cl.zero, (feedM r).2) else (⟨1, 0, (feedM r).1⟩, 0) := by rw [lineM, if_neg (by omega), if_neg h13, if_neg (by rw [hm]; decide), if_pos h1, hr]
            by_cases hf : (feedM r).2 = 0
            · have e : lineM s = (⟨1, 0, (feedM r).1⟩, 0) := by rw [e0, if_neg (by omega)]
              rw [e]
              refine G_seq (G_seq (G_region ?_))
              refine G_val (V_move rfl rfl) rfl rfl (.none rfl) ?_
              refine G_val (V_move rfl rfl) rfl rfl (.none rfl) ?_
              refine G_val (V_len rfl rfl) rfl rfl (.none rfl) ?_
              refine G_val (V_lss rfl rfl rfl) rfl rfl (.none rfl) ?_
              refine G_val (V_move rfl rfl) rfl rfl (.none rfl) ?_
              refine G.bool_t 12 rfl (decide_eq_true (by omega)) ?_
              refine G_val (V_move rfl rfl) rfl rfl (.yes rfl rfl rfl rfl) ?_
              refine G_val (V_move rfl rfl) rfl rfl (.yes rfl rfl rfl rfl) ?_
              refine G_val (V_sidx rfl rfl rfl (by omega) (by assumption)) rfl rfl (.yes rfl rfl rfl rfl) ?_
              refine G_val (V_neq rfl rfl rfl) rfl rfl (.yes rfl rfl rfl rfl) ?_
              refine G_val (V_pick_t rfl rfl rfl) rfl rfl (.none rfl) ?_
              refine G_end (X_then ?_)
              refine G_cond_f rfl (by kernel_rfl) ?_
              refine G_exit (X_then_exit (X_then_exit (X_block_hit (X_then (G_seq (G_region ?_))))))
              refine G_val (V_move rfl rfl) rfl rfl (.none rfl) ?_
              refine G_val (V_move rfl rfl) rfl rfl (.none rfl) ?_
              refine G_val (V_front rfl rfl rfl (by omega) (by omega)) rfl rfl (.none rfl) ?_
              refine G_callv (k := 19) (.mk rfl rfl rfl rfl) rfl rfl (.none rfl) (KindR_call _ _ _) ?_
              refine G_val (V_move rfl rfl) rfl rfl (.none rfl) ?_
              refine G_val (V_extract rfl rfl rfl) rfl rfl (.none rfl) ?_
              refine G_val (V_extract rfl rfl rfl) rfl rfl (.none rfl) ?_
              refine G_val (V_assign rfl rfl) rfl rfl (.none rfl) ?_
              refine G_val (V_assign rfl rfl) rfl rfl (.none rfl) ?_
              refine G_end (X_then (G_seq (G_seq (G_region ?_))))
              refine G_val (V_move rfl rfl) rfl rfl (.none rfl) ?_
              refine G_val (V_neq rfl rfl rfl) rfl rfl (.none rfl) ?_
              refine G_end (X_then ?_)
              refine G_cond_f rfl (decide_eq_false (by omega)) ?_
              refine G_skip (X_then (G_seq (G_region ?_)))
              refine G_val (V_move rfl rfl) rfl rfl (.none rfl) ?_
              refine G_val (V_build rfl rfl (by simp [fillV, setLs, setL, Value.cells]; rfl)) rfl rfl (.none rfl) ?_
              (refine G_alloc rfl rfl rfl (.none rfl) ?_; intro b7)
              refine G_storeA rfl rfl rfl rfl (by simp [Value.oneCell']) rfl (.none rfl) (.head _ _ _) rfl ?_
              refine G_end (X_then (G_seq (G_block (G_seq (G_region ?_)))))
              refine G_val (V_move rfl rfl) rfl rfl (.none rfl) ?_
              refine G_val (V_neq rfl rfl rfl) rfl rfl (.none rfl) ?_
              refine G_val (V_move rfl rfl) rfl rfl (.none rfl) ?_
              refine G.bool_f 45 rfl (decide_eq_false (by omega)) ?_
              refine G_stay (.no rfl rfl rfl rfl) rfl rfl ?_
              refine G_stay (.no rfl rfl rfl rfl) rfl rfl ?_
              refine G_val (V_pick_f rfl rfl rfl) rfl rfl (.none rfl) ?_
              refine G_val (V_assign rfl rfl) rfl rfl (.none rfl) ?_
              refine G_end (X_then ?_)
              refine G_cond_f rfl rfl ?_
              refine G_seq (G_region ?_)
              refine G_val (V_move rfl rfl) rfl rfl (.none rfl) ?_
              refine G_val (V_move rfl rfl) rfl rfl (.none rfl) ?_
              refine G_val (V_len rfl rfl) rfl rfl (.none rfl) ?_
              refine G_val (V_eql rfl rfl rfl) rfl rfl (.none rfl) ?_
              refine G_val (V_assign rfl rfl) rfl rfl (.none rfl) ?_
              refine G_end (X_then ?_)
              refine G_cond_f rfl (decide_eq_false (by omega)) ?_
              refine G_seq (G_region ?_)
              refine G_val (V_move rfl rfl) rfl rfl (.none rfl) ?_
              refine G_val (V_eql rfl rfl rfl) rfl rfl (.none rfl) ?_
              refine G_val (V_assign rfl rfl) rfl rfl (.none rfl) ?_
              refine G_end (X_then ?_)
              refine G_cond_t rfl (decide_eq_true (by omega)) ?_
              refine G_region ?_
              refine G_val (V_move rfl rfl) rfl rfl (.none rfl) ?_
              refine G_val (V_move rfl rfl) rfl rfl (.none rfl) ?_
              refine G_val (V_add_i64 rfl rfl rfl (by omega) (by omega)) rfl rfl (.none rfl) ?_
              refine G_val (V_back rfl rfl rfl (by omega) (by omega)) rfl rfl (.none rfl) ?_
              refine G_call (k := 54) (.mk rfl rfl rfl rfl) rfl rfl (.none rfl) (chunk_call _ _ _ (by (simp; omega))) ?_
              rintro r1 E2 L3 hE4 ⟨rfl, ⟨rfl, rfl⟩⟩
              refine G_val (V_move rfl rfl) rfl rfl (.none rfl) ?_
              refine G_val (V_extract rfl rfl rfl) rfl rfl (.none rfl) ?_
              refine G_val (V_extract rfl rfl rfl) rfl rfl (.none rfl) ?_
              refine G_val (V_fieldAddr rfl rfl (by decide)) rfl rfl (.none rfl) ?_
              refine G_storeAt rfl rfl rfl rfl rfl rfl (.none rfl) (.head _ _ _) (Nat.le_of_ble_eq_true rfl) (by simp only [putAll, Nat.zero_add, Nat.reduceAdd, List.setIfInBounds_toArray, List.set_cons_succ, List.set_cons_zero]; rfl) ?_
              refine G_val (V_assign rfl rfl) rfl rfl (.none rfl) ?_
              refine G_end (X_block (X_then (G_seq (G_seq (G_region ?_)))))
              refine G_val (V_move rfl rfl) rfl rfl (.none rfl) ?_
              refine G_val (V_neq rfl rfl rfl) rfl rfl (.none rfl) ?_
              refine G_end (X_then ?_)
              refine G_cond_f rfl (by simp [*]; done) ?_
              refine G_skip (X_then (G_seq (G_region ?_)))
              refine G_val (V_loadA rfl rfl (Cells.own (.head _)) rfl) rfl rfl (.none rfl) ?_
              refine G_storeA rfl rfl rfl rfl (by simp [Value.oneCell']) rfl (.none rfl) (.tail _ (.head _ _ _)) rfl ?_
              refine G_val (V_assign rfl rfl) rfl rfl (.none rfl) ?_
              refine G_end (X_then (G_ret ?_))
              refine G_leaveS (.drop _ (.drop _ (.nil _))) (by exact (.cons (.cellA rfl (Cells.own (.tail _ (.head _))) rfl) (.cons (.tmp rfl) (.nil)))) rfl ?_ ?_
              · exact (.refl _)
              exact ⟨(by (simp [resVal, e1, e2, h1, *]; done)), ⟨(by rfl), (by rfl)⟩⟩
            · have e : lineM s = (⟨0, 0, []⟩, (feedM r).2) := by rw [e0, if_pos hf]; rfl
              rw [e]
              refine G_seq (G_seq (G_region ?_))
              refine G_val (V_move rfl rfl) rfl rfl (.none rfl) ?_
              refine G_val (V_move rfl rfl) rfl rfl (.none rfl) ?_
              refine G_val (V_len rfl rfl) rfl rfl (.none rfl) ?_
              refine G_val (V_lss rfl rfl rfl) rfl rfl (.none rfl) ?_
              refine G_val (V_move rfl rfl) rfl rfl (.none rfl) ?_
              refine G.bool_t 12 rfl (decide_eq_true (by omega)) ?_
              refine G_val (V_move rfl rfl) rfl rfl (.yes rfl rfl rfl rfl) ?_
              refine G_val (V_move rfl rfl) rfl rfl (.yes rfl rfl rfl rfl) ?_
              refine G_val (V_sidx rfl rfl rfl (by omega) (by assumption)) rfl rfl (.yes rfl rfl rfl rfl) ?_
              refine G_val (V_neq rfl rfl rfl) rfl rfl (.yes rfl rfl rfl rfl) ?_
              refine G_val (V_pick_t rfl rfl rfl) rfl rfl (.none rfl) ?_
              refine G_end (X_then ?_)
              refine G_cond_f rfl (by kernel_rfl) ?_
              refine G_exit (X_then_exit (X_then_exit (X_block_hit (X_then (G_seq (G_region ?_))))))
              refine G_val (V_move rfl rfl) rfl rfl (.none rfl) ?_
              refine G_val (V_move rfl rfl) rfl rfl (.none rfl) ?_
              refine G_val (V_front rfl rfl rfl (by omega) (by omega)) rfl rfl (.none rfl) ?_
              refine G_callv (k := 19) (.mk rfl rfl rfl rfl) rfl rfl (.none rfl) (KindR_call _ _ _) ?_
              refine G_val (V_move rfl rfl) rfl rfl (.none rfl) ?_
              refine G_val (V_extract rfl rfl rfl) rfl rfl (.none rfl) ?_
              refine G_val (V_extract rfl rfl rfl) rfl rfl (.none rfl) ?_
              refine G_val (V_assign rfl rfl) rfl rfl (.none rfl) ?_
              refine G_val (V_assign rfl rfl) rfl rfl (.none rfl) ?_
              refine G_end (X_then (G_seq (G_seq (G_region ?_))))
              refine G_val (V_move rfl rfl) rfl rfl (.none rfl) ?_
              refine G_val (V_neq rfl rfl rfl) rfl rfl (.none rfl) ?_
              refine G_end (X_then ?_)
              refine G_cond_f rfl (decide_eq_false (by omega)) ?_
              refine G_skip (X_then (G_seq (G_region ?_)))
              refine G_val (V_move rfl rfl) rfl rfl (.none rfl) ?_
              refine G_val (V_build rfl rfl (by simp [fillV, setLs, setL, Value.cells]; rfl)) rfl rfl (.none rfl) ?_
              (refine G_alloc rfl rfl rfl (.none rfl) ?_; intro b7)
              refine G_storeA rfl rfl rfl rfl (by simp [Value.oneCell']) rfl (.none rfl) (.head _ _ _) rfl ?_
              refine G_end (X_then (G_seq (G_block (G_seq (G_region ?_)))))
              refine G_val (V_move rfl rfl) rfl rfl (.none rfl) ?_
              refine G_val (V_neq rfl rfl rfl) rfl rfl (.none rfl) ?_
              refine G_val (V_move rfl rfl) rfl rfl (.none rfl) ?_
              refine G.bool_f 45 rfl (decide_eq_false (by omega)) ?_
              refine G_stay (.no rfl rfl rfl rfl) rfl rfl ?_
              refine G_stay (.no rfl rfl rfl rfl) rfl rfl ?_
              refine G_val (V_pick_f rfl rfl rfl) rfl rfl (.none rfl) ?_
              refine G_val (V_assign rfl rfl) rfl rfl (.none rfl) ?_
              refine G_end (X_then ?_)
              refine G_cond_f rfl rfl ?_
              refine G_seq (G_region ?_)
              refine G_val (V_move rfl rfl) rfl rfl (.none rfl) ?_
              refine G_val (V_move rfl rfl) rfl rfl (.none rfl) ?_
              refine G_val (V_len rfl rfl) rfl rfl (.none rfl) ?_
              refine G_val (V_eql rfl rfl rfl) rfl rfl (.none rfl) ?_
              refine G_val (V_assign rfl rfl) rfl rfl (.none rfl) ?_
              refine G_end (X_then ?_)
              refine G_cond_f rfl (decide_eq_false (by omega)) ?_
              refine G_seq (G_region ?_)
              refine G_val (V_move rfl rfl) rfl rfl (.none rfl) ?_
              refine G_val (V_eql rfl rfl rfl) rfl rfl (.none rfl) ?_
              refine G_val (V_assign rfl rfl) rfl rfl (.none rfl) ?_
              refine G_end (X_then ?_)
              refine G_cond_t rfl (decide_eq_true (by omega)) ?_
              refine G_region ?_
              refine G_val (V_move rfl rfl) rfl rfl (.none rfl) ?_
              refine G_val (V_move rfl rfl) rfl rfl (.none rfl) ?_
              refine G_val (V_add_i64 rfl rfl rfl (by omega) (by omega)) rfl rfl (.none rfl) ?_
              refine G_val (V_back rfl rfl rfl (by omega) (by omega)) rfl rfl (.none rfl) ?_
              refine G_call (k := 54) (.mk rfl rfl rfl rfl) rfl rfl (.none rfl) (chunk_call _ _ _ (by (simp; omega))) ?_
              rintro r1 E2 L3 hE4 ⟨rfl, ⟨rfl, rfl⟩⟩
              refine G_val (V_move rfl rfl) rfl rfl (.none rfl) ?_
              refine G_val (V_extract rfl rfl rfl) rfl rfl (.none rfl) ?_
              refine G_val (V_extract rfl rfl rfl) rfl rfl (.none rfl) ?_
              refine G_val (V_fieldAddr rfl rfl (by decide)) rfl rfl (.none rfl) ?_
              refine G_storeAt rfl rfl rfl rfl rfl rfl (.none rfl) (.head _ _ _) (Nat.le_of_ble_eq_true rfl) (by simp only [putAll, Nat.zero_add, Nat.reduceAdd, List.setIfInBounds_toArray, List.set_cons_succ, List.set_cons_zero]; rfl) ?_
              refine G_val (V_assign rfl rfl) rfl rfl (.none rfl) ?_
              refine G_end (X_block (X_then (G_seq (G_seq (G_region ?_)))))
              refine G_val (V_move rfl rfl) rfl rfl (.none rfl) ?_
              refine G_val (V_neq rfl rfl rfl) rfl rfl (.none rfl) ?_
              refine G_end (X_then ?_)
              refine G_cond_t rfl (by simp [*]; done) ?_
              refine G_seq (G_region ?_)
              refine G_val (V_build rfl rfl (by simp [fillV, setLs, setL, Value.cells]; rfl)) rfl rfl (.none rfl) ?_
              refine G_val (V_move rfl rfl) rfl rfl (.none rfl) ?_
              refine G_storeA rfl rfl rfl rfl (by simp [Value.oneCell']) rfl (.none rfl) (.tail _ (.head _ _ _)) rfl ?_
              refine G_val (V_assign rfl rfl) rfl rfl (.none rfl) ?_
              refine G_end (X_then (G_ret (X_then_ret ?_)))
              refine G_leaveS (.drop _ (.drop _ (.nil _))) (by exact (.cons (.cellA rfl (Cells.own (.tail _ (.head _))) rfl) (.cons (.tmp rfl) (.nil)))) rfl ?_ ?_
              · exact (.refl _)
              exact ⟨(by (simp (discharger := omega) only [resVal, e1, e2, h1, if_pos, if_neg]; first | done | rfl)), ⟨(by rfl), (by rfl)⟩⟩
          · have h3 : (kindM (cutB 32 s).1).1 = 3 := by omega
            have h12 := h1; rw [← e1] at h12
            have h32 := h3; rw [← e1] at h32
            have e0 : lineM s = if (numM r).2 ≠ 0 then (Cl.zero, (numM r).2) else (⟨3, (numM r).1, []⟩, 0) := by rw [lineM, if_neg (by omega), if_neg h13, if_neg (by rw [hm]; decide), if_neg h1, hr]
            by_cases hf : (numM r).2 = 0
            · have e : lineM s = (⟨3, (numM r).1, []⟩, 0) := by rw [e0, if_neg (by omega)]
              rw [e]
              refine G_seq (G_seq (G_region ?_))
              refine G_val (V_move rfl rfl) rfl rfl (.none rfl) ?_
              refine G_val (V_move rfl rfl) rfl rfl (.none rfl) ?_
              refine G_val (V_len rfl rfl) rfl rfl (.none rfl) ?_
              refine G_val (V_lss rfl rfl rfl) rfl rfl (.none rfl) ?_
              refine G_val (V_move rfl rfl) rfl rfl (.none rfl) ?_
              refine G.bool_t 12 rfl (decide_eq_true (by omega)) ?_
              refine G_val (V_move rfl rfl) rfl rfl (.yes rfl rfl rfl rfl) ?_
              refine G_val (V_move rfl rfl) rfl rfl (.yes rfl rfl rfl rfl) ?_
              refine G_val (V_sidx rfl rfl rfl (by omega) (by assumption)) rfl rfl (.yes rfl rfl rfl rfl) ?_
              refine G_val (V_neq rfl rfl rfl) rfl rfl (.yes rfl rfl rfl rfl) ?_
              refine G_val (V_pick_t rfl rfl rfl) rfl rfl (.none rfl) ?_
              refine G_end (X_then ?_)
              refine G_cond_f rfl (by kernel_rfl) ?_
              refine G_exit (X_then_exit (X_then_exit (X_block_hit (X_then (G_seq (G_region ?_))))))
              refine G_val (V_move rfl rfl) rfl rfl (.none rfl) ?_
              refine G_val (V_move rfl rfl) rfl rfl (.none rfl) ?_
              refine G_val (V_front rfl rfl rfl (by omega) (by omega)) rfl rfl (.none rfl) ?_
              refine G_callv (k := 19) (.mk rfl rfl rfl rfl) rfl rfl (.none rfl) (KindR_call _ _ _) ?_
              refine G_val (V_move rfl rfl) rfl rfl (.none rfl) ?_
              refine G_val (V_extract rfl rfl rfl) rfl rfl (.none rfl) ?_
              refine G_val (V_extract rfl rfl rfl) rfl rfl (.none rfl) ?_
              refine G_val (V_assign rfl rfl) rfl rfl (.none rfl) ?_
              refine G_val (V_assign rfl rfl) rfl rfl (.none rfl) ?_
              refine G_end (X_then (G_seq (G_seq (G_region ?_))))
              refine G_val (V_move rfl rfl) rfl rfl (.none rfl) ?_
              refine G_val (V_neq rfl rfl rfl) rfl rfl (.none rfl) ?_
              refine G_end (X_then ?_)
              refine G_cond_f rfl (decide_eq_false (by omega)) ?_
              refine G_skip (X_then (G_seq (G_region ?_)))
              refine G_val (V_move rfl rfl) rfl rfl (.none rfl) ?_
              refine G_val (V_build rfl rfl (by simp [fillV, setLs, setL, Value.cells]; rfl)) rfl rfl (.none rfl) ?_
              (refine G_alloc rfl rfl rfl (.none rfl) ?_; intro b7)
              refine G_storeA rfl rfl rfl rfl (by simp [Value.oneCell']) rfl (.none rfl) (.head _ _ _) rfl ?_
              refine G_end (X_then (G_seq (G_block (G_seq (G_region ?_)))))
              refine G_val (V_move rfl rfl) rfl rfl (.none rfl) ?_
              refine G_val (V_neq rfl rfl rfl) rfl rfl (.none rfl) ?_
              refine G_val (V_move rfl rfl) rfl rfl (.none rfl) ?_
              refine G.bool_t 45 rfl (decide_eq_true (by omega)) ?_
              refine G_val (V_move rfl rfl) rfl rfl (.yes rfl rfl rfl rfl) ?_
              refine G_val (V_neq rfl rfl rfl) rfl rfl (.yes rfl rfl rfl rfl) ?_
              refine G_val (V_pick_t rfl rfl rfl) rfl rfl (.none rfl) ?_
              refine G_val (V_assign rfl rfl) rfl rfl (.none rfl) ?_
              refine G_end (X_then ?_)
              refine G_cond_f rfl (decide_eq_false (by omega)) ?_
              refine G_seq (G_region ?_)
              refine G_val (V_move rfl rfl) rfl rfl (.none rfl) ?_
              refine G_val (V_move rfl rfl) rfl rfl (.none rfl) ?_
              refine G_val (V_len rfl rfl) rfl rfl (.none rfl) ?_
              refine G_val (V_eql rfl rfl rfl) rfl rfl (.none rfl) ?_
              refine G_val (V_assign rfl rfl) rfl rfl (.none rfl) ?_
              refine G_end (X_then ?_)
              refine G_cond_f rfl (decide_eq_false (by omega)) ?_
              refine G_seq (G_region ?_)
              refine G_val (V_move rfl rfl) rfl rfl (.none rfl) ?_
              refine G_val (V_eql rfl rfl rfl) rfl rfl (.none rfl) ?_
              refine G_val (V_assign rfl rfl) rfl rfl (.none rfl) ?_
              refine G_end (X_then ?_)
              refine G_cond_f rfl (decide_eq_false (by omega)) ?_
              refine G_region ?_
              refine G_val (V_move rfl rfl) rfl rfl (.none rfl) ?_
              refine G_val (V_move rfl rfl) rfl rfl (.none rfl) ?_
              refine G_val (V_add_i64 rfl rfl rfl (by omega) (by omega)) rfl rfl (.none rfl) ?_
              refine G_val (V_back rfl rfl rfl (by omega) (by omega)) rfl rfl (.none rfl) ?_
              refine G_callv (k := 55) (.mk rfl rfl rfl rfl) rfl rfl (.none rfl) (numberR_call _ _ _ (by (simp; omega))) ?_
              refine G_val (V_move rfl rfl) rfl rfl (.none rfl) ?_
              refine G_val (V_extract rfl rfl rfl) rfl rfl (.none rfl) ?_
              refine G_val (V_extract rfl rfl rfl) rfl rfl (.none rfl) ?_
              refine G_val (V_fieldAddr rfl rfl (by decide)) rfl rfl (.none rfl) ?_
              refine G_storeAt rfl rfl rfl rfl rfl rfl (.none rfl) (.head _ _ _) (Nat.le_of_ble_eq_true rfl) (by simp only [putAll, Nat.zero_add, Nat.reduceAdd, List.setIfInBounds_toArray, List.set_cons_succ, List.set_cons_zero]; rfl) ?_
              refine G_val (V_assign rfl rfl) rfl rfl (.none rfl) ?_
              refine G_end (X_block (X_then (G_seq (G_seq (G_region ?_)))))
              refine G_val (V_move rfl rfl) rfl rfl (.none rfl) ?_
              refine G_val (V_neq rfl rfl rfl) rfl rfl (.none rfl) ?_
              refine G_end (X_then ?_)
              refine G_cond_f rfl (by simp [*]; done) ?_
              refine G_skip (X_then (G_seq (G_region ?_)))
              refine G_val (V_loadA rfl rfl (Cells.own (.head _)) rfl) rfl rfl (.none rfl) ?_
              refine G_storeA rfl rfl rfl rfl (by simp [Value.oneCell']) rfl (.none rfl) (.tail _ (.head _ _ _)) rfl ?_
              refine G_val (V_assign rfl rfl) rfl rfl (.none rfl) ?_
              refine G_end (X_then (G_ret ?_))
              refine G_leaveS (.drop _ (.drop _ (.nil _))) (by exact (.cons (.cellA rfl (Cells.own (.tail _ (.head _))) rfl) (.cons (.tmp rfl) (.nil)))) rfl ?_ ?_
              · exact (.refl _)
              exact ⟨(by (simp (discharger := omega) only [resVal, e1, e2, htk, hdr, h3, if_pos, if_neg]; first | done | rfl)), ⟨(by rfl), (by rfl)⟩⟩
            · have e : lineM s = (⟨0, 0, []⟩, (numM r).2) := by rw [e0, if_pos hf]; rfl
              rw [e]
              refine G_seq (G_seq (G_region ?_))
              refine G_val (V_move rfl rfl) rfl rfl (.none rfl) ?_
              refine G_val (V_move rfl rfl) rfl rfl (.none rfl) ?_
              refine G_val (V_len rfl rfl) rfl rfl (.none rfl) ?_
              refine G_val (V_lss rfl rfl rfl) rfl rfl (.none rfl) ?_
              refine G_val (V_move rfl rfl) rfl rfl (.none rfl) ?_
              refine G.bool_t 12 rfl (decide_eq_true (by omega)) ?_
              refine G_val (V_move rfl rfl) rfl rfl (.yes rfl rfl rfl rfl) ?_
              refine G_val (V_move rfl rfl) rfl rfl (.yes rfl rfl rfl rfl) ?_
              refine G_val (V_sidx rfl rfl rfl (by omega) (by assumption)) rfl rfl (.yes rfl rfl rfl rfl) ?_
              refine G_val (V_neq rfl rfl rfl) rfl rfl (.yes rfl rfl rfl rfl) ?_
              refine G_val (V_pick_t rfl rfl rfl) rfl rfl (.none rfl) ?_
              refine G_end (X_then ?_)
              refine G_cond_f rfl (by kernel_rfl) ?_
              refine G_exit (X_then_exit (X_then_exit (X_block_hit (X_then (G_seq (G_region ?_))))))
              refine G_val (V_move rfl rfl) rfl rfl (.none rfl) ?_
              refine G_val (V_move rfl rfl) rfl rfl (.none rfl) ?_
              refine G_val (V_front rfl rfl rfl (by omega) (by omega)) rfl rfl (.none rfl) ?_
              refine G_callv (k := 19) (.mk rfl rfl rfl rfl) rfl rfl (.none rfl) (KindR_call _ _ _) ?_
              refine G_val (V_move rfl rfl) rfl rfl (.none rfl) ?_
              refine G_val (V_extract rfl rfl rfl) rfl rfl (.none rfl) ?_
              refine G_val (V_extract rfl rfl rfl) rfl rfl (.none rfl) ?_
              refine G_val (V_assign rfl rfl) rfl rfl (.none rfl) ?_
              refine G_val (V_assign rfl rfl) rfl rfl (.none rfl) ?_
              refine G_end (X_then (G_seq (G_seq (G_region ?_))))
              refine G_val (V_move rfl rfl) rfl rfl (.none rfl) ?_
              refine G_val (V_neq rfl rfl rfl) rfl rfl (.none rfl) ?_
              refine G_end (X_then ?_)
              refine G_cond_f rfl (decide_eq_false (by omega)) ?_
              refine G_skip (X_then (G_seq (G_region ?_)))
              refine G_val (V_move rfl rfl) rfl rfl (.none rfl) ?_
              refine G_val (V_build rfl rfl (by simp [fillV, setLs, setL, Value.cells]; rfl)) rfl rfl (.none rfl) ?_
              (refine G_alloc rfl rfl rfl (.none rfl) ?_; intro b7)
              refine G_storeA rfl rfl rfl rfl (by simp [Value.oneCell']) rfl (.none rfl) (.head _ _ _) rfl ?_
              refine G_end (X_then (G_seq (G_block (G_seq (G_region ?_)))))
              refine G_val (V_move rfl rfl) rfl rfl (.none rfl) ?_
              refine G_val (V_neq rfl rfl rfl) rfl rfl (.none rfl) ?_
              refine G_val (V_move rfl rfl) rfl rfl (.none rfl) ?_
              refine G.bool_t 45 rfl (decide_eq_true (by omega)) ?_
              refine G_val (V_move rfl rfl) rfl rfl (.yes rfl rfl rfl rfl) ?_
              refine G_val (V_neq rfl rfl rfl) rfl rfl (.yes rfl rfl rfl rfl) ?_
              refine G_val (V_pick_t rfl rfl rfl) rfl rfl (.none rfl) ?_
              refine G_val (V_assign rfl rfl) rfl rfl (.none rfl) ?_
              refine G_end (X_then ?_)
              refine G_cond_f rfl (decide_eq_false (by omega)) ?_
              refine G_seq (G_region ?_)
              refine G_val (V_move rfl rfl) rfl rfl (.none rfl) ?_
              refine G_val (V_move rfl rfl) rfl rfl (.none rfl) ?_
              refine G_val (V_len rfl rfl) rfl rfl (.none rfl) ?_
              refine G_val (V_eql rfl rfl rfl) rfl rfl (.none rfl) ?_
              refine G_val (V_assign rfl rfl) rfl rfl (.none rfl) ?_
              refine G_end (X_then ?_)
              refine G_cond_f rfl (decide_eq_false (by omega)) ?_
              refine G_seq (G_region ?_)
              refine G_val (V_move rfl rfl) rfl rfl (.none rfl) ?_
              refine G_val (V_eql rfl rfl rfl) rfl rfl (.none rfl) ?_
              refine G_val (V_assign rfl rfl) rfl rfl (.none rfl) ?_
              refine G_end (X_then ?_)
              refine G_cond_f rfl (decide_eq_false (by omega)) ?_
              refine G_region ?_
              refine G_val (V_move rfl rfl) rfl rfl (.none rfl) ?_
              refine G_val (V_move rfl rfl) rfl rfl (.none rfl) ?_
              refine G_val (V_add_i64 rfl rfl rfl (by omega) (by omega)) rfl rfl (.none rfl) ?_
              refine G_val (V_back rfl rfl rfl (by omega) (by omega)) rfl rfl (.none rfl) ?_
              refine G_callv (k := 55) (.mk rfl rfl rfl rfl) rfl rfl (.none rfl) (numberR_call _ _ _ (by (simp; omega))) ?_
              refine G_val (V_move rfl rfl) rfl rfl (.none rfl) ?_
              refine G_val (V_extract rfl rfl rfl) rfl rfl (.none rfl) ?_
              refine G_val (V_extract rfl rfl rfl) rfl rfl (.none rfl) ?_
              refine G_val (V_fieldAddr rfl rfl (by decide)) rfl rfl (.none rfl) ?_
              refine G_storeAt rfl rfl rfl rfl rfl rfl (.none rfl) (.head _ _ _) (Nat.le_of_ble_eq_true rfl) (by simp only [putAll, Nat.zero_add, Nat.reduceAdd, List.setIfInBounds_toArray, List.set_cons_succ, List.set_cons_zero]; rfl) ?_
              refine G_val (V_assign rfl rfl) rfl rfl (.none rfl) ?_
              refine G_end (X_block (X_then (G_seq (G_seq (G_region ?_)))))
              refine G_val (V_move rfl rfl) rfl rfl (.none rfl) ?_
              refine G_val (V_neq rfl rfl rfl) rfl rfl (.none rfl) ?_
              refine G_end (X_then ?_)
              refine G_cond_t rfl (by simp [*]; done) ?_
              refine G_seq (G_region ?_)
              refine G_val (V_build rfl rfl (by simp [fillV, setLs, setL, Value.cells]; rfl)) rfl rfl (.none rfl) ?_
              refine G_val (V_move rfl rfl) rfl rfl (.none rfl) ?_
              refine G_storeA rfl rfl rfl rfl (by simp [Value.oneCell']) rfl (.none rfl) (.tail _ (.head _ _ _)) rfl ?_
              refine G_val (V_assign rfl rfl) rfl rfl (.none rfl) ?_
              refine G_end (X_then (G_ret (X_then_ret ?_)))
              refine G_leaveS (.drop _ (.drop _ (.nil _))) (by exact (.cons (.cellA rfl (Cells.own (.tail _ (.head _))) rfl) (.cons (.tmp rfl) (.nil)))) rfl ?_ ?_
              · exact (.refl _)
              exact ⟨(by (simp (discharger := omega) only [resVal, e1, e2, htk, hdr, h3, if_pos, if_neg]; first | done | rfl)), ⟨(by rfl), (by rfl)⟩⟩
      · have e : lineM s = (⟨0, 0, []⟩, (kindM (cutB 32 s).1).2) := by rw [lineM, if_pos he]; rfl
        rw [e]
        have he2 := he; rw [← e1] at he2
        refine G_seq (G_seq (G_region ?_))
        refine G_val (V_move rfl rfl) rfl rfl (.none rfl) ?_
        refine G_val (V_move rfl rfl) rfl rfl (.none rfl) ?_
        refine G_val (V_len rfl rfl) rfl rfl (.none rfl) ?_
        refine G_val (V_lss rfl rfl rfl) rfl rfl (.none rfl) ?_
        refine G_val (V_move rfl rfl) rfl rfl (.none rfl) ?_
        refine G.bool_t 12 rfl (decide_eq_true (by omega)) ?_
        refine G_val (V_move rfl rfl) rfl rfl (.yes rfl rfl rfl rfl) ?_
        refine G_val (V_move rfl rfl) rfl rfl (.yes rfl rfl rfl rfl) ?_
        refine G_val (V_sidx rfl rfl rfl (by omega) (by assumption)) rfl rfl (.yes rfl rfl rfl rfl) ?_
        refine G_val (V_neq rfl rfl rfl) rfl rfl (.yes rfl rfl rfl rfl) ?_
        refine G_val (V_pick_t rfl rfl rfl) rfl rfl (.none rfl) ?_
        refine G_end (X_then ?_)
        refine G_cond_f rfl (by kernel_rfl) ?_
        refine G_exit (X_then_exit (X_then_exit (X_block_hit (X_then (G_seq (G_region ?_))))))
        refine G_val (V_move rfl rfl) rfl rfl (.none rfl) ?_
        refine G_val (V_move rfl rfl) rfl rfl (.none rfl) ?_
        refine G_val (V_front rfl rfl rfl (by omega) (by omega)) rfl rfl (.none rfl) ?_
        refine G_callv (k := 19) (.mk rfl rfl rfl rfl) rfl rfl (.none rfl) (KindR_call _ _ _) ?_
        refine G_val (V_move rfl rfl) rfl rfl (.none rfl) ?_
        refine G_val (V_extract rfl rfl rfl) rfl rfl (.none rfl) ?_
        refine G_val (V_extract rfl rfl rfl) rfl rfl (.none rfl) ?_
        refine G_val (V_assign rfl rfl) rfl rfl (.none rfl) ?_
        refine G_val (V_assign rfl rfl) rfl rfl (.none rfl) ?_
        refine G_end (X_then (G_seq (G_seq (G_region ?_))))
        refine G_val (V_move rfl rfl) rfl rfl (.none rfl) ?_
        refine G_val (V_neq rfl rfl rfl) rfl rfl (.none rfl) ?_
        refine G_end (X_then ?_)
        refine G_cond_t rfl (decide_eq_true (by omega)) ?_
        refine G_seq (G_region ?_)
        refine G_val (V_build rfl rfl (by simp [fillV, setLs, setL, Value.cells]; rfl)) rfl rfl (.none rfl) ?_
        refine G_val (V_move rfl rfl) rfl rfl (.none rfl) ?_
        refine G_storeA rfl rfl rfl rfl (by simp [Value.oneCell']) rfl (.none rfl) (.head _ _ _) rfl ?_
        refine G_val (V_assign rfl rfl) rfl rfl (.none rfl) ?_
        refine G_end (X_then (G_ret (X_then_ret ?_)))
        refine G_leaveS (.drop _ (.nil _)) (by exact (.cons (.cellA rfl (Cells.own (.head _)) rfl) (.cons (.tmp rfl) (.nil)))) rfl ?_ ?_
        · exact (.refl _)
        exact ⟨(by (simp (discharger := omega) only [resVal, e1, htk, if_pos, if_neg]; first | done | rfl)), ⟨(by rfl), (by rfl)⟩⟩
end
end Go.Proofs.YtpkingbclcalkaaDoor
