/-
  Rules and contracts, packed: A9, A10, A11, L1, L2, Sep32, A12, A13, A14, L3, A15, A16, A17, A18, A20.
-/
import Derived.Test.YthcfakmmomfcaaaDoorQ4
set_option maxHeartbeats 1000000
set_option linter.unusedSimpArgs false
set_option linter.unusedVariables false
set_option maxHeartbeats 2000000
set_option maxRecDepth 20000
namespace Go.Proofs.YthcfakmmomfcaaaDoor
open Go.RowKit
theorem cmpL_refl (xs : List Int) : cmpL xs xs = 0 := by
  induction xs with
  | nil => rfl
  | cons x xs ih => rw [cmpL, if_pos rfl, ih]
theorem ckL_F {n a b c d t : Int} (h : ckL n a b c d t = 0) : ckF n a b c d := by
  unfold ckL at h
  split at h
  · omega
  · split at h
    · omega
    · rename_i h2
      exact Decidable.not_not.1 h2
theorem same_all {m : Nat} {a b c d a' b' c' d' : Int} (hx : ckF m a b c d) (hy : ckF m a' b' c' d') (h : ∀ j, j < m → gd [a, b, c, d] j = gd [a', b', c', d'] j) : a = a' ∧ b = b' ∧ c = c' ∧ d = d' := by
  have hx2 := (ck1 m a b c d (by omega)).2 hx
  have hy2 := (ck1 m a' b' c' d' (by omega)).2 hy
  have key : ∀ j, j < 4 → gd [a, b, c, d] j = gd [a', b', c', d'] j := fun j hj => by
    by_cases q : j < m
    · exact h j q
    · rw [hx2 j (by omega) hj, hy2 j (by omega) hj]
  exact ⟨key 0 (by omega), key 1 (by omega), key 2 (by omega), key 3 (by omega)⟩
section
variable (E : Env) (L : List Res)
theorem Compare_call (n a b c d n' a' b' c' d' : Int) : CallS Tryd.prog 25 #[lk n a b c d, lk n' a' b' c' d'] E L (fun r E' L' => r = .tuple #[.int .i64 (cmpM n a b c d n' a' b' c' d').1, .int .i64 (cmpM n a b c d n' a' b' c' d').2] ∧ L = L') := by
  unfold cmpM
  generalize hr : bothL n a b c d n' a' b' c' d' = r
  by_cases h : r ≠ 0
  · rw [if_pos h]
    refine CallS.intro (l := [_, _]) _ Tryd.func25 rfl Tryd.ntmps25 rfl ?_
    refine G_seq (G_region ?_)
    (refine G_boxA rfl rfl rfl rfl (.none rfl) ?_; intro b2)
    (refine G_boxA rfl rfl rfl rfl (.none rfl) ?_; intro b3)
    refine G_val (V_assign rfl rfl) rfl rfl (.none rfl) ?_
    refine G_val (V_assign rfl rfl) rfl rfl (.none rfl) ?_
    refine G_end (X_then (G_seq (G_seq (G_region ?_))))
    refine G_val (V_loadA rfl rfl (Cells.own (.tail _ (.head _))) rfl) rfl rfl (.none rfl) ?_
    refine G_val (V_loadA rfl rfl (Cells.own (.head _)) rfl) rfl rfl (.none rfl) ?_
    (refine G_litZ rfl rfl (by decide) (by simp [fillS, zeros, setLs, setL, Value.cells, List.range, List.range.loop]; rfl) (by rfl) rfl rfl (.none rfl) ?_; intro b10 E10 hE10 hs10)
    refine G_callv (k := 47) (.mk rfl rfl rfl rfl) rfl rfl (.none rfl) (right2_call' _ _ _ _ _ _ _ _ _ _ _ _ _ _ (by assumption)) ?_
    refine G_val (V_assign rfl rfl) rfl rfl (.none rfl) ?_
    refine G_end (X_then (G_seq (G_region ?_)))
    refine G_val (V_move rfl rfl) rfl rfl (.none rfl) ?_
    refine G_val (V_neq rfl rfl rfl) rfl rfl (.none rfl) ?_
    refine G_val (V_move rfl rfl) rfl rfl (.none rfl) ?_
    refine G.bool_t 14 rfl (decide_eq_true (by omega)) ?_
    refine G_stay (.no rfl rfl rfl rfl) rfl rfl ?_
    refine G_stay (.no rfl rfl rfl rfl) rfl rfl ?_
    refine G_stay (.no rfl rfl rfl rfl) rfl rfl ?_
    refine G_val (V_pick_t rfl rfl rfl) rfl rfl (.none rfl) ?_
    refine G_end (X_then ?_)
    refine G_cond_t rfl rfl ?_
    refine G_seq (G_region ?_)
    refine G_val (V_move rfl rfl) rfl rfl (.none rfl) ?_
    refine G_val (V_assign rfl rfl) rfl rfl (.none rfl) ?_
    refine G_val (V_assign rfl rfl) rfl rfl (.none rfl) ?_
    refine G_end (X_then (G_ret (X_then_ret ?_)))
    refine G_leaveS (.drop _ (.drop _ (.nil _))) (by exact (.cons (.tmp rfl) (.cons (.tmp rfl) (.nil)))) rfl ?_ ?_
    · exact hE10
    exact ⟨(by (simp (discharger := omega) only [resVal, hr, if_pos, if_neg]; first | done | rfl)), (by rfl)⟩
  rw [if_neg h]
  have h0 : bothL n a b c d n' a' b' c' d' = 0 := by omega
  have hb := bothL_n h0
  have hf := ckL_F hb.1
  have hf' := ckL_F hb.2
  have hn := ckL_n hb.1
  have hn' := ckL_n hb.2
  obtain ⟨m, rfl⟩ : ∃ m : Nat, n = m := ⟨n.toNat, by omega⟩
  obtain ⟨m', rfl⟩ : ∃ m : Nat, n' = m := ⟨n'.toNat, by omega⟩
  simp only [Int.toNat_natCast]
  by_cases heq : (m : Int) = m' ∧ a = a' ∧ b = b' ∧ c = c' ∧ d = d'
  · have e0 : cmpL ([a, b, c, d].take m) ([a', b', c', d'].take m') = 0 := by
      obtain ⟨h1, rfl, rfl, rfl, rfl⟩ := heq
      obtain rfl : m = m' := by omega
      exact cmpL_refl _
    rw [e0]
    refine CallS.intro (l := [_, _]) _ Tryd.func25 rfl Tryd.ntmps25 rfl ?_
    refine G_seq (G_region ?_)
    (refine G_boxA rfl rfl rfl rfl (.none rfl) ?_; intro b2)
    (refine G_boxA rfl rfl rfl rfl (.none rfl) ?_; intro b3)
    refine G_val (V_assign rfl rfl) rfl rfl (.none rfl) ?_
    refine G_val (V_assign rfl rfl) rfl rfl (.none rfl) ?_
    refine G_end (X_then (G_seq (G_seq (G_region ?_))))
    refine G_val (V_loadA rfl rfl (Cells.own (.tail _ (.head _))) rfl) rfl rfl (.none rfl) ?_
    refine G_val (V_loadA rfl rfl (Cells.own (.head _)) rfl) rfl rfl (.none rfl) ?_
    (refine G_litZ rfl rfl (by decide) (by simp [fillS, zeros, setLs, setL, Value.cells, List.range, List.range.loop]; rfl) (by rfl) rfl rfl (.none rfl) ?_; intro b10 E10 hE10 hs10)
    refine G_callv (k := 47) (.mk rfl rfl rfl rfl) rfl rfl (.none rfl) (right2_call' _ _ _ _ _ _ _ _ _ _ _ _ _ _ (by assumption)) ?_
    refine G_val (V_assign rfl rfl) rfl rfl (.none rfl) ?_
    refine G_end (X_then (G_seq (G_region ?_)))
    refine G_val (V_move rfl rfl) rfl rfl (.none rfl) ?_
    refine G_val (V_neq rfl rfl rfl) rfl rfl (.none rfl) ?_
    refine G_val (V_move rfl rfl) rfl rfl (.none rfl) ?_
    refine G.bool_f 14 rfl (decide_eq_false (by omega)) ?_
    refine G_val (V_loadA rfl rfl (Cells.own (.tail _ (.head _))) rfl) rfl rfl (.yes rfl rfl rfl rfl) ?_
    refine G_val (V_loadA rfl rfl (Cells.own (.head _)) rfl) rfl rfl (.yes rfl rfl rfl rfl) ?_
    refine G_val (V_aeql_25 rfl rfl rfl) rfl rfl (.yes rfl rfl rfl rfl) ?_
    refine G_val (V_pick_f rfl rfl rfl) rfl rfl (.none rfl) ?_
    refine G_end (X_then ?_)
    refine G_cond_t rfl (decide_eq_true (by omega)) ?_
    refine G_seq (G_region ?_)
    refine G_val (V_move rfl rfl) rfl rfl (.none rfl) ?_
    refine G_val (V_assign rfl rfl) rfl rfl (.none rfl) ?_
    refine G_val (V_assign rfl rfl) rfl rfl (.none rfl) ?_
    refine G_end (X_then (G_ret (X_then_ret ?_)))
    refine G_leaveS (.drop _ (.drop _ (.nil _))) (by exact (.cons (.tmp rfl) (.cons (.tmp rfl) (.nil)))) rfl ?_ ?_
    · exact hE10
    exact ⟨(by (simp (discharger := omega) only [resVal, h0, if_pos, if_neg]; first | done | rfl)), (by rfl)⟩
  have hl := take4_len m a b c d (by omega)
  have hl' := take4_len m' a' b' c' d' (by omega)
  refine CallS.intro (l := [_, _]) _ Tryd.func25 rfl Tryd.ntmps25 rfl ?_
  refine G_seq (G_region ?_)
  (refine G_boxA rfl rfl rfl rfl (.none rfl) ?_; intro b2)
  (refine G_boxA rfl rfl rfl rfl (.none rfl) ?_; intro b3)
  refine G_val (V_assign rfl rfl) rfl rfl (.none rfl) ?_
  refine G_val (V_assign rfl rfl) rfl rfl (.none rfl) ?_
  refine G_end (X_then (G_seq (G_seq (G_region ?_))))
  refine G_val (V_loadA rfl rfl (Cells.own (.tail _ (.head _))) rfl) rfl rfl (.none rfl) ?_
  refine G_val (V_loadA rfl rfl (Cells.own (.head _)) rfl) rfl rfl (.none rfl) ?_
  (refine G_litZ rfl rfl (by decide) (by simp [fillS, zeros, setLs, setL, Value.cells, List.range, List.range.loop]; rfl) (by rfl) rfl rfl (.none rfl) ?_; intro b10 E10 hE10 hs10)
  refine G_callv (k := 47) (.mk rfl rfl rfl rfl) rfl rfl (.none rfl) (right2_call' _ _ _ _ _ _ _ _ _ _ _ _ _ _ (by assumption)) ?_
  refine G_val (V_assign rfl rfl) rfl rfl (.none rfl) ?_
  refine G_end (X_then (G_seq (G_region ?_)))
  refine G_val (V_move rfl rfl) rfl rfl (.none rfl) ?_
  refine G_val (V_neq rfl rfl rfl) rfl rfl (.none rfl) ?_
  refine G_val (V_move rfl rfl) rfl rfl (.none rfl) ?_
  refine G.bool_f 14 rfl (decide_eq_false (by omega)) ?_
  refine G_val (V_loadA rfl rfl (Cells.own (.tail _ (.head _))) rfl) rfl rfl (.yes rfl rfl rfl rfl) ?_
  refine G_val (V_loadA rfl rfl (Cells.own (.head _)) rfl) rfl rfl (.yes rfl rfl rfl rfl) ?_
  refine G_val (V_aeql_25 rfl rfl rfl) rfl rfl (.yes rfl rfl rfl rfl) ?_
  refine G_val (V_pick_f rfl rfl rfl) rfl rfl (.none rfl) ?_
  refine G_end (X_then ?_)
  refine G_cond_f rfl (decide_eq_false (by omega)) ?_
  refine G_skip (X_then (G_seq (G_seq (G_region ?_))))
  refine G_val (V_fieldAddr rfl rfl (by decide)) rfl rfl (.none rfl) ?_
  refine G_val (V_load rfl rfl (Cell.own (.tail _ (.head _)) rfl)) rfl rfl (.none rfl) ?_
  refine G_val (V_fieldAddr rfl rfl (by decide)) rfl rfl (.none rfl) ?_
  refine G_val (V_load rfl rfl (Cell.own (.head _) rfl)) rfl rfl (.none rfl) ?_
  refine G_val (V_min rfl rfl rfl) rfl rfl (.none rfl) ?_
  refine G_val (V_move rfl rfl) rfl rfl (.none rfl) ?_
  refine G_end (X_then (G_block ?_))
  have emin : (min (m : Int) m') = ((min m m' : Nat) : Int) := by omega
  rw [emin]
  refine G_loop (α := Nat) (fun i => [(2, .pointer (some ⟨b2, 0, none⟩)), (3, .pointer (some ⟨b3, 0, none⟩)), (24, .int .i64 (min m m' : Nat)), (25, .int .i64 (i : Nat))]) (fun _ => E10) (fun _ => .blk b3 (.cells (lkC m' a' b' c' d') 25 (0, 0)) :: .blk b2 (.cells (lkC m a b c d) 25 (0, 0)) :: L)
    (fun i => i ≤ min m m' ∧ ∀ j, j < i → gd [a, b, c, d] j = gd [a', b', c', d'] j) (fun i => min m m' - i) 0 ⟨Nat.zero_le _, fun j h1 => by omega⟩ ⟨rfl, rfl, rfl, rfl, trivial⟩ rfl rfl ?_
  rintro i ⟨hi, hall⟩
  have hall2 : ∀ j, j < i → ([a, b, c, d].take m).getD j 0 = ([a', b', c', d'].take m').getD j 0 := fun j hj => by rw [gd_take _ _ _ (by omega), gd_take _ _ _ (by omega)]; exact hall j hj
  by_cases hlt : i < min m m'
  · have hx := lk_cell (E := E10) (L := .blk b3 (.cells (lkC m' a' b' c' d') 25 (0, 0)) :: .blk b2 (.cells (lkC m a b c d) 25 (0, 0)) :: L) i (by omega) (.head _)
    have hy := lk_cell (E := E10) (L := .blk b3 (.cells (lkC m' a' b' c' d') 25 (0, 0)) :: .blk b2 (.cells (lkC m a b c d) 25 (0, 0)) :: L) i (by omega) (.tail _ (.head _))
    by_cases h5 : gd [a, b, c, d] i = gd [a', b', c', d'] i
    · refine G_seq ?_
      refine G_region ?_
      refine G_val (V_lss rfl rfl rfl) rfl rfl (.none rfl) ?_
      refine G_end (X_then (G_seq ?_))
      refine G_cond_t rfl (decide_eq_true (by omega)) ?_
      refine G_skip (X_then (G_seq (G_block (G_seq (G_region ?_)))))
      refine G_val (V_move rfl rfl) rfl rfl (.none rfl) ?_
      refine G_val (V_assign rfl rfl) rfl rfl (.none rfl) ?_
      refine G_end (X_then (G_seq ?_))
      refine G_draw mixed (by kernel_rfl) ?_
      refine Q_val (V_move rfl rfl) rfl rfl (.none rfl) ?_
      refine Q_val (V_fieldAddr rfl rfl (by decide)) rfl rfl (.none rfl) ?_
      refine Q_val (V_idxAddrArr rfl rfl rfl (by omega) (by omega)) rfl rfl (.none rfl) ?_
      refine Q_val (V_load rfl rfl (by assumption)) rfl rfl (.none rfl) ?_
      refine Q_val (V_move rfl rfl) rfl rfl (.none rfl) ?_
      refine Q_val (V_fieldAddr rfl rfl (by decide)) rfl rfl (.none rfl) ?_
      refine Q_val (V_idxAddrArr rfl rfl rfl (by omega) (by omega)) rfl rfl (.none rfl) ?_
      refine Q_val (V_load rfl rfl (by assumption)) rfl rfl (.none rfl) ?_
      refine Q_val (V_neq rfl rfl rfl) rfl rfl (.none rfl) ?_
      refine Q_end ?_
      refine X_then ?_
      refine G_cond_f rfl (decide_eq_false (by omega)) ?_
      refine G_skip (X_block (X_then (G_region ?_)))
      refine G_val (V_add_i64 rfl rfl rfl (by omega) (by omega)) rfl rfl (.none rfl) ?_
      refine G_val (V_move rfl rfl) rfl rfl (.none rfl) ?_
      refine G_end (X_then ?_)
      exact G_again (i + 1) ⟨by omega, fun j h1 => by
        by_cases e : j = i
        · rw [e]; exact h5
        · exact hall j (by omega)⟩ (by omega) ⟨rfl, rfl, rfl, rfl, trivial⟩ rfl rfl
    · rw [cmpL_at _ _ i (by omega) (by omega) hall2 (by rw [gd_take _ _ _ (by omega), gd_take _ _ _ (by omega)]; exact h5), gd_take _ _ _ (by omega), gd_take _ _ _ (by omega)]
      by_cases h1 : gd [a, b, c, d] i < gd [a', b', c', d'] i
      · rw [if_pos h1]
        refine G_seq (G_region ?_)
        refine G_val (V_lss rfl rfl rfl) rfl rfl (.none rfl) ?_
        refine G_end (X_then (G_seq ?_))
        refine G_cond_t rfl (decide_eq_true (by omega)) ?_
        refine G_skip (X_then (G_seq (G_block (G_seq (G_region ?_)))))
        refine G_val (V_move rfl rfl) rfl rfl (.none rfl) ?_
        refine G_val (V_assign rfl rfl) rfl rfl (.none rfl) ?_
        refine G_end (X_then (G_seq ?_))
        refine G_draw mixed (by kernel_rfl) ?_
        refine Q_val (V_move rfl rfl) rfl rfl (.none rfl) ?_
        refine Q_val (V_fieldAddr rfl rfl (by decide)) rfl rfl (.none rfl) ?_
        refine Q_val (V_idxAddrArr rfl rfl rfl (by omega) (by omega)) rfl rfl (.none rfl) ?_
        refine Q_val (V_load rfl rfl (by assumption)) rfl rfl (.none rfl) ?_
        refine Q_val (V_move rfl rfl) rfl rfl (.none rfl) ?_
        refine Q_val (V_fieldAddr rfl rfl (by decide)) rfl rfl (.none rfl) ?_
        refine Q_val (V_idxAddrArr rfl rfl rfl (by omega) (by omega)) rfl rfl (.none rfl) ?_
        refine Q_val (V_load rfl rfl (by assumption)) rfl rfl (.none rfl) ?_
        refine Q_val (V_neq rfl rfl rfl) rfl rfl (.none rfl) ?_
        refine Q_end ?_
        refine X_then ?_
        refine G_cond_t rfl (decide_eq_true (by omega)) ?_
        refine G_seq (G_seq ?_)
        refine G_draw mixed (by kernel_rfl) ?_
        refine Q_val (V_move rfl rfl) rfl rfl (.none rfl) ?_
        refine Q_val (V_fieldAddr rfl rfl (by decide)) rfl rfl (.none rfl) ?_
        refine Q_val (V_idxAddrArr rfl rfl rfl (by omega) (by omega)) rfl rfl (.none rfl) ?_
        refine Q_val (V_load rfl rfl (by assumption)) rfl rfl (.none rfl) ?_
        refine Q_val (V_move rfl rfl) rfl rfl (.none rfl) ?_
        refine Q_val (V_fieldAddr rfl rfl (by decide)) rfl rfl (.none rfl) ?_
        refine Q_val (V_idxAddrArr rfl rfl rfl (by omega) (by omega)) rfl rfl (.none rfl) ?_
        refine Q_val (V_load rfl rfl (by assumption)) rfl rfl (.none rfl) ?_
        refine Q_val (V_lss rfl rfl rfl) rfl rfl (.none rfl) ?_
        refine Q_end ?_
        refine X_then ?_
        refine G_cond_t rfl (decide_eq_true (by omega)) ?_
        refine G_seq (G_region ?_)
        refine G_val (V_assign rfl rfl) rfl rfl (.none rfl) ?_
        refine G_val (V_assign rfl rfl) rfl rfl (.none rfl) ?_
        refine G_end (X_then (G_ret (X_then_ret (X_block_ret (X_then_ret (X_then_ret (X_block_ret (X_then_ret ?_))))))))
        refine G_leaveS (.drop _ (.drop _ (.nil _))) (by exact (.cons (.tmp rfl) (.cons (.tmp rfl) (.nil)))) rfl ?_ ?_
        · exact hE10
        exact ⟨(by kernel_rfl), rfl⟩
      · rw [if_neg h1]
        refine G_seq (G_region ?_)
        refine G_val (V_lss rfl rfl rfl) rfl rfl (.none rfl) ?_
        refine G_end (X_then (G_seq ?_))
        refine G_cond_t rfl (decide_eq_true (by omega)) ?_
        refine G_skip (X_then (G_seq (G_block (G_seq (G_region ?_)))))
        refine G_val (V_move rfl rfl) rfl rfl (.none rfl) ?_
        refine G_val (V_assign rfl rfl) rfl rfl (.none rfl) ?_
        refine G_end (X_then (G_seq ?_))
        refine G_draw mixed (by kernel_rfl) ?_
        refine Q_val (V_move rfl rfl) rfl rfl (.none rfl) ?_
        refine Q_val (V_fieldAddr rfl rfl (by decide)) rfl rfl (.none rfl) ?_
        refine Q_val (V_idxAddrArr rfl rfl rfl (by omega) (by omega)) rfl rfl (.none rfl) ?_
        refine Q_val (V_load rfl rfl (by assumption)) rfl rfl (.none rfl) ?_
        refine Q_val (V_move rfl rfl) rfl rfl (.none rfl) ?_
        refine Q_val (V_fieldAddr rfl rfl (by decide)) rfl rfl (.none rfl) ?_
        refine Q_val (V_idxAddrArr rfl rfl rfl (by omega) (by omega)) rfl rfl (.none rfl) ?_
        refine Q_val (V_load rfl rfl (by assumption)) rfl rfl (.none rfl) ?_
        refine Q_val (V_neq rfl rfl rfl) rfl rfl (.none rfl) ?_
        refine Q_end ?_
        refine X_then ?_
        refine G_cond_t rfl (decide_eq_true (by omega)) ?_
        refine G_seq (G_seq ?_)
        refine G_draw mixed (by kernel_rfl) ?_
        refine Q_val (V_move rfl rfl) rfl rfl (.none rfl) ?_
        refine Q_val (V_fieldAddr rfl rfl (by decide)) rfl rfl (.none rfl) ?_
        refine Q_val (V_idxAddrArr rfl rfl rfl (by omega) (by omega)) rfl rfl (.none rfl) ?_
        refine Q_val (V_load rfl rfl (by assumption)) rfl rfl (.none rfl) ?_
        refine Q_val (V_move rfl rfl) rfl rfl (.none rfl) ?_
        refine Q_val (V_fieldAddr rfl rfl (by decide)) rfl rfl (.none rfl) ?_
        refine Q_val (V_idxAddrArr rfl rfl rfl (by omega) (by omega)) rfl rfl (.none rfl) ?_
        refine Q_val (V_load rfl rfl (by assumption)) rfl rfl (.none rfl) ?_
        refine Q_val (V_lss rfl rfl rfl) rfl rfl (.none rfl) ?_
        refine Q_end ?_
        refine X_then ?_
        refine G_cond_f rfl (decide_eq_false (by omega)) ?_
        refine G_skip (X_then (G_seq (G_region ?_)))
        refine G_val (V_assign rfl rfl) rfl rfl (.none rfl) ?_
        refine G_val (V_assign rfl rfl) rfl rfl (.none rfl) ?_
        refine G_end (X_then (G_ret (X_block_ret (X_then_ret (X_then_ret (X_block_ret (X_then_ret ?_)))))))
        refine G_leaveS (.drop _ (.drop _ (.nil _))) (by exact (.cons (.tmp rfl) (.cons (.tmp rfl) (.nil)))) rfl ?_ ?_
        · exact hE10
        exact ⟨(by kernel_rfl), rfl⟩
  · rw [cmpL_end _ _ i (by omega) hall2, hl, hl']
    by_cases h1 : m < m'
    · rw [if_pos h1]
      refine G_seq (G_region ?_)
      refine G_val (V_lss rfl rfl rfl) rfl rfl (.none rfl) ?_
      refine G_end (X_then (G_seq ?_))
      refine G_cond_f rfl (decide_eq_false (by omega)) ?_
      refine G_exit (X_then_exit (X_then_exit (X_block_hit (X_then (G_seq (G_seq (G_region ?_)))))))
      refine G_val (V_fieldAddr rfl rfl (by decide)) rfl rfl (.none rfl) ?_
      refine G_val (V_load rfl rfl (Cell.own (.tail _ (.head _)) rfl)) rfl rfl (.none rfl) ?_
      refine G_val (V_fieldAddr rfl rfl (by decide)) rfl rfl (.none rfl) ?_
      refine G_val (V_load rfl rfl (Cell.own (.head _) rfl)) rfl rfl (.none rfl) ?_
      refine G_val (V_lss rfl rfl rfl) rfl rfl (.none rfl) ?_
      refine G_end (X_then ?_)
      refine G_cond_t rfl (decide_eq_true (by omega)) ?_
      refine G_seq (G_region ?_)
      refine G_val (V_assign rfl rfl) rfl rfl (.none rfl) ?_
      refine G_val (V_assign rfl rfl) rfl rfl (.none rfl) ?_
      refine G_end (X_then (G_ret (X_then_ret ?_)))
      refine G_leaveS (.drop _ (.drop _ (.nil _))) (by exact (.cons (.tmp rfl) (.cons (.tmp rfl) (.nil)))) rfl ?_ ?_
      · exact hE10
      exact ⟨(by kernel_rfl), rfl⟩
    · rw [if_neg h1]
      by_cases h2 : m' < m
      · rw [if_pos h2]
        refine G_seq (G_region ?_)
        refine G_val (V_lss rfl rfl rfl) rfl rfl (.none rfl) ?_
        refine G_end (X_then (G_seq ?_))
        refine G_cond_f rfl (decide_eq_false (by omega)) ?_
        refine G_exit (X_then_exit (X_then_exit (X_block_hit (X_then (G_seq (G_seq (G_region ?_)))))))
        refine G_val (V_fieldAddr rfl rfl (by decide)) rfl rfl (.none rfl) ?_
        refine G_val (V_load rfl rfl (Cell.own (.tail _ (.head _)) rfl)) rfl rfl (.none rfl) ?_
        refine G_val (V_fieldAddr rfl rfl (by decide)) rfl rfl (.none rfl) ?_
        refine G_val (V_load rfl rfl (Cell.own (.head _) rfl)) rfl rfl (.none rfl) ?_
        refine G_val (V_lss rfl rfl rfl) rfl rfl (.none rfl) ?_
        refine G_end (X_then ?_)
        refine G_cond_f rfl (decide_eq_false (by omega)) ?_
        refine G_skip (X_then (G_seq (G_region ?_)))
        refine G_val (V_assign rfl rfl) rfl rfl (.none rfl) ?_
        refine G_val (V_assign rfl rfl) rfl rfl (.none rfl) ?_
        refine G_end (X_then (G_ret ?_))
        refine G_leaveS (.drop _ (.drop _ (.nil _))) (by exact (.cons (.tmp rfl) (.cons (.tmp rfl) (.nil)))) rfl ?_ ?_
        · exact hE10
        exact ⟨(by kernel_rfl), rfl⟩
      · exfalso
        obtain rfl : m = m' := by omega
        exact heq ⟨rfl, same_all hf hf' (fun j hj => hall j (by omega))⟩
end
/-! The references Of, List. -/
section
variable (E : Env) (L : List Res)
theorem ofC_set2 (l : List Int) (m i : Nat) (h : i < 4) (hl : l.length = i) (n : Int) (v : Int) : ([.int .i64 n, .int .i64 (gd l 0), .int .i64 (gd l 1), .int .i64 (gd l 2), .int .i64 (gd l 3)] : List Value).set (0 + 1 + (i : Int).toNat * 1) (.int .i64 v) = [.int .i64 n, .int .i64 (gd (l ++ [v]) 0), .int .i64 (gd (l ++ [v]) 1), .int .i64 (gd (l ++ [v]) 2), .int .i64 (gd (l ++ [v]) 3)] := by
  subst hl
  rcases l with _ | ⟨a, _ | ⟨b, _ | ⟨c, _ | ⟨d, r⟩⟩⟩⟩
  · rfl
  · rfl
  · rfl
  · rfl
  · simp only [List.length_cons] at h; omega
theorem ROf_call (p : Option Addr) (n c : Nat) (l : List Int) (h : SlE E 1 p n (i64s l)) (hn : n ≤ 9223372036854775806) : CallV Tryd.prog 13 #[.slice p n c] E L (.tuple #[(ofM l).1, .int .i64 (ofM l).2]) := by
  have e := h.nI
  subst e
  unfold ofM
  by_cases h4 : 4 < l.length
  · rw [if_pos h4]
    refine CallS.toV (CallS.intro (l := [_]) _ Tryd.func13 rfl Tryd.ntmps13 rfl ?_)
    refine G_seq (G_region ?_)
    (refine G_alloc rfl rfl rfl (.none rfl) ?_; intro b2)
    refine G_val (V_assign rfl rfl) rfl rfl (.none rfl) ?_
    refine G_end (X_then (G_seq (G_seq (G_region ?_))))
    refine G_val (V_move rfl rfl) rfl rfl (.none rfl) ?_
    refine G_val (V_lenS rfl rfl) rfl rfl (.none rfl) ?_
    refine G_val (V_gtr rfl rfl rfl) rfl rfl (.none rfl) ?_
    refine G_end (X_then ?_)
    refine G_cond_t rfl (decide_eq_true (by omega)) ?_
    refine G_seq (G_region ?_)
    refine G_val (V_build rfl rfl (by simp [fillV, setLs, setL, Value.cells]; rfl)) rfl rfl (.none rfl) ?_
    refine G_storeA rfl rfl rfl rfl (by simp [Value.oneCell']) rfl (.none rfl) (.head _ _ _) rfl ?_
    refine G_val (V_assign rfl rfl) rfl rfl (.none rfl) ?_
    refine G_end (X_then (G_ret (X_then_ret ?_)))
    refine G_leaveS (.drop _ (.nil _)) (by exact (.cons (.cellA rfl (Cells.own (.head _)) rfl) (.cons (.tmp rfl) (.nil)))) rfl ?_ ?_
    · exact (.refl _)
    exact ⟨(by kernel_rfl), rfl⟩
  rw [if_neg h4]
  refine CallS.toV (CallS.intro (l := [_]) _ Tryd.func13 rfl Tryd.ntmps13 rfl ?_)
  refine G_seq (G_region ?_)
  (refine G_alloc rfl rfl rfl (.none rfl) ?_; intro b2)
  refine G_val (V_assign rfl rfl) rfl rfl (.none rfl) ?_
  refine G_end (X_then (G_seq (G_seq (G_region ?_))))
  refine G_val (V_move rfl rfl) rfl rfl (.none rfl) ?_
  refine G_val (V_lenS rfl rfl) rfl rfl (.none rfl) ?_
  refine G_val (V_gtr rfl rfl rfl) rfl rfl (.none rfl) ?_
  refine G_end (X_then ?_)
  refine G_cond_f rfl (decide_eq_false (by omega)) ?_
  refine G_skip (X_then (G_seq (G_region ?_)))
  refine G_val (V_move rfl rfl) rfl rfl (.none rfl) ?_
  refine G_val (V_lenS rfl rfl) rfl rfl (.none rfl) ?_
  refine G_val (V_build rfl rfl (by simp [fillV, setLs, setL, Value.cells]; rfl)) rfl rfl (.none rfl) ?_
  (refine G_alloc rfl rfl rfl (.none rfl) ?_; intro b4)
  refine G_storeA rfl rfl rfl rfl (by simp [Value.oneCell']) rfl (.none rfl) (.head _ _ _) rfl ?_
  refine G_end (X_then (G_seq (G_seq (G_region ?_))))
  refine G_val (V_assign rfl rfl) rfl rfl (.none rfl) ?_
  refine G_end (X_then (G_block ?_))
  refine G_loop (α := Nat) (fun i => [(0, .slice p l.length c), (2, .pointer (some ⟨b2, 0, none⟩)), (3, .int .i64 0), (4, .pointer (some ⟨b4, 0, none⟩)), (5, .int .i64 (i : Nat))]) (fun _ => E)
    (fun i => .blk b4 (.cells ([.int .i64 l.length, .int .i64 (gd (l.take i) 0), .int .i64 (gd (l.take i) 1), .int .i64 (gd (l.take i) 2), .int .i64 (gd (l.take i) 3)] : List Value).toArray 25 (0, 0)) :: .blk b2 (.cells (lkC 0 0 0 0 0) 25 (0, 0)) :: L)
    (fun i => i ≤ l.length ∧ ∀ x, x ∈ l.take i → 0 ≤ x ∧ x < 8) (fun i => l.length - i) 0 ⟨Nat.zero_le _, fun x h => by cases h⟩ ⟨rfl, rfl, rfl, rfl, rfl, trivial⟩ rfl rfl ?_
  rintro i ⟨hi, hall⟩
  have hil : (l.take i).length = i := by rw [List.length_take]; omega
  by_cases hlt : i < l.length
  · have hx := i64s_get (List.getElem?_eq_getElem hlt)
    by_cases hin : 0 ≤ l[i] ∧ l[i] < 8
    · refine G_seq ?_
      refine G_seq (G_region ?_)
      refine G_val (V_move rfl rfl) rfl rfl (.none rfl) ?_
      refine G_val (V_move rfl rfl) rfl rfl (.none rfl) ?_
      refine G_val (V_lenS rfl rfl) rfl rfl (.none rfl) ?_
      refine G_val (V_lss rfl rfl rfl) rfl rfl (.none rfl) ?_
      refine G_end (X_then ?_)
      refine G_cond_t rfl (decide_eq_true (by omega)) ?_
      refine G_skip (X_then (G_seq (G_block (G_seq (G_seq (G_region ?_))))))
      refine G_val (V_move rfl rfl) rfl rfl (.none rfl) ?_
      refine G_val (V_move rfl rfl) rfl rfl (.none rfl) ?_
      refine G_val (V_idxAddr rfl rfl rfl (SlE.rd (by assumption)) (by omega) (by omega)) rfl rfl (.none rfl) ?_
      refine G_val (V_loadS rfl rfl (SlE.rd (by assumption)) (by assumption) (by simp)) rfl rfl (.none rfl) ?_
      refine G_val (V_lss rfl rfl rfl) rfl rfl (.none rfl) ?_
      refine G_val (V_move rfl rfl) rfl rfl (.none rfl) ?_
      refine G.bool_f 24 rfl (decide_eq_false (by omega)) ?_
      refine G_val (V_move rfl rfl) rfl rfl (.yes rfl rfl rfl rfl) ?_
      refine G_val (V_move rfl rfl) rfl rfl (.yes rfl rfl rfl rfl) ?_
      refine G_val (V_idxAddr rfl rfl rfl (SlE.rd (by assumption)) (by omega) (by omega)) rfl rfl (.yes rfl rfl rfl rfl) ?_
      refine G_val (V_loadS rfl rfl (SlE.rd (by assumption)) (by assumption) (by simp)) rfl rfl (.yes rfl rfl rfl rfl) ?_
      refine G_val (V_geq rfl rfl rfl) rfl rfl (.yes rfl rfl rfl rfl) ?_
      refine G_val (V_pick_f rfl rfl rfl) rfl rfl (.none rfl) ?_
      refine G_end (X_then ?_)
      refine G_cond_f rfl (decide_eq_false (by omega)) ?_
      refine G_skip (X_then (G_region ?_))
      refine G_val (V_move rfl rfl) rfl rfl (.none rfl) ?_
      refine G_val (V_move rfl rfl) rfl rfl (.none rfl) ?_
      refine G_val (V_move rfl rfl) rfl rfl (.none rfl) ?_
      refine G_val (V_idxAddr rfl rfl rfl (SlE.rd (by assumption)) (by omega) (by omega)) rfl rfl (.none rfl) ?_
      refine G_val (V_loadS rfl rfl (SlE.rd (by assumption)) (by assumption) (by simp)) rfl rfl (.none rfl) ?_
      refine G_val (V_fieldAddr rfl rfl (by decide)) rfl rfl (.none rfl) ?_
      refine G_val (V_idxAddrArr rfl rfl rfl (by omega) (by omega)) rfl rfl (.none rfl) ?_
      refine G_storeB rfl rfl rfl rfl rfl rfl (.none rfl) (.head _ _ _) (by show _ < 5; omega) ?_
      rw [ofC_set2 _ i i (by omega) hil, ← List.take_succ_eq_append_getElem hlt]
      refine G_end (X_block (X_then (G_region ?_)))
      refine G_val (V_move rfl rfl) rfl rfl (.none rfl) ?_
      refine G_val (V_add_i64 rfl rfl rfl (by omega) (by omega)) rfl rfl (.none rfl) ?_
      refine G_val (V_assign rfl rfl) rfl rfl (.none rfl) ?_
      refine G_end (X_then ?_)
      exact G_again (i + 1) ⟨hlt, fun x h => by
        rw [List.take_succ_eq_append_getElem (by omega)] at h
        rcases List.mem_append.1 h with h | h
        · exact hall x h
        · rw [List.mem_singleton.1 h]; exact hin⟩ (by omega) ⟨rfl, rfl, rfl, rfl, rfl, trivial⟩ rfl rfl
    · rw [if_neg (fun h => hin (h _ (List.getElem_mem _)))]
      refine G_seq (G_seq (G_region ?_))
      refine G_val (V_move rfl rfl) rfl rfl (.none rfl) ?_
      refine G_val (V_move rfl rfl) rfl rfl (.none rfl) ?_
      refine G_val (V_lenS rfl rfl) rfl rfl (.none rfl) ?_
      refine G_val (V_lss rfl rfl rfl) rfl rfl (.none rfl) ?_
      refine G_end (X_then ?_)
      refine G_cond_t rfl (decide_eq_true (by omega)) ?_
      refine G_skip (X_then (G_seq (G_block (G_seq (G_seq (G_region ?_))))))
      refine G_val (V_move rfl rfl) rfl rfl (.none rfl) ?_
      refine G_val (V_move rfl rfl) rfl rfl (.none rfl) ?_
      refine G_val (V_idxAddr rfl rfl rfl (SlE.rd (by assumption)) (by omega) (by omega)) rfl rfl (.none rfl) ?_
      refine G_val (V_loadS rfl rfl (SlE.rd (by assumption)) (by assumption) (by simp)) rfl rfl (.none rfl) ?_
      refine G_val (V_lss rfl rfl rfl) rfl rfl (.none rfl) ?_
      refine G_val (V_move rfl rfl) rfl rfl (.none rfl) ?_
      apply G_joinOr 6 24 30 rfl
      · intro H1
        dsimp only [List.take]
        simp only [Bool.and_eq_true, Bool.or_eq_true, Bool.not_eq_true', Bool.not_eq_false', Bool.and_eq_false_iff, Bool.or_eq_false_iff, Bool.not_not, decide_eq_true_eq, decide_eq_false_iff_not, ne_eq, Decidable.not_not, Bool.decide_eq_true] at H1
        refine G_stay (.no rfl rfl rfl rfl) rfl rfl ?_
        refine G_stay (.no rfl rfl rfl rfl) rfl rfl ?_
        refine G_stay (.no rfl rfl rfl rfl) rfl rfl ?_
        refine G_stay (.no rfl rfl rfl rfl) rfl rfl ?_
        refine G_stay (.no rfl rfl rfl rfl) rfl rfl ?_
        refine G_val (V_pick_t rfl rfl rfl) rfl rfl (.none rfl) ?_
        refine G_end ?_
        exact JQ_end 6 rfl rfl (by kernel_rfl)
      · intro H2
        dsimp only [List.take]
        simp only [Bool.and_eq_true, Bool.or_eq_true, Bool.not_eq_true', Bool.not_eq_false', Bool.and_eq_false_iff, Bool.or_eq_false_iff, Bool.not_not, decide_eq_true_eq, decide_eq_false_iff_not, ne_eq, Decidable.not_not, Bool.decide_eq_true] at H2
        refine G_val (V_move rfl rfl) rfl rfl (.yes rfl rfl rfl rfl) ?_
        refine G_val (V_move rfl rfl) rfl rfl (.yes rfl rfl rfl rfl) ?_
        refine G_val (V_idxAddr rfl rfl rfl (SlE.rd (by assumption)) (by omega) (by omega)) rfl rfl (.yes rfl rfl rfl rfl) ?_
        refine G_val (V_loadS rfl rfl (SlE.rd (by assumption)) (by assumption) (by simp)) rfl rfl (.yes rfl rfl rfl rfl) ?_
        refine G_val (V_geq rfl rfl rfl) rfl rfl (.yes rfl rfl rfl rfl) ?_
        refine G_val (V_pick_f rfl rfl rfl) rfl rfl (.none rfl) ?_
        refine G_end ?_
        exact JQ_end 6 rfl rfl (by kernel_rfl)
      dsimp only [List.drop]
      refine G_end (X_then ?_)
      refine G_cond rfl (fun H3 => ?_) (fun H3 => ?_)
      · simp only [Bool.and_eq_true, Bool.or_eq_true, Bool.not_eq_true', Bool.not_eq_false', Bool.and_eq_false_iff, Bool.or_eq_false_iff, Bool.not_not, decide_eq_true_eq, decide_eq_false_iff_not, ne_eq, Decidable.not_not, Bool.decide_eq_true] at H3
        refine G_seq (G_region ?_)
        refine G_val (V_build rfl rfl (by simp [fillV, setLs, setL, Value.cells]; rfl)) rfl rfl (.none rfl) ?_
        refine G_storeA rfl rfl rfl rfl (by simp [Value.oneCell']) rfl (.none rfl) (.tail _ (.head _ _ _)) rfl ?_
        refine G_val (V_assign rfl rfl) rfl rfl (.none rfl) ?_
        refine G_end (X_then (G_ret (X_then_ret (X_block_ret (X_then_ret (X_then_ret (X_block_ret (X_then_ret ?_))))))))
        refine G_leaveS (.drop _ (.drop _ (.nil _))) (by exact (.cons (.cellA rfl (Cells.own (.tail _ (.head _))) rfl) (.cons (.tmp rfl) (.nil)))) rfl ?_ ?_
        · exact (.refl _)
        exact ⟨(by kernel_rfl), rfl⟩
      simp only [Bool.and_eq_true, Bool.or_eq_true, Bool.not_eq_true', Bool.not_eq_false', Bool.and_eq_false_iff, Bool.or_eq_false_iff, Bool.not_not, decide_eq_true_eq, decide_eq_false_iff_not, ne_eq, Decidable.not_not, Bool.decide_eq_true] at H3
      (exfalso; omega)
  · rw [List.take_of_length_le (by omega)] at hall ⊢
    rw [if_pos hall]
    have e4 : min l.length 4 = l.length := by omega
    show G _ _ _ _ _ _
    refine G_seq (G_seq (G_region ?_))
    refine G_val (V_move rfl rfl) rfl rfl (.none rfl) ?_
    refine G_val (V_move rfl rfl) rfl rfl (.none rfl) ?_
    refine G_val (V_lenS rfl rfl) rfl rfl (.none rfl) ?_
    refine G_val (V_lss rfl rfl rfl) rfl rfl (.none rfl) ?_
    refine G_end (X_then ?_)
    refine G_cond_f rfl (decide_eq_false (by omega)) ?_
    refine G_exit (X_then_exit (X_then_exit (X_block_hit (X_then (G_seq (G_region ?_))))))
    refine G_val (V_loadA rfl rfl (Cells.own (.head _)) rfl) rfl rfl (.none rfl) ?_
    refine G_storeA rfl rfl rfl rfl (by simp [Value.oneCell']) rfl (.none rfl) (.tail _ (.head _ _ _)) rfl ?_
    refine G_val (V_assign rfl rfl) rfl rfl (.none rfl) ?_
    refine G_end (X_then (G_ret ?_))
    refine G_leaveS (.drop _ (.drop _ (.nil _))) (by exact (.cons (.cellA rfl (Cells.own (.tail _ (.head _))) rfl) (.cons (.tmp rfl) (.nil)))) rfl ?_ ?_
    · exact (.refl _)
    exact ⟨(by (simp [resVal, e4, *]; done)), (by rfl)⟩
end
end Go.Proofs.YthcfakmmomfcaaaDoor
set_option linter.unusedSimpArgs false
set_option linter.unusedVariables false
set_option maxHeartbeats 2000000
set_option maxRecDepth 20000
namespace Go.Proofs.YthcfakmmomfcaaaDoor
open Go.RowKit
/-! Texts. -/
def dgb (x : Int) : UInt8 := UInt8.ofNat (48 + x.toNat)
theorem dgb_eq {x : Int} (h : 0 ≤ x ∧ x < 10) : 48 + x = ((dgb x).toNat : Int) := by
  unfold dgb
  rw [UInt8.toNat_ofNat']
  omega
def txR : List Int → List UInt8
  | [] => []
  | x :: l => dgb x :: l.flatMap fun y => [32, dgb y]
theorem txR_len (xs : List Int) : (txR xs).length ≤ 2 * xs.length := by
  have key : ∀ l : List Int, (l.flatMap fun y => [32, dgb y]).length = 2 * l.length := by
    intro l
    induction l with
    | nil => rfl
    | cons y ys ih =>
      rw [List.flatMap_cons, List.length_append, ih]
      simp only [List.length_cons, List.length_nil]
      omega
  rcases xs with _ | ⟨x, xs⟩
  · simp [txR]
  · simp only [txR, List.length_cons, key]
    omega
/-- Text: the text and the error -/
def txM (n a b c d : Int) : List UInt8 × Int := if ckL n a b c d 8 ≠ 0 then ([], ckL n a b c d 8) else if n = 0 then ([45], 0) else (txR ([a, b, c, d].take n.toNat), 0)
theorem ckL_S {m : Nat} {a b c d t : Int} (h : ckL m a b c d t = 0) : ∀ j, j < m → 0 ≤ gd [a, b, c, d] j ∧ gd [a, b, c, d] j < t := by
  have hf := ckL_F h
  have hn := ckL_n h
  by_cases hs : ckS m a b c d t
  · exact (ck2 m a b c d t (by omega)).2 hs
  · exfalso
    unfold ckL at h
    by_cases ht : t < 1 ∨ 8 < t
    · rw [if_pos ht] at h; omega
    · rw [if_neg ht, if_neg (not_not_intro hf), if_neg hs] at h; omega
section
variable (E : Env) (L : List Res)
theorem small_call (x : Int) (h : 0 ≤ x ∧ x < 10) : CallV Tryd.prog 74 #[.int .i64 x] E L (.string (S [dgb x])) := by
  refine CallS.toV (CallS.intro (l := [_]) _ Tryd.func74 rfl Tryd.ntmps74 rfl ?_)
  have : x = 0 ∨ x = 1 ∨ x = 2 ∨ x = 3 ∨ x = 4 ∨ x = 5 ∨ x = 6 ∨ x = 7 ∨ x = 8 ∨ x = 9 := by omega
  rcases this with rfl | rfl | rfl | rfl | rfl | rfl | rfl | rfl | rfl | rfl
  · refine G_seq ?_
    refine G_region ?_
    refine G_val (V_assign rfl rfl) rfl rfl (.none rfl) ?_
    refine G_end (X_then (G_seq (G_seq (G_region ?_))))
    refine G_val (V_move rfl rfl) rfl rfl (.none rfl) ?_
    refine G_val (V_lss rfl rfl rfl) rfl rfl (.none rfl) ?_
    refine G_end (X_then ?_)
    refine G_cond_t rfl (by kernel_rfl) ?_
    refine G_seq (G_region ?_)
    refine G_val (V_move rfl rfl) rfl rfl (.none rfl) ?_
    refine G_val (V_move rfl rfl) rfl rfl (.none rfl) ?_
    refine G_val (V_add_i64 rfl rfl rfl (by omega) (by omega)) rfl rfl (.none rfl) ?_
    refine G_val (V_cut rfl rfl rfl rfl (by omega) (by omega) (by simp only [List.length_cons, List.length_nil]; omega)) rfl rfl (.none rfl) ?_
    refine G_val (V_assign rfl rfl) rfl rfl (.none rfl) ?_
    refine G_end (X_then (G_ret (X_then_ret ?_)))
    refine G_leaveS (.nil _) (by exact (.cons (.tmp rfl) (.nil))) rfl ?_ ?_
    · exact (.refl _)
    exact ⟨(by kernel_rfl), rfl⟩
  · refine G_seq ?_
    refine G_region ?_
    refine G_val (V_assign rfl rfl) rfl rfl (.none rfl) ?_
    refine G_end (X_then (G_seq (G_seq (G_region ?_))))
    refine G_val (V_move rfl rfl) rfl rfl (.none rfl) ?_
    refine G_val (V_lss rfl rfl rfl) rfl rfl (.none rfl) ?_
    refine G_end (X_then ?_)
    refine G_cond_t rfl (by kernel_rfl) ?_
    refine G_seq (G_region ?_)
    refine G_val (V_move rfl rfl) rfl rfl (.none rfl) ?_
    refine G_val (V_move rfl rfl) rfl rfl (.none rfl) ?_
    refine G_val (V_add_i64 rfl rfl rfl (by omega) (by omega)) rfl rfl (.none rfl) ?_
    refine G_val (V_cut rfl rfl rfl rfl (by omega) (by omega) (by simp only [List.length_cons, List.length_nil]; omega)) rfl rfl (.none rfl) ?_
    refine G_val (V_assign rfl rfl) rfl rfl (.none rfl) ?_
    refine G_end (X_then (G_ret (X_then_ret ?_)))
    refine G_leaveS (.nil _) (by exact (.cons (.tmp rfl) (.nil))) rfl ?_ ?_
    · exact (.refl _)
    exact ⟨(by kernel_rfl), rfl⟩
  · refine G_seq ?_
    refine G_region ?_
    refine G_val (V_assign rfl rfl) rfl rfl (.none rfl) ?_
    refine G_end (X_then (G_seq (G_seq (G_region ?_))))
    refine G_val (V_move rfl rfl) rfl rfl (.none rfl) ?_
    refine G_val (V_lss rfl rfl rfl) rfl rfl (.none rfl) ?_
    refine G_end (X_then ?_)
    refine G_cond_t rfl (by kernel_rfl) ?_
    refine G_seq (G_region ?_)
    refine G_val (V_move rfl rfl) rfl rfl (.none rfl) ?_
    refine G_val (V_move rfl rfl) rfl rfl (.none rfl) ?_
    refine G_val (V_add_i64 rfl rfl rfl (by omega) (by omega)) rfl rfl (.none rfl) ?_
    refine G_val (V_cut rfl rfl rfl rfl (by omega) (by omega) (by simp only [List.length_cons, List.length_nil]; omega)) rfl rfl (.none rfl) ?_
    refine G_val (V_assign rfl rfl) rfl rfl (.none rfl) ?_
    refine G_end (X_then (G_ret (X_then_ret ?_)))
    refine G_leaveS (.nil _) (by exact (.cons (.tmp rfl) (.nil))) rfl ?_ ?_
    · exact (.refl _)
    exact ⟨(by kernel_rfl), rfl⟩
  · refine G_seq ?_
    refine G_region ?_
    refine G_val (V_assign rfl rfl) rfl rfl (.none rfl) ?_
    refine G_end (X_then (G_seq (G_seq (G_region ?_))))
    refine G_val (V_move rfl rfl) rfl rfl (.none rfl) ?_
    refine G_val (V_lss rfl rfl rfl) rfl rfl (.none rfl) ?_
    refine G_end (X_then ?_)
    refine G_cond_t rfl (by kernel_rfl) ?_
    refine G_seq (G_region ?_)
    refine G_val (V_move rfl rfl) rfl rfl (.none rfl) ?_
    refine G_val (V_move rfl rfl) rfl rfl (.none rfl) ?_
    refine G_val (V_add_i64 rfl rfl rfl (by omega) (by omega)) rfl rfl (.none rfl) ?_
    refine G_val (V_cut rfl rfl rfl rfl (by omega) (by omega) (by simp only [List.length_cons, List.length_nil]; omega)) rfl rfl (.none rfl) ?_
    refine G_val (V_assign rfl rfl) rfl rfl (.none rfl) ?_
    refine G_end (X_then (G_ret (X_then_ret ?_)))
    refine G_leaveS (.nil _) (by exact (.cons (.tmp rfl) (.nil))) rfl ?_ ?_
    · exact (.refl _)
    exact ⟨(by kernel_rfl), rfl⟩
  · refine G_seq ?_
    refine G_region ?_
    refine G_val (V_assign rfl rfl) rfl rfl (.none rfl) ?_
    refine G_end (X_then (G_seq (G_seq (G_region ?_))))
    refine G_val (V_move rfl rfl) rfl rfl (.none rfl) ?_
    refine G_val (V_lss rfl rfl rfl) rfl rfl (.none rfl) ?_
    refine G_end (X_then ?_)
    refine G_cond_t rfl (by kernel_rfl) ?_
    refine G_seq (G_region ?_)
    refine G_val (V_move rfl rfl) rfl rfl (.none rfl) ?_
    refine G_val (V_move rfl rfl) rfl rfl (.none rfl) ?_
    refine G_val (V_add_i64 rfl rfl rfl (by omega) (by omega)) rfl rfl (.none rfl) ?_
    refine G_val (V_cut rfl rfl rfl rfl (by omega) (by omega) (by simp only [List.length_cons, List.length_nil]; omega)) rfl rfl (.none rfl) ?_
    refine G_val (V_assign rfl rfl) rfl rfl (.none rfl) ?_
    refine G_end (X_then (G_ret (X_then_ret ?_)))
    refine G_leaveS (.nil _) (by exact (.cons (.tmp rfl) (.nil))) rfl ?_ ?_
    · exact (.refl _)
    exact ⟨(by kernel_rfl), rfl⟩
  · refine G_seq ?_
    refine G_region ?_
    refine G_val (V_assign rfl rfl) rfl rfl (.none rfl) ?_
    refine G_end (X_then (G_seq (G_seq (G_region ?_))))
    refine G_val (V_move rfl rfl) rfl rfl (.none rfl) ?_
    refine G_val (V_lss rfl rfl rfl) rfl rfl (.none rfl) ?_
    refine G_end (X_then ?_)
    refine G_cond_t rfl (by kernel_rfl) ?_
    refine G_seq (G_region ?_)
    refine G_val (V_move rfl rfl) rfl rfl (.none rfl) ?_
    refine G_val (V_move rfl rfl) rfl rfl (.none rfl) ?_
    refine G_val (V_add_i64 rfl rfl rfl (by omega) (by omega)) rfl rfl (.none rfl) ?_
    refine G_val (V_cut rfl rfl rfl rfl (by omega) (by omega) (by simp only [List.length_cons, List.length_nil]; omega)) rfl rfl (.none rfl) ?_
    refine G_val (V_assign rfl rfl) rfl rfl (.none rfl) ?_
    refine G_end (X_then (G_ret (X_then_ret ?_)))
    refine G_leaveS (.nil _) (by exact (.cons (.tmp rfl) (.nil))) rfl ?_ ?_
    · exact (.refl _)
    exact ⟨(by kernel_rfl), rfl⟩
  · refine G_seq ?_
    refine G_region ?_
    refine G_val (V_assign rfl rfl) rfl rfl (.none rfl) ?_
    refine G_end (X_then (G_seq (G_seq (G_region ?_))))
    refine G_val (V_move rfl rfl) rfl rfl (.none rfl) ?_
    refine G_val (V_lss rfl rfl rfl) rfl rfl (.none rfl) ?_
    refine G_end (X_then ?_)
    refine G_cond_t rfl (by kernel_rfl) ?_
    refine G_seq (G_region ?_)
    refine G_val (V_move rfl rfl) rfl rfl (.none rfl) ?_
    refine G_val (V_move rfl rfl) rfl rfl (.none rfl) ?_
    refine G_val (V_add_i64 rfl rfl rfl (by omega) (by omega)) rfl rfl (.none rfl) ?_
    refine G_val (V_cut rfl rfl rfl rfl (by omega) (by omega) (by simp only [List.length_cons, List.length_nil]; omega)) rfl rfl (.none rfl) ?_
    refine G_val (V_assign rfl rfl) rfl rfl (.none rfl) ?_
    refine G_end (X_then (G_ret (X_then_ret ?_)))
    refine G_leaveS (.nil _) (by exact (.cons (.tmp rfl) (.nil))) rfl ?_ ?_
    · exact (.refl _)
    exact ⟨(by kernel_rfl), rfl⟩
  · refine G_seq ?_
    refine G_region ?_
    refine G_val (V_assign rfl rfl) rfl rfl (.none rfl) ?_
    refine G_end (X_then (G_seq (G_seq (G_region ?_))))
    refine G_val (V_move rfl rfl) rfl rfl (.none rfl) ?_
    refine G_val (V_lss rfl rfl rfl) rfl rfl (.none rfl) ?_
    refine G_end (X_then ?_)
    refine G_cond_t rfl (by kernel_rfl) ?_
    refine G_seq (G_region ?_)
    refine G_val (V_move rfl rfl) rfl rfl (.none rfl) ?_
    refine G_val (V_move rfl rfl) rfl rfl (.none rfl) ?_
    refine G_val (V_add_i64 rfl rfl rfl (by omega) (by omega)) rfl rfl (.none rfl) ?_
    refine G_val (V_cut rfl rfl rfl rfl (by omega) (by omega) (by simp only [List.length_cons, List.length_nil]; omega)) rfl rfl (.none rfl) ?_
    refine G_val (V_assign rfl rfl) rfl rfl (.none rfl) ?_
    refine G_end (X_then (G_ret (X_then_ret ?_)))
    refine G_leaveS (.nil _) (by exact (.cons (.tmp rfl) (.nil))) rfl ?_ ?_
    · exact (.refl _)
    exact ⟨(by kernel_rfl), rfl⟩
  · refine G_seq ?_
    refine G_region ?_
    refine G_val (V_assign rfl rfl) rfl rfl (.none rfl) ?_
    refine G_end (X_then (G_seq (G_seq (G_region ?_))))
    refine G_val (V_move rfl rfl) rfl rfl (.none rfl) ?_
    refine G_val (V_lss rfl rfl rfl) rfl rfl (.none rfl) ?_
    refine G_end (X_then ?_)
    refine G_cond_t rfl (by kernel_rfl) ?_
    refine G_seq (G_region ?_)
    refine G_val (V_move rfl rfl) rfl rfl (.none rfl) ?_
    refine G_val (V_move rfl rfl) rfl rfl (.none rfl) ?_
    refine G_val (V_add_i64 rfl rfl rfl (by omega) (by omega)) rfl rfl (.none rfl) ?_
    refine G_val (V_cut rfl rfl rfl rfl (by omega) (by omega) (by simp only [List.length_cons, List.length_nil]; omega)) rfl rfl (.none rfl) ?_
    refine G_val (V_assign rfl rfl) rfl rfl (.none rfl) ?_
    refine G_end (X_then (G_ret (X_then_ret ?_)))
    refine G_leaveS (.nil _) (by exact (.cons (.tmp rfl) (.nil))) rfl ?_ ?_
    · exact (.refl _)
    exact ⟨(by kernel_rfl), rfl⟩
  · refine G_seq ?_
    refine G_region ?_
    refine G_val (V_assign rfl rfl) rfl rfl (.none rfl) ?_
    refine G_end (X_then (G_seq (G_seq (G_region ?_))))
    refine G_val (V_move rfl rfl) rfl rfl (.none rfl) ?_
    refine G_val (V_lss rfl rfl rfl) rfl rfl (.none rfl) ?_
    refine G_end (X_then ?_)
    refine G_cond_t rfl (by kernel_rfl) ?_
    refine G_seq (G_region ?_)
    refine G_val (V_move rfl rfl) rfl rfl (.none rfl) ?_
    refine G_val (V_move rfl rfl) rfl rfl (.none rfl) ?_
    refine G_val (V_add_i64 rfl rfl rfl (by omega) (by omega)) rfl rfl (.none rfl) ?_
    refine G_val (V_cut rfl rfl rfl rfl (by omega) (by omega) (by simp only [List.length_cons, List.length_nil]; omega)) rfl rfl (.none rfl) ?_
    refine G_val (V_assign rfl rfl) rfl rfl (.none rfl) ?_
    refine G_end (X_then (G_ret (X_then_ret ?_)))
    refine G_leaveS (.nil _) (by exact (.cons (.tmp rfl) (.nil))) rfl ?_ ?_
    · exact (.refl _)
    exact ⟨(by kernel_rfl), rfl⟩
end
end Go.Proofs.YthcfakmmomfcaaaDoor
set_option linter.unusedSimpArgs false
set_option linter.unusedVariables false
set_option maxHeartbeats 2000000
set_option maxRecDepth 20000
namespace Go.Proofs.YthcfakmmomfcaaaDoor
open Go.RowKit
section
variable (E : Env) (L : List Res)
theorem FormatInt_call (x : Int) (h : 0 ≤ x ∧ x < 10) : CallV Tryd.prog 67 #[.int .i64 x, .int .i64 10] E L (.string (S [dgb x])) := by
  refine CallS.toV (CallS.intro (l := [_, _]) _ Tryd.func67 rfl Tryd.ntmps67 rfl ?_)
  refine G_seq (G_region ?_)
  refine G_val (V_assign rfl rfl) rfl rfl (.none rfl) ?_
  refine G_end (X_then (G_seq (G_seq (G_region ?_))))
  refine G_val (V_move rfl rfl) rfl rfl (.none rfl) ?_
  refine G_val (V_eql rfl rfl rfl) rfl rfl (.none rfl) ?_
  refine G_end (X_then ?_)
  refine G_cond_t rfl (by kernel_rfl) ?_
  refine G_seq (G_seq (G_region ?_))
  refine G_val (V_move rfl rfl) rfl rfl (.none rfl) ?_
  refine G_val (V_leq rfl rfl rfl) rfl rfl (.none rfl) ?_
  refine G_val (V_move rfl rfl) rfl rfl (.none rfl) ?_
  refine G.bool_t 14 rfl (decide_eq_true (by omega)) ?_
  refine G_val (V_move rfl rfl) rfl rfl (.yes rfl rfl rfl rfl) ?_
  refine G_val (V_lss rfl rfl rfl) rfl rfl (.yes rfl rfl rfl rfl) ?_
  refine G_val (V_pick_t rfl rfl rfl) rfl rfl (.none rfl) ?_
  refine G_end (X_then ?_)
  refine G_cond_t rfl (decide_eq_true (by omega)) ?_
  refine G_seq (G_region ?_)
  refine G_val (V_move rfl rfl) rfl rfl (.none rfl) ?_
  refine G_callv (k := 74) (.mk rfl rfl rfl rfl) rfl rfl (.none rfl) (small_call _ _ _ (by assumption)) ?_
  refine G_val (V_assign rfl rfl) rfl rfl (.none rfl) ?_
  refine G_end (X_then (G_ret (X_then_ret (X_then_ret ?_))))
  refine G_leaveS (.nil _) (by exact (.cons (.tmp rfl) (.nil))) rfl ?_ ?_
  · exact (.refl _)
  exact ⟨rfl, rfl⟩
theorem IItoa_call (x : Int) (h : 0 ≤ x ∧ x < 10) : CallV Tryd.prog 59 #[.int .i64 x] E L (.string (S [dgb x])) := by
  refine CallS.toV (CallS.intro (l := [_]) _ Tryd.func59 rfl Tryd.ntmps59 rfl ?_)
  refine G_seq (G_region ?_)
  refine G_val (V_assign rfl rfl) rfl rfl (.none rfl) ?_
  refine G_end (X_then (G_seq (G_region ?_)))
  refine G_val (V_move rfl rfl) rfl rfl (.none rfl) ?_
  refine G_callv (k := 67) (.mk rfl rfl rfl rfl) rfl rfl (.none rfl) (FormatInt_call _ _ _ (by assumption)) ?_
  refine G_val (V_assign rfl rfl) rfl rfl (.none rfl) ?_
  refine G_end (X_then (G_ret ?_))
  refine G_leaveS (.nil _) (by exact (.cons (.tmp rfl) (.nil))) rfl ?_ ?_
  · exact (.refl _)
  exact ⟨rfl, rfl⟩
theorem Itoa_call (x : Int) (h : 0 ≤ x ∧ x < 10) : CallV Tryd.prog 49 #[.int .i64 x] E L (.string (S [dgb x])) := by
  refine CallS.toV (CallS.intro (l := [_]) _ Tryd.func49 rfl Tryd.ntmps49 rfl ?_)
  refine G_seq (G_region ?_)
  refine G_val (V_assign rfl rfl) rfl rfl (.none rfl) ?_
  refine G_end (X_then (G_seq (G_region ?_)))
  refine G_val (V_move rfl rfl) rfl rfl (.none rfl) ?_
  refine G_callv (k := 59) (.mk rfl rfl rfl rfl) rfl rfl (.none rfl) (IItoa_call _ _ _ (by assumption)) ?_
  refine G_val (V_assign rfl rfl) rfl rfl (.none rfl) ?_
  refine G_end (X_then (G_ret ?_))
  refine G_leaveS (.nil _) (by exact (.cons (.tmp rfl) (.nil))) rfl ?_ ?_
  · exact (.refl _)
  exact ⟨rfl, rfl⟩
end
end Go.Proofs.YthcfakmmomfcaaaDoor
set_option linter.unusedSimpArgs false
set_option linter.unusedVariables false
set_option maxHeartbeats 2000000
set_option maxRecDepth 20000
namespace Go.Proofs.YthcfakmmomfcaaaDoor
open Go.RowKit

/-- What a strings.Builder holds: whether it was used, its buffer's place and room, its bytes. -/
structure Bld where
  used : Bool
  a : Option Addr
  c : Nat
  xs : List UInt8
  some' : a = none ∨ c ≠ 0
def Bld.new : Bld := ⟨false, none, 0, [], .inl rfl⟩
def Bld.obj (b : Nat) (u : Bool) (a : Option Addr) (n c : Nat) : Obj := .cells #[.pointer (if u then some ⟨b, 0, none⟩ else none), .slice a n c] 82 (0, 0)
/-- A strings.Builder of the call's own. -/
def Res.bld (b : Nat) (s : Bld) : Res := .both (.blk b (Bld.obj b s.used s.a s.xs.length s.c)) (.sl 5 1 s.a s.xs.length s.c (u8s s.xs))

section
variable {n : Nat} {ds : List Deferred} {fs : List (Nat × Value)} (E : Env) (L : List Res)
theorem G.bldNew {E : Env} {L : List Res} {X : Act → World → Prop} {b : Nat} (h : G n ds fs E (.bld b Bld.new :: L) X) : G n ds fs E (.blk b (.cells #[.pointer none, .slice none 0 0] 82 (0, 0)) :: L) X := by
  refine G.nilSl 5 1 ?_
  refine G.front (.tail _ (.head _ _)) ?_
  exact G.both h

theorem NoEscape_val {fs : List (Nat × Value)} {E : Env} {L : List Res} {o : Oper} {p : Option Addr} (ht : Goesto fs o 78 #[.pointer p]) : Val Tryd.prog o fs E L (.pointer p) :=
  V_extern Tryd.func78 (by kernel_rfl) (by kernel_rfl) (by kernel_rfl) (e := Extern.AbiNoEscape.same) (by kernel_rfl) (fun w => Lib.run_noEscape w (.pointer p)) ht

theorem copyCheck_call (b : Nat) (u : Bool) (a : Option Addr) (k c : Nat) :
    CallS Tryd.prog 68 #[.pointer (some ⟨b, 0, none⟩)] E (.blk b (Bld.obj b u a k c) :: L) (fun r E' L' => r = .tuple #[] ∧ E' = E ∧ L' = .blk b (Bld.obj b true a k c) :: L) := by
  refine CallS.intro (l := [_]) _ Tryd.func68 rfl Tryd.ntmps68 rfl ?_
  cases u with
  | true =>
    simp only [Bld.obj, if_true]
    refine G_seq (G_region ?_)
    refine G_val (V_move rfl rfl) rfl rfl (.none rfl) ?_
    refine G_val (V_nilCheck rfl rfl) rfl rfl (.none rfl) ?_
    refine G_val (V_fieldAddr rfl rfl (by decide)) rfl rfl (.none rfl) ?_
    refine G_val (V_load rfl rfl (Cell.own (.head _) rfl)) rfl rfl (.none rfl) ?_
    refine G_val (V_peqN rfl rfl rfl) rfl rfl (.none rfl) ?_
    refine G_end (X_then ?_)
    refine G_cond_f rfl (by simp [*]; done) ?_
    refine G_seq (G_region ?_)
    refine G_val (V_move rfl rfl) rfl rfl (.none rfl) ?_
    refine G_val (V_nilCheck rfl rfl) rfl rfl (.none rfl) ?_
    refine G_val (V_fieldAddr rfl rfl (by decide)) rfl rfl (.none rfl) ?_
    refine G_val (V_load rfl rfl (Cell.own (.head _) rfl)) rfl rfl (.none rfl) ?_
    refine G_val (V_move rfl rfl) rfl rfl (.none rfl) ?_
    refine G_val (V_pneqS rfl rfl rfl) rfl rfl (.none rfl) ?_
    refine G_end (X_then ?_)
    refine G_cond_f rfl rfl ?_
    refine G_skip ?_
    refine G_leaveS_n (.keep _ (.nil _)) (by exact (.nil)) rfl ?_ ?_
    · exact (.refl _)
    exact ⟨(by kernel_rfl), ⟨rfl, rfl⟩⟩
  | false =>
    simp only [Bld.obj, if_true, Bool.false_eq_true, if_false]
    refine G_seq (G_region ?_)
    refine G_val (V_move rfl rfl) rfl rfl (.none rfl) ?_
    refine G_val (V_nilCheck rfl rfl) rfl rfl (.none rfl) ?_
    refine G_val (V_fieldAddr rfl rfl (by decide)) rfl rfl (.none rfl) ?_
    refine G_val (V_load rfl rfl (Cell.own (.head _) rfl)) rfl rfl (.none rfl) ?_
    refine G_val (V_peqN rfl rfl rfl) rfl rfl (.none rfl) ?_
    refine G_end (X_then ?_)
    refine G_cond_t rfl (by kernel_rfl) ?_
    refine G_region ?_
    refine G_val (V_move rfl rfl) rfl rfl (.none rfl) ?_
    refine G_val (V_move rfl rfl) rfl rfl (.none rfl) ?_
    refine G_val (V_toUnsafe rfl rfl (.head _) (Nat.le_of_ble_eq_true rfl) (by decide)) rfl rfl (.none rfl) ?_
    refine G_val (NoEscape_val (.mk rfl rfl rfl rfl)) rfl rfl (.none rfl) ?_
    refine G_val (V_fromUnsafe rfl rfl (.head _) (by kernel_rfl)) rfl rfl (.none rfl) ?_
    refine G_val (V_nilCheck rfl rfl) rfl rfl (.none rfl) ?_
    refine G_val (V_fieldAddr rfl rfl (by decide)) rfl rfl (.none rfl) ?_
    refine G_storeAt rfl rfl rfl rfl rfl rfl (.none rfl) (.head _ _ _) (Nat.le_of_ble_eq_true rfl) (by simp only [putAll, Nat.zero_add, Nat.reduceAdd, List.setIfInBounds_toArray, List.set_cons_succ, List.set_cons_zero]; rfl) ?_
    refine G_end ?_
    refine G_leaveS_n (.keep _ (.nil _)) (by exact (.nil)) rfl ?_ ?_
    · exact (.refl _)
    exact ⟨(by kernel_rfl), ⟨rfl, rfl⟩⟩
theorem IndexByteString_val {fs : List (Nat × Value)} {E : Env} {L : List Res} {o : Oper} {s : List UInt8} {c : Nat} (ht : Goesto fs o 94 #[.string (S s), .int .u8 c]) : Val Tryd.prog o fs E L (.int .i64 (idxB s c.toUInt8)) :=
  V_extern Tryd.func94 (by kernel_rfl) (by kernel_rfl) (by kernel_rfl) (e := Extern.BytealgIndexByte.indexByte) (by kernel_rfl) (fun w => Lib.run_indexByteString (P := Tryd.prog) (S s) c w) ht
end
end Go.Proofs.YthcfakmmomfcaaaDoor
set_option linter.unusedSimpArgs false
set_option linter.unusedVariables false
set_option maxHeartbeats 2000000
set_option maxRecDepth 20000
namespace Go.Proofs.YthcfakmmomfcaaaDoor
open Go.RowKit
theorem u8s_app (a b : List UInt8) : u8s (a ++ b) = u8s a ++ u8s b := List.map_append
section
variable (E : Env) (L : List Res)
theorem WriteString_parts (b : Nat) (u : Bool) (a : Option Addr) (c : Nat) (xs x : List UInt8) (h : xs.length + x.length ≤ 140737488355328) :
    CallS Tryd.prog 61 #[.pointer (some ⟨b, 0, none⟩), .string (S x)] E (.blk b (Bld.obj b u a xs.length c) :: .sl 5 1 a xs.length c (u8s xs) :: L)
      (fun r E' L' => ∃ a' c', r = .tuple #[.int .i64 x.length, .nilIface] ∧ E' = E ∧ (x = [] → a' = a ∧ c' = c) ∧ L' = .blk b (Bld.obj b true a' (xs.length + x.length) c') :: .sl 5 1 a' (xs.length + x.length) c' (u8s xs ++ u8s x) :: L) := by
  refine CallS.intro (l := [_, _]) _ Tryd.func61 rfl Tryd.ntmps61 rfl ?_
  refine G_seq (G_region ?_)
  refine G_val (V_assign rfl rfl) rfl rfl (.none rfl) ?_
  refine G_val (V_assign rfl rfl) rfl rfl (.none rfl) ?_
  refine G_end (X_then (G_seq (G_region ?_)))
  refine G_val (V_move rfl rfl) rfl rfl (.none rfl) ?_
  refine G_call (k := 68) (.mk rfl rfl rfl rfl) rfl rfl (.none rfl) (copyCheck_call _ _ _ _ _ _ _) ?_
  rintro r1 E2 L3 hE4 ⟨rfl, ⟨rfl, rfl⟩⟩
  refine G_end (X_then (G_seq (G_region ?_)))
  refine G_val (V_move rfl rfl) rfl rfl (.none rfl) ?_
  refine G_val (V_move rfl rfl) rfl rfl (.none rfl) ?_
  refine G_val (V_nilCheck rfl rfl) rfl rfl (.none rfl) ?_
  refine G_val (V_fieldAddr rfl rfl (by decide)) rfl rfl (.none rfl) ?_
  refine G_val (V_load rfl rfl (Cell.own (.head _) rfl)) rfl rfl (.none rfl) ?_
  refine G_val (V_move rfl rfl) rfl rfl (.none rfl) ?_
  (refine G_appendStr rfl rfl rfl (by omega) rfl rfl (.none rfl) (fun _ _ => (.tail _ (.head _ _ _))) ?_; intro a14 c14 ha14)
  refine G_val (V_nilCheck rfl rfl) rfl rfl (.none rfl) ?_
  refine G_val (V_fieldAddr rfl rfl (by decide)) rfl rfl (.none rfl) ?_
  refine G_storeAt rfl rfl rfl rfl rfl rfl (.none rfl) (.head _ _ _) (Nat.le_of_ble_eq_true rfl) (by simp only [putAll, Nat.zero_add, Nat.reduceAdd, List.setIfInBounds_toArray, List.set_cons_succ, List.set_cons_zero]; rfl) ?_
  refine G_end (X_then (G_seq (G_region ?_)))
  refine G_val (V_move rfl rfl) rfl rfl (.none rfl) ?_
  refine G_val (V_len rfl rfl) rfl rfl (.none rfl) ?_
  refine G_val (V_assign rfl rfl) rfl rfl (.none rfl) ?_
  refine G_val (V_assign rfl rfl) rfl rfl (.none rfl) ?_
  refine G_end (X_then (G_ret ?_))
  refine G_leaveS (.keep _ (.keep _ (.nil _))) (by exact (.cons (.tmp rfl) (.cons (.tmp rfl) (.nil)))) rfl ?_ ?_
  · exact (.refl _)
  exact ⟨_, ⟨_, ⟨rfl, ⟨rfl, ⟨(by assumption), rfl⟩⟩⟩⟩⟩
theorem WriteString_call (b : Nat) (s : Bld) (x : List UInt8) (h : s.xs.length + x.length ≤ 140737488355328) :
    CallS Tryd.prog 61 #[.pointer (some ⟨b, 0, none⟩), .string (S x)] E (.bld b s :: L) (fun r E' L' => ∃ t, r = .tuple #[.int .i64 x.length, .nilIface] ∧ E' = E ∧ t.xs = s.xs ++ x ∧ t.xs.length = s.xs.length + x.length ∧ L' = .bld b t :: L) := fun w hw =>
  (WriteString_parts E L b s.used s.a s.c s.xs x h w (St.both.1 hw)).mono fun e w' ⟨r, E', L', he, hE, hs, a', c', hr, hE', hn, hL⟩ => by
    subst hL
    have hok : slOk _ 1 a' (s.xs.length + x.length) c' (u8s s.xs ++ u8s x) _ := hs.own _ (.tail _ (.head _))
    refine ⟨r, E', _, he, hE, St.both.2 hs, ⟨true, a', c', s.xs ++ x, ?_⟩, hr, hE', rfl, List.length_append, ?_⟩
    · by_cases h0 : x = []
      · obtain ⟨h1, h2⟩ := hn h0
        rw [h1, h2]
        exact s.some'
      · rcases hok.2 with ⟨h1, _⟩ | ⟨_, _, _, _, h1, _⟩
        · exact .inl h1
        · have := List.length_pos_iff.2 h0
          exact .inr (by omega)
    · simp only [Res.bld, List.length_append, u8s_app, Bld.obj, if_true]
theorem BString_parts (b : Nat) (u : Bool) (a : Option Addr) (c : Nat) (xs : List UInt8) (h : xs.length ≤ 9223372036854775807) (hc : a = none ∨ c ≠ 0) :
    CallS Tryd.prog 62 #[.pointer (some ⟨b, 0, none⟩)] E (.blk b (Bld.obj b u a xs.length c) :: .sl 5 1 a xs.length c (u8s xs) :: L)
      (fun r E' L' => r = .string (S xs) ∧ E' = E ∧ L' = L) := by
  refine CallS.intro (l := [_]) _ Tryd.func62 rfl Tryd.ntmps62 rfl ?_
  simp only [Bld.obj]
  refine G_seq (G_region ?_)
  refine G_val (V_assign rfl rfl) rfl rfl (.none rfl) ?_
  refine G_end (X_then (G_seq ?_))
  refine G_drawT 10 mixed (by kernel_rfl) ?_; dsimp only [List.take, List.drop]
  refine Q_val (V_move rfl rfl) rfl rfl (.none rfl) ?_
  refine Q_val (V_nilCheck rfl rfl) rfl rfl (.none rfl) ?_
  refine Q_val (V_fieldAddr rfl rfl (by decide)) rfl rfl (.none rfl) ?_
  refine Q_val (V_load rfl rfl (Cell.own (.head _) rfl)) rfl rfl (.none rfl) ?_
  refine Q_val (V_sliceData rfl rfl (by assumption)) rfl rfl (.none rfl) ?_
  refine Q_val (V_move rfl rfl) rfl rfl (.none rfl) ?_
  refine Q_val (V_nilCheck rfl rfl) rfl rfl (.none rfl) ?_
  refine Q_val (V_fieldAddr rfl rfl (by decide)) rfl rfl (.none rfl) ?_
  refine Q_val (V_load rfl rfl (Cell.own (.head _) rfl)) rfl rfl (.none rfl) ?_
  refine Q_val (V_lenS rfl rfl) rfl rfl (.none rfl) ?_
  refine Q_endT ?_
  refine G_unsafeString rfl rfl rfl h (by kernel_rfl) rfl rfl (.none rfl) (.tail _ (.head _ _)) ?_
  refine G_val (V_assign rfl rfl) rfl rfl (.none rfl) ?_
  refine G_end (X_then (G_ret ?_))
  refine G_leaveS (.drop _ (.nil _)) (by exact (.cons (.tmp rfl) (.nil))) rfl ?_ ?_
  · exact (.refl _)
  exact ⟨rfl, ⟨rfl, rfl⟩⟩
theorem BString_call (b : Nat) (s : Bld) (h : s.xs.length ≤ 9223372036854775807) :
    CallS Tryd.prog 62 #[.pointer (some ⟨b, 0, none⟩)] E (.bld b s :: L) (fun r E' L' => r = .string (S s.xs) ∧ E' = E ∧ L' = L) := fun w hw => by
  exact BString_parts E L b s.used s.a s.c s.xs h s.some' w (St.both.1 hw)
end
end Go.Proofs.YthcfakmmomfcaaaDoor
namespace Go.Proofs.YthcfakmmomfcaaaDoor
open Go.RowKit
section rules
variable {P : Program} {n : Nat} {ds : List Deferred} {fs : List (Nat × Value)} {E : Env} {L : List Res} {o : Oper}
theorem V_copy0 {x y : Operand} {t u e : TypeId} {sz' : Nat} {ag' : Bool} {z : Value} {bytes : Nat} [ht : Ty P t (.slice e) sz' ag'] [hi : Inf P e z 1 bytes] {p a : Option Addr} {dl dc m c : Nat}
    (ho : o.op = .call { callee := .builtin .copy, args := #[x, y], argTypes := #[t, u] }) (hx : ev fs x = some (.slice p dl dc)) (hy : ev fs y = some (.slice a m c)) (h0 : min m dl = 0) : Val P o fs E L (.int .i64 0) :=
  ⟨(by rw [ho]; intro c h; cases h), fun n ds a' w ha _ => by
    obtain ⟨i, hi1, _, hs1, _⟩ := hi.inf
    have hs : (P.info? e).map (·.size) = some 1 := by rw [hi1]; simp [hs1]
    have hrun := run_copy_none (P := P) w t u o.type e p a dl dc m c ht.und hs h0
    simp only [execOp, ho, resolve, invoke, builtin, Sem.run_bind, Sem.run_pure, Result.andThen_ok, List.map_toArray, List.map_cons, List.map_nil, ha.eval hx, ha.eval hy, hrun]; rfl⟩
variable {ops : Array Oper} {T : Act → Fam → Prop} {J : World → Prop} {π : List (Nat × Nat)} {i : Nat}
theorem F_makeNoZero {k : FuncId} {fn : Func} {t e : TypeId} {ps : Array TypeId} {m d : Nat} (hf : P.funcs[k]? = some fn) (hname : (fn.name == "runtime.NumGoroutine") = false) (hb : fn.body.isNone = true) (hfn : Extern.findNext fn = none)
    (he : Extern.find fn = some (Extern.BytealgMakeNoZero.makeNoZero ps #[t])) (hte : P.underlying t = some (.slice e)) (h0 : ops[i]? = some o) (ht : Goesto fs o k #[.int .i64 m]) (hm : m ≤ 140737488355328) (hd : o.dst = some d) (hn : Nat.blt d n = true) (hg : Goes ops fs o)
    (h : ∀ b c, m ≤ c → GF n ds ((d, .slice (some ⟨b, 0, none⟩) m c) :: fs) E (.sl e 1 (some ⟨b, 0, none⟩) 0 c [] :: L) (wpF P ops T J π)) : GF n ds fs E L (wpF P ops T J ((i, 3) :: π)) := fun a ha =>
  ⟨o, h0, by
    rw [if_pos (hg.wanted ha)]
    intro M w hw
    unfold Steps
    obtain ⟨f, xs, ts, vs, cap, ho, hfv, hx, hargs⟩ := ht
    have e1 := evs_args ha hx
    simp only [Array.toArray_toList] at e1
    have e2 := ha.eval hfv
    obtain ⟨cs, hrun, hc1, hc2⟩ := Lib.run_makeNoZero (P := P) w ps t e hte m (by omega)
    have e3 : (execOp a.eval o).run P w = .ok (.value (.slice (some ⟨w.heap.size, 0, none⟩) m cs.size)) (w.drew.drew.alloc (.cells cs e)) := by
      simp only [execOp, ho, resolve, e2, Deferred.ofValue, e1]
      simp [invoke, ← hargs, run_callFunc_extern hf hname hb hfn he, hrun, Result.andThen]
    rw [e3]
    have hst := ((hw.drew (w.drawn + 1)).drew (w.drawn + 2)).alloc (.cells cs e)
    have hst2 : St E (.blk w.heap.size (.cells cs e) :: (M ++ L)) (w.drew.drew.alloc (.cells cs e)) := hst
    have s2 : St E (.sl e 1 (some ⟨w.heap.size, 0, none⟩) 0 cs.size [] :: (M ++ L)) (w.drew.drew.alloc (.cells cs e)) := by
      refine hst2.conv (r' := .sl e 1 (some ⟨w.heap.size, 0, none⟩) 0 cs.size []) (by simp [Res.sl, Res.blk]) ?_
      exact ⟨rfl, .inr ⟨w.heap.size, cs, rfl, hst2.own _ (.head _), Nat.zero_le _, hc2 (by simp only [maxLen]; omega), by simp, by simp⟩⟩
    refine ⟨Fam.st E (.sl e 1 (some ⟨w.heap.size, 0, none⟩) 0 cs.size [] :: L), fun w' ⟨M', h'⟩ => ⟨M' ++ [_], by show St E ((M' ++ [_]) ++ L) w'; rw [List.append_assoc]; exact h'⟩, s2.perm List.perm_middle.symm, ?_⟩
    rw [hd]
    exact h _ _ hc1 _ (ha.put hn _)⟩
end rules
end Go.Proofs.YthcfakmmomfcaaaDoor
set_option linter.unusedSimpArgs false
set_option linter.unusedVariables false
set_option maxHeartbeats 2000000
set_option maxRecDepth 20000
namespace Go.Proofs.YthcfakmmomfcaaaDoor
open Go.RowKit
section
variable (E : Env) (L : List Res)
theorem grow_parts (b : Nat) (n : Nat) (hn : n ≤ 1000000) (u : Bool) :
    CallS Tryd.prog 69 #[.pointer (some ⟨b, 0, none⟩), .int .i64 n] E (.blk b (Bld.obj b u none 0 0) :: L)
      (fun r E' L' => ∃ a c, n ≤ c ∧ r = .tuple #[] ∧ E = E' ∧ L' = .blk b (Bld.obj b u (some ⟨a, 0, none⟩) 0 c) :: .sl 5 1 (some ⟨a, 0, none⟩) 0 c [] :: L) := by
  refine CallS.intro (l := [_, _]) _ Tryd.func69 rfl Tryd.ntmps69 rfl ?_
  simp only [Bld.obj]
  refine G_seq ?_
  refine G_drawX 16 [(0, 0), (1, 0), (2, 0), (3, 1), (4, 0), (5, 0), (6, 0), (7, 0), (9, 0), (10, 0), (11, 0), (12, 1), (8, 3), (13, 0), (14, 0), (15, 0)] mixed (by kernel_rfl) ?_
  refine F_pure rfl (fun _ _ => V_move rfl rfl) rfl rfl (.none rfl) ?_
  refine F_pure rfl (fun _ _ => V_nilCheck rfl rfl) rfl rfl (.none rfl) ?_
  refine F_pure rfl (fun _ _ => V_fieldAddr rfl rfl (by decide)) rfl rfl (.none rfl) ?_
  refine F_load rfl (.head _) (V_load rfl rfl (Cell.own (.head _) rfl)) rfl rfl (.none rfl) ?_
  refine F_pure rfl (fun _ _ => V_cap rfl rfl) rfl rfl (.none rfl) ?_
  refine F_pure rfl (fun _ _ => V_mul_i64 rfl rfl rfl (by omega) (by omega)) rfl rfl (.none rfl) ?_
  refine F_pure rfl (fun _ _ => V_move rfl rfl) rfl rfl (.none rfl) ?_
  refine F_pure rfl (fun _ _ => V_add_i64 rfl rfl rfl (by omega) (by omega)) rfl rfl (.none rfl) ?_
  refine F_pure rfl (fun _ _ => V_move rfl rfl) rfl rfl (.none rfl) ?_
  refine F_pure rfl (fun _ _ => V_nilCheck rfl rfl) rfl rfl (.none rfl) ?_
  refine F_pure rfl (fun _ _ => V_fieldAddr rfl rfl (by decide)) rfl rfl (.none rfl) ?_
  refine F_load rfl (.head _) (V_load rfl rfl (Cell.own (.head _) rfl)) rfl rfl (.none rfl) ?_
  have e12 : (2 * ((0 : Nat) : Int) + (n : Int)) = ((n : Nat) : Int) := by omega
  rw [e12]
  refine F_makeNoZero (t := 68) (e := 5) (ps := #[3]) Tryd.func79 (by kernel_rfl) (by kernel_rfl) (by kernel_rfl) (by kernel_rfl) Tryd.underlying68 rfl (.mk rfl rfl rfl rfl) (by omega) rfl rfl (.none rfl) ?_
  intro a13 c13 hc13
  refine F_pure rfl (fun _ _ => V_lenS rfl rfl) rfl rfl (.none rfl) ?_
  refine F_pure rfl (fun _ _ => V_slHead rfl rfl rfl (by omega) (by omega)) rfl rfl (.none rfl) ?_
  refine F_pure rfl (fun _ _ => V_assign rfl rfl) rfl rfl (.none rfl) ?_
  (refine F_end (.nil _) ?_; dsimp only [List.drop])
  refine G_end (X_then (G_seq (G_region ?_)))
  refine G_val (V_move rfl rfl) rfl rfl (.none rfl) ?_
  refine G_val (V_move rfl rfl) rfl rfl (.none rfl) ?_
  refine G_val (V_nilCheck rfl rfl) rfl rfl (.none rfl) ?_
  refine G_val (V_fieldAddr rfl rfl (by decide)) rfl rfl (.none rfl) ?_
  refine G_val (V_load rfl rfl (Cell.own (.tail _ (.head _)) rfl)) rfl rfl (.none rfl) ?_
  refine G_val (V_copy0 rfl rfl rfl rfl) rfl rfl (.none rfl) ?_
  refine G.front (.tail _ (.head _ _)) ?_
  refine G_end (X_then (G_region ?_))
  refine G_val (V_move rfl rfl) rfl rfl (.none rfl) ?_
  refine G_val (V_move rfl rfl) rfl rfl (.none rfl) ?_
  refine G_val (V_nilCheck rfl rfl) rfl rfl (.none rfl) ?_
  refine G_val (V_fieldAddr rfl rfl (by decide)) rfl rfl (.none rfl) ?_
  refine G_storeAt rfl rfl rfl rfl rfl rfl (.none rfl) (.head _ _ _) (Nat.le_of_ble_eq_true rfl) (by simp only [putAll, Nat.zero_add, Nat.reduceAdd, List.setIfInBounds_toArray, List.set_cons_succ, List.set_cons_zero]; rfl) ?_
  refine G_end ?_
  refine G_leaveS_n (.keep _ (.keep _ (.nil _))) (by exact (.nil)) rfl ?_ ?_
  · exact (.refl _)
  exact ⟨_, ⟨_, ⟨(by assumption), ⟨(by kernel_rfl), ⟨rfl, rfl⟩⟩⟩⟩⟩
theorem Grow_parts (b : Nat) (n : Nat) (hn : n ≤ 1000000) (h1 : 1 ≤ n) :
    CallS Tryd.prog 60 #[.pointer (some ⟨b, 0, none⟩), .int .i64 n] E (.blk b (Bld.obj b false none 0 0) :: L)
      (fun r E' L' => ∃ a c, n ≤ c ∧ r = .tuple #[] ∧ E = E' ∧ L' = .blk b (Bld.obj b true (some ⟨a, 0, none⟩) 0 c) :: .sl 5 1 (some ⟨a, 0, none⟩) 0 c [] :: L) := by
  refine CallS.intro (l := [_, _]) _ Tryd.func60 rfl Tryd.ntmps60 rfl ?_
  refine G_seq (G_region ?_)
  refine G_val (V_move rfl rfl) rfl rfl (.none rfl) ?_
  refine G_call (k := 68) (.mk rfl rfl rfl rfl) rfl rfl (.none rfl) (copyCheck_call _ _ b false none 0 0) ?_
  rintro r1 E1 L1 hE1 ⟨rfl, rfl, rfl⟩
  simp only [Bld.obj]
  refine G_end (X_then (G_seq (G_seq (G_region ?_))))
  refine G_val (V_move rfl rfl) rfl rfl (.none rfl) ?_
  refine G_val (V_lss rfl rfl rfl) rfl rfl (.none rfl) ?_
  refine G_end (X_then ?_)
  refine G_cond_f rfl (decide_eq_false (by omega)) ?_
  refine G_skip (X_then (G_seq ?_))
  refine G_draw mixed (by kernel_rfl) ?_
  refine Q_val (V_move rfl rfl) rfl rfl (.none rfl) ?_
  refine Q_val (V_nilCheck rfl rfl) rfl rfl (.none rfl) ?_
  refine Q_val (V_fieldAddr rfl rfl (by decide)) rfl rfl (.none rfl) ?_
  refine Q_val (V_load rfl rfl (Cell.own (.head _) rfl)) rfl rfl (.none rfl) ?_
  refine Q_val (V_cap rfl rfl) rfl rfl (.none rfl) ?_
  refine Q_val (V_move rfl rfl) rfl rfl (.none rfl) ?_
  refine Q_val (V_nilCheck rfl rfl) rfl rfl (.none rfl) ?_
  refine Q_val (V_fieldAddr rfl rfl (by decide)) rfl rfl (.none rfl) ?_
  refine Q_val (V_load rfl rfl (Cell.own (.head _) rfl)) rfl rfl (.none rfl) ?_
  refine Q_val (V_lenS rfl rfl) rfl rfl (.none rfl) ?_
  refine Q_val (V_sub_i64 rfl rfl rfl (by omega) (by omega)) rfl rfl (.none rfl) ?_
  refine Q_val (V_move rfl rfl) rfl rfl (.none rfl) ?_
  refine Q_val (V_lss rfl rfl rfl) rfl rfl (.none rfl) ?_
  refine Q_end ?_
  refine X_then ?_
  refine G_cond_t rfl (decide_eq_true (by omega)) ?_
  refine G_region ?_
  refine G_val (V_move rfl rfl) rfl rfl (.none rfl) ?_
  refine G_val (V_move rfl rfl) rfl rfl (.none rfl) ?_
  refine G_call (k := 69) (.mk rfl rfl rfl rfl) rfl rfl (.none rfl) (grow_parts _ _ b n hn true) ?_
  rintro r2 E2 L2 hE2 ⟨a, c, hc, rfl, rfl, rfl⟩
  refine G_end ?_
  refine G_leaveS_n (.keep _ (.keep _ (.nil _))) (by exact (.nil)) rfl ?_ ?_
  · exact (.refl _)
  exact ⟨_, ⟨_, ⟨(by assumption), ⟨(by kernel_rfl), ⟨rfl, rfl⟩⟩⟩⟩⟩
theorem Grow_call (b : Nat) (n : Nat) (hn : n ≤ 1000000) (h1 : 1 ≤ n) :
    CallS Tryd.prog 60 #[.pointer (some ⟨b, 0, none⟩), .int .i64 n] E (.bld b Bld.new :: L)
      (fun r E' L' => ∃ t, r = .tuple #[] ∧ E = E' ∧ t.xs = [] ∧ t.xs.length = 0 ∧ L' = .bld b t :: L) := fun w hw => by
  have hw2 := St.both.1 hw
  have hw3 : St E (.blk b (Bld.obj b false none 0 0) :: .sl 5 1 none 0 0 [] :: L) w := hw2
  have hw4 := (hw3.perm (List.Perm.swap _ _ _)).drop
  refine (Grow_parts E L b n hn h1 w hw4).mono ?_
  rintro e w' ⟨r, E', L', he, hE, hs, a', c', hc, hr, hE', hL⟩
  subst hL
  exact ⟨r, E', .bld b ⟨true, some ⟨a', 0, none⟩, c', [], .inr (by omega)⟩ :: L, he, hE, St.both.2 hs, _, hr, hE', rfl, rfl, rfl⟩
end
end Go.Proofs.YthcfakmmomfcaaaDoor
set_option linter.unusedSimpArgs false
set_option linter.unusedVariables false
set_option maxHeartbeats 2000000
set_option maxRecDepth 20000
namespace Go.Proofs.YthcfakmmomfcaaaDoor
open Go.RowKit
def jnS : List (List UInt8) → List UInt8
  | [] => []
  | x :: l => x ++ l.flatMap fun y => 32 :: y
theorem jnS_snoc (xs : List (List UInt8)) (v : List UInt8) (h : xs ≠ []) : jnS (xs ++ [v]) = (jnS xs ++ [32]) ++ v := by
  rcases xs with _ | ⟨x, xs⟩
  · exact absurd rfl h
  · simp [jnS]
section
variable (E : Env) (L : List Res)
theorem Join1_call (p : Option Addr) (c : Nat) (x : List UInt8) (hx : SlE E 1 p 1 (strs [x])) : CallV Tryd.prog 50 #[.slice p 1 c, .string (S [32])] E L (.string (S x)) := by
  have h0 := strs_get (l := [x]) (k := 0) (s := x) rfl
  refine CallS.toV (CallS.intro (l := [_, _]) _ Tryd.func50 rfl Tryd.ntmps50 rfl ?_)
  refine G_seq (G_region ?_)
  refine G_val (V_assign rfl rfl) rfl rfl (.none rfl) ?_
  refine G_end (X_then (G_seq (G_seq (G_region ?_))))
  refine G_val (V_move rfl rfl) rfl rfl (.none rfl) ?_
  refine G_val (V_lenS rfl rfl) rfl rfl (.none rfl) ?_
  refine G_end (X_then (G_block (G_seq (G_region ?_))))
  refine G_val (V_eql rfl rfl rfl) rfl rfl (.none rfl) ?_
  refine G_val (V_assign rfl rfl) rfl rfl (.none rfl) ?_
  refine G_end (X_then ?_)
  refine G_cond_f rfl (by kernel_rfl) ?_
  refine G_seq (G_region ?_)
  refine G_val (V_eql rfl rfl rfl) rfl rfl (.none rfl) ?_
  refine G_val (V_assign rfl rfl) rfl rfl (.none rfl) ?_
  refine G_end (X_then ?_)
  refine G_cond_t rfl (by kernel_rfl) ?_
  refine G_seq (G_region ?_)
  refine G_val (V_move rfl rfl) rfl rfl (.none rfl) ?_
  refine G_val (V_idxAddr rfl rfl rfl (SlE.rd (by assumption)) (by omega) (by omega)) rfl rfl (.none rfl) ?_
  refine G_val (V_loadS rfl rfl (SlE.rd (by assumption)) (by assumption) (by simp)) rfl rfl (.none rfl) ?_
  refine G_val (V_assign rfl rfl) rfl rfl (.none rfl) ?_
  refine G_end (X_then (G_ret (X_block_ret (X_then_ret ?_))))
  refine G_leaveS (.nil _) (by exact (.cons (.tmp rfl) (.nil))) rfl ?_ ?_
  · exact (.refl _)
  exact ⟨rfl, rfl⟩
theorem JoinN_call (p : Option Addr) (n c : Nat) (xs : List (List UInt8)) (hx : SlE E 1 p n (strs xs)) (hc : n ≤ c) (h2 : 2 ≤ n) (h4 : n ≤ 4) (h1 : ∀ i (h : i < xs.length), xs[i].length = 1) : CallV Tryd.prog 50 #[.slice p n c, .string (S [32])] E L (.string (S (jnS xs))) := by
  have e := hx.nS
  subst e
  have hq : ¬ (IntKind.i64.wrap ((9223372036854775807 : Int).tdiv (xs.length - 1)) ≤ ((([32] : List UInt8).length : Nat) : Int)) := by
    have : xs.length = 2 ∨ xs.length = 3 ∨ xs.length = 4 := by omega
    rcases this with h | h | h <;> rw [h] <;> decide
  have e5 : IntKind.i64.wrap (0 + IntKind.i64.wrap (((([32] : List UInt8).length : Nat) : Int) * (xs.length - 1))) = ((xs.length - 1 + 0 : Nat) : Int) := by
    have : xs.length = 2 ∨ xs.length = 3 ∨ xs.length = 4 := by omega
    rcases this with h | h | h <;> rw [h] <;> decide
  refine CallS.toV (CallS.intro (l := [_, _]) _ Tryd.func50 rfl Tryd.ntmps50 rfl ?_)
  refine G_seq (G_region ?_)
  refine G_val (V_assign rfl rfl) rfl rfl (.none rfl) ?_
  refine G_end (X_then (G_seq (G_seq (G_region ?_))))
  refine G_val (V_move rfl rfl) rfl rfl (.none rfl) ?_
  refine G_val (V_lenS rfl rfl) rfl rfl (.none rfl) ?_
  refine G_end (X_then (G_block (G_seq (G_region ?_))))
  refine G_val (V_eql rfl rfl rfl) rfl rfl (.none rfl) ?_
  refine G_val (V_assign rfl rfl) rfl rfl (.none rfl) ?_
  refine G_end (X_then ?_)
  refine G_cond_f rfl (decide_eq_false (by omega)) ?_
  refine G_seq (G_region ?_)
  refine G_val (V_eql rfl rfl rfl) rfl rfl (.none rfl) ?_
  refine G_val (V_assign rfl rfl) rfl rfl (.none rfl) ?_
  refine G_end (X_then ?_)
  refine G_cond_f rfl (decide_eq_false (by omega)) ?_
  refine G_skip (X_block (X_then (G_seq (G_region ?_))))
  refine G_val (V_assign rfl rfl) rfl rfl (.none rfl) ?_
  refine G_end (X_then (G_seq (G_seq (G_region ?_))))
  refine G_val (V_move rfl rfl) rfl rfl (.none rfl) ?_
  refine G_val (V_len rfl rfl) rfl rfl (.none rfl) ?_
  refine G_val (V_gtr rfl rfl rfl) rfl rfl (.none rfl) ?_
  refine G_end (X_then ?_)
  refine G_cond_t rfl (by kernel_rfl) ?_
  refine G_seq (G_seq (G_region ?_))
  refine G_val (V_move rfl rfl) rfl rfl (.none rfl) ?_
  refine G_val (V_len rfl rfl) rfl rfl (.none rfl) ?_
  refine G_val (V_move rfl rfl) rfl rfl (.none rfl) ?_
  refine G_val (V_lenS rfl rfl) rfl rfl (.none rfl) ?_
  refine G_val (V_sub_i64 rfl rfl rfl (by omega) (by omega)) rfl rfl (.none rfl) ?_
  refine G_val (V_quo rfl rfl rfl (by omega)) rfl rfl (.none rfl) ?_
  refine G_val (V_geq rfl rfl rfl) rfl rfl (.none rfl) ?_
  refine G_end (X_then ?_)
  refine G_cond_f rfl (decide_eq_false (by omega)) ?_
  refine G_skip (X_then (G_region ?_))
  refine G_val (V_move rfl rfl) rfl rfl (.none rfl) ?_
  refine G_val (V_move rfl rfl) rfl rfl (.none rfl) ?_
  refine G_val (V_len rfl rfl) rfl rfl (.none rfl) ?_
  refine G_val (V_move rfl rfl) rfl rfl (.none rfl) ?_
  refine G_val (V_lenS rfl rfl) rfl rfl (.none rfl) ?_
  refine G_val (V_sub_i64 rfl rfl rfl (by omega) (by omega)) rfl rfl (.none rfl) ?_
  refine G_val (V_mul rfl rfl rfl) rfl rfl (.none rfl) ?_
  refine G_val (V_add rfl rfl rfl) rfl rfl (.none rfl) ?_
  refine G_val (V_assign rfl rfl) rfl rfl (.none rfl) ?_
  refine G_end (X_then (G_seq (G_seq (G_region ?_))))
  refine G_val (V_move rfl rfl) rfl rfl (.none rfl) ?_
  refine G_val (V_lenS rfl rfl) rfl rfl (.none rfl) ?_
  refine G_val (V_move rfl rfl) rfl rfl (.none rfl) ?_
  refine G_end (X_then (G_block ?_))
  rw [e5]
  refine G_loop (α := Nat) (fun i => [(0, .slice p xs.length c), (1, .string (S [32])), (5, .int .i64 ((xs.length - 1 + i : Nat) : Int)), (39, .slice p xs.length c), (40, .int .i64 xs.length), (41, .int .i64 (i : Nat))]) (fun _ => E) (fun _ => L)
    (fun i => i ≤ xs.length) (fun i => xs.length - i) 0 (Nat.zero_le _) ⟨rfl, rfl, rfl, rfl, rfl, rfl, trivial⟩ rfl rfl ?_
  rintro i hi
  by_cases hlt : i < xs.length
  · have h0 := strs_get (List.getElem?_eq_getElem hlt)
    have h5 := h1 i hlt
    refine G_seq (G_region ?_)
    refine G_val (V_lss rfl rfl rfl) rfl rfl (.none rfl) ?_
    refine G_end (X_then (G_seq ?_))
    refine G_cond_t rfl (decide_eq_true (by omega)) ?_
    refine G_skip (X_then (G_seq (G_block (G_seq (G_region ?_)))))
    refine G_val (V_idxAddr rfl rfl rfl (SlE.rd (by assumption)) (by omega) (by omega)) rfl rfl (.none rfl) ?_
    refine G_val (V_loadS rfl rfl (SlE.rd (by assumption)) (by assumption) (by simp)) rfl rfl (.none rfl) ?_
    refine G_val (V_assign rfl rfl) rfl rfl (.none rfl) ?_
    refine G_end (X_then (G_seq (G_seq (G_region ?_))))
    refine G_val (V_move rfl rfl) rfl rfl (.none rfl) ?_
    refine G_val (V_len rfl rfl) rfl rfl (.none rfl) ?_
    refine G_val (V_move rfl rfl) rfl rfl (.none rfl) ?_
    refine G_val (V_sub_i64 rfl rfl rfl (by omega) (by omega)) rfl rfl (.none rfl) ?_
    refine G_val (V_gtr rfl rfl rfl) rfl rfl (.none rfl) ?_
    refine G_end (X_then ?_)
    refine G_cond_f rfl (decide_eq_false (by omega)) ?_
    refine G_skip (X_then (G_region ?_))
    refine G_val (V_move rfl rfl) rfl rfl (.none rfl) ?_
    refine G_val (V_move rfl rfl) rfl rfl (.none rfl) ?_
    refine G_val (V_len rfl rfl) rfl rfl (.none rfl) ?_
    refine G_val (V_add_i64 rfl rfl rfl (by omega) (by omega)) rfl rfl (.none rfl) ?_
    refine G_val (V_assign rfl rfl) rfl rfl (.none rfl) ?_
    refine G_end (X_block (X_then (G_region ?_)))
    refine G_val (V_add_i64 rfl rfl rfl (by omega) (by omega)) rfl rfl (.none rfl) ?_
    refine G_val (V_move rfl rfl) rfl rfl (.none rfl) ?_
    refine G_end (X_then ?_)
    rw [show ((xs.length - 1 + i : Nat) : Int) + (xs[i].length : Nat) = ((xs.length - 1 + (i + 1) : Nat) : Int) by omega]
    exact G_again (i + 1) hlt (by omega) ⟨rfl, rfl, rfl, rfl, rfl, rfl, trivial⟩ rfl rfl
  · obtain rfl : i = xs.length := by omega
    have h0 := strs_get (List.getElem?_eq_getElem (l := xs) (i := 0) (by omega))
    have h5 := h1 0 (by omega)
    have htl : SlE E 1 (tailAt p 1 c 1) (xs.length - 1) (strs (xs.drop 1)) := by
      have := hx.tail (l := 1) (c := c) (by omega) hc
      simpa [strs] using this
    refine G_seq (G_region ?_)
    refine G_val (V_lss rfl rfl rfl) rfl rfl (.none rfl) ?_
    refine G_end (X_then (G_seq ?_))
    refine G_cond_f rfl (decide_eq_false (by omega)) ?_
    refine G_exit (X_then_exit (X_then_exit (X_block_hit (X_then (G_seq (G_region ?_))))))
    (refine G_alloc rfl rfl rfl (.none rfl) ?_; intro b8)
    refine G_end (X_then (G_seq (G_region ?_)))
    refine G_val (V_move rfl rfl) rfl rfl (.none rfl) ?_
    refine G.bldNew ?_
    refine G_call (k := 60) (.mk rfl rfl rfl rfl) rfl rfl (.none rfl) (Grow_call _ _ _ _ (by omega) (by omega)) ?_
    rintro r1 E2 L3 hE4 ⟨z5, ⟨rfl, ⟨rfl, ⟨Z6, ⟨Z7, rfl⟩⟩⟩⟩⟩
    replace hx := hx.mono hE4
    replace htl := htl.mono hE4
    refine G_end (X_then (G_seq (G_region ?_)))
    refine G_val (V_move rfl rfl) rfl rfl (.none rfl) ?_
    refine G_val (V_idxAddr rfl rfl rfl (SlE.rd (by assumption)) (by omega) (by omega)) rfl rfl (.none rfl) ?_
    refine G_val (V_loadS rfl rfl (SlE.rd (by assumption)) (by assumption) (by simp)) rfl rfl (.none rfl) ?_
    refine G_call (k := 61) (.mk rfl rfl rfl rfl) rfl rfl (.none rfl) (WriteString_call _ _ _ _ _ (by omega)) ?_
    rintro r8 E9 L10 hE11 ⟨z12, ⟨rfl, ⟨rfl, ⟨Z13, ⟨Z14, rfl⟩⟩⟩⟩⟩
    replace hx := hx.mono hE11
    replace htl := htl.mono hE11
    refine G_end (X_then (G_seq (G_seq (G_region ?_))))
    refine G_val (V_move rfl rfl) rfl rfl (.none rfl) ?_
    refine G_val (V_slTail1 rfl rfl rfl (by omega)) rfl rfl (.none rfl) ?_
    refine G_val (V_lenS rfl rfl) rfl rfl (.none rfl) ?_
    refine G_val (V_move rfl rfl) rfl rfl (.none rfl) ?_
    refine G_end (X_then (G_block ?_))
    have hs1 : jnS (xs.take (0 + 1)) = xs[0] := by
      rw [List.take_succ_eq_append_getElem (by omega)]; simp [jnS]
    rw [Z6, List.nil_append, ← hs1] at Z13
    rw [Z7, h5] at Z14
    refine G_loop (α := Nat × Bld) (fun x => [(1, .string (S [32])), (8, .pointer (some ⟨b8, 0, none⟩)), (63, .slice (tailAt p 1 c 1) (xs.length - 1) (c - 1)), (64, .int .i64 (xs.length - 1 : Nat)), (65, .int .i64 (x.1 : Nat))]) (fun _ => E9)
      (fun x => .bld b8 x.2 :: L) (fun x => x.1 ≤ xs.length - 1 ∧ x.2.xs = jnS (xs.take (x.1 + 1)) ∧ x.2.xs.length ≤ 2 * x.1 + 1) (fun x => xs.length - x.1) (0, z12) ⟨Nat.zero_le _, Z13, by show z12.xs.length ≤ _; omega⟩ ⟨rfl, rfl, rfl, rfl, rfl, trivial⟩ rfl rfl ?_
    rintro ⟨j, t⟩ ⟨hj, ht, htl2⟩
    simp only at hj ht htl2 ⊢
    by_cases hltj : j < xs.length - 1
    · have hg : (strs (xs.drop 1))[j]? = some (.string (S (xs[1 + j]'(by omega)))) := strs_get (by rw [List.getElem?_drop, List.getElem?_eq_getElem (by omega)])
      have h6 := h1 (1 + j) (by omega)
      have hsn : jnS (xs.take (j + 1 + 1)) = (jnS (xs.take (j + 1)) ++ [32]) ++ xs[1 + j]'(by omega) := by
        rw [List.take_succ_eq_append_getElem (by omega), jnS_snoc _ _ (fun h => by have := congrArg List.length h; rw [List.length_take, List.length_nil] at this; omega)]
        congr 2
        omega
      have h32 : ([32] : List UInt8).length = 1 := rfl
      clear hx h0
      refine G_seq (G_region ?_)
      refine G_val (V_lss rfl rfl rfl) rfl rfl (.none rfl) ?_
      refine G_end (X_then (G_seq ?_))
      refine G_cond_t rfl (decide_eq_true (by omega)) ?_
      refine G_skip (X_then (G_seq (G_block (G_seq (G_region ?_)))))
      refine G_val (V_idxAddr rfl rfl rfl (SlE.rd (by assumption)) (by omega) (by omega)) rfl rfl (.none rfl) ?_
      refine G_val (V_loadS rfl rfl (SlE.rd (by assumption)) (by assumption) (by simp)) rfl rfl (.none rfl) ?_
      refine G_val (V_assign rfl rfl) rfl rfl (.none rfl) ?_
      refine G_end (X_then (G_seq (G_region ?_)))
      refine G_val (V_move rfl rfl) rfl rfl (.none rfl) ?_
      refine G_call (k := 61) (.mk rfl rfl rfl rfl) rfl rfl (.none rfl) (WriteString_call _ _ _ _ _ (by omega)) ?_
      rintro r1 E2 L3 hE5 ⟨z6, ⟨rfl, ⟨rfl, ⟨Z8, ⟨Z9, rfl⟩⟩⟩⟩⟩
      replace htl := htl.mono hE5
      refine G_end (X_then (G_region ?_))
      refine G_val (V_move rfl rfl) rfl rfl (.none rfl) ?_
      refine G_call (k := 61) (.mk rfl rfl rfl rfl) rfl rfl (.none rfl) (WriteString_call _ _ _ _ _ (by omega)) ?_
      rintro r10 E11 L12 hE13 ⟨z14, ⟨rfl, ⟨rfl, ⟨Z15, ⟨Z16, rfl⟩⟩⟩⟩⟩
      replace htl := htl.mono hE13
      refine G_end (X_block (X_then (G_region ?_)))
      refine G_val (V_add_i64 rfl rfl rfl (by omega) (by omega)) rfl rfl (.none rfl) ?_
      refine G_val (V_move rfl rfl) rfl rfl (.none rfl) ?_
      refine G_end (X_then ?_)
      exact G_again (j + 1, z14) ⟨by show j + 1 ≤ _; omega, by show z14.xs = _; rw [Z15, Z8, ht, hsn], by show z14.xs.length ≤ 2 * (j + 1) + 1; omega⟩ (by show xs.length - (j + 1) < xs.length - j; omega) ⟨rfl, rfl, rfl, rfl, rfl, trivial⟩ rfl rfl
    · obtain rfl : j = xs.length - 1 := by omega
      rw [show xs.length - 1 + 1 = xs.length by omega, List.take_length] at ht
      rw [← ht]
      refine G_seq (G_region ?_)
      refine G_val (V_lss rfl rfl rfl) rfl rfl (.none rfl) ?_
      refine G_end (X_then (G_seq ?_))
      refine G_cond_f rfl (decide_eq_false (by omega)) ?_
      refine G_exit (X_then_exit (X_then_exit (X_block_hit (X_then (G_seq (G_region ?_))))))
      refine G_call (k := 62) (.mk rfl rfl rfl rfl) rfl rfl (.none rfl) (BString_call _ _ _ _ (by omega)) ?_
      rintro r1 E2 L3 hE5 ⟨rfl, ⟨rfl, rfl⟩⟩
      replace hx := hx.mono hE5
      replace htl := htl.mono hE5
      refine G_val (V_assign rfl rfl) rfl rfl (.none rfl) ?_
      refine G_end (X_then (G_ret ?_))
      refine G_leaveS (.nil _) (by exact (.cons (.tmp rfl) (.nil))) rfl ?_ ?_
      · exact (.refl _)
      exact ⟨rfl, rfl⟩
end
end Go.Proofs.YthcfakmmomfcaaaDoor
set_option linter.unusedSimpArgs false
set_option linter.unusedVariables false
set_option maxHeartbeats 2000000
set_option maxRecDepth 20000
namespace Go.Proofs.YthcfakmmomfcaaaDoor
open Go.RowKit
def dgs (l : List Int) : List (List UInt8) := l.map fun x => [dgb x]
theorem jnS_dgs (l : List Int) : jnS (dgs l) = txR l := by
  rcases l with _ | ⟨x, l⟩
  · rfl
  · simp [jnS, dgs, txR, List.flatMap_map]
theorem dgs_one (l : List Int) (i : Nat) (h : i < (dgs l).length) : (dgs l)[i].length = 1 := by simp [dgs]
section
variable (E : Env) (L : List Res)
theorem Text_call (n a b c d : Int) : CallS Tryd.prog 16 #[lk n a b c d] E L (fun r E' L' => r = .tuple #[.string (S (txM n a b c d).1), .int .i64 (txM n a b c d).2] ∧ L = L') := by
  unfold txM
  generalize hr : ckL n a b c d 8 = r
  by_cases h : r ≠ 0
  · rw [if_pos h]
    refine CallS.intro (l := [_]) _ Tryd.func16 rfl Tryd.ntmps16 rfl ?_
    refine G_seq (G_region ?_)
    (refine G_boxA rfl rfl rfl rfl (.none rfl) ?_; intro b1)
    refine G_val (V_assign rfl rfl) rfl rfl (.none rfl) ?_
    refine G_val (V_assign rfl rfl) rfl rfl (.none rfl) ?_
    refine G_end (X_then (G_seq (G_seq (G_region ?_))))
    refine G_val (V_loadA rfl rfl (Cells.own (.head _)) rfl) rfl rfl (.none rfl) ?_
    (refine G_lit rfl rfl (by decide) (by simp [fillS, zeros, setLs, setL, Value.cells, List.range, List.range.loop]; rfl) rfl rfl (.none rfl) ?_; intro b9)
    refine G.freezeB (k := 1) (sz := 5) (.head _ _) rfl ?_
    intro E9 hE9 hs9
    refine G_callv (k := 47) (.mk rfl rfl rfl rfl) rfl rfl (.none rfl) (right1_call _ _ _ _ n a b c d 8 hs9) ?_
    rw [hr]
    refine G_val (V_assign rfl rfl) rfl rfl (.none rfl) ?_
    refine G_end (X_then (G_seq (G_region ?_)))
    refine G_val (V_move rfl rfl) rfl rfl (.none rfl) ?_
    refine G_val (V_neq rfl rfl rfl) rfl rfl (.none rfl) ?_
    refine G_end (X_then ?_)
    refine G_cond_t rfl (decide_eq_true (by omega)) ?_
    refine G_seq (G_region ?_)
    refine G_val (V_move rfl rfl) rfl rfl (.none rfl) ?_
    refine G_val (V_assign rfl rfl) rfl rfl (.none rfl) ?_
    refine G_val (V_assign rfl rfl) rfl rfl (.none rfl) ?_
    refine G_end (X_then (G_ret (X_then_ret ?_)))
    refine G_leaveS (.drop _ (.nil _)) (by exact (.cons (.tmp rfl) (.cons (.tmp rfl) (.nil)))) rfl ?_ ?_
    · exact hE9
    exact ⟨rfl, rfl⟩
  rw [if_neg h]
  have h0 : ckL n a b c d 8 = 0 := by omega
  have hn := ckL_n h0
  obtain ⟨m, rfl⟩ : ∃ m : Nat, n = m := ⟨n.toNat, by omega⟩
  have hS := ckL_S h0
  by_cases hm : m = 0
  · subst hm
    show CallS _ _ _ _ _ (fun r E' L' => r = .tuple #[.string (S [45]), .int .i64 0] ∧ L = L')
    refine CallS.intro (l := [_]) _ Tryd.func16 rfl Tryd.ntmps16 rfl ?_
    refine G_seq (G_region ?_)
    (refine G_boxA rfl rfl rfl rfl (.none rfl) ?_; intro b1)
    refine G_val (V_assign rfl rfl) rfl rfl (.none rfl) ?_
    refine G_val (V_assign rfl rfl) rfl rfl (.none rfl) ?_
    refine G_end (X_then (G_seq (G_seq (G_region ?_))))
    refine G_val (V_loadA rfl rfl (Cells.own (.head _)) rfl) rfl rfl (.none rfl) ?_
    (refine G_lit rfl rfl (by decide) (by simp [fillS, zeros, setLs, setL, Value.cells, List.range, List.range.loop]; rfl) rfl rfl (.none rfl) ?_; intro b9)
    refine G.freezeB (k := 1) (sz := 5) (.head _ _) rfl ?_
    intro E9 hE9 hs9
    refine G_callv (k := 47) (.mk rfl rfl rfl rfl) rfl rfl (.none rfl) (right1_call _ _ _ _ (0 : Nat) a b c d 8 hs9) ?_
    rw [h0]
    refine G_val (V_assign rfl rfl) rfl rfl (.none rfl) ?_
    refine G_end (X_then (G_seq (G_region ?_)))
    refine G_val (V_move rfl rfl) rfl rfl (.none rfl) ?_
    refine G_val (V_neq rfl rfl rfl) rfl rfl (.none rfl) ?_
    refine G_end (X_then ?_)
    refine G_cond_f rfl (by kernel_rfl) ?_
    refine G_skip (X_then (G_seq (G_seq (G_region ?_))))
    refine G_val (V_fieldAddr rfl rfl (by decide)) rfl rfl (.none rfl) ?_
    refine G_val (V_load rfl rfl (Cell.own (.head _) rfl)) rfl rfl (.none rfl) ?_
    refine G_val (V_eql rfl rfl rfl) rfl rfl (.none rfl) ?_
    refine G_end (X_then ?_)
    refine G_cond_t rfl (by kernel_rfl) ?_
    refine G_seq (G_region ?_)
    refine G_val (V_assign rfl rfl) rfl rfl (.none rfl) ?_
    refine G_val (V_assign rfl rfl) rfl rfl (.none rfl) ?_
    refine G_end (X_then (G_ret (X_then_ret ?_)))
    refine G_leaveS (.drop _ (.nil _)) (by exact (.cons (.tmp rfl) (.cons (.tmp rfl) (.nil)))) rfl ?_ ?_
    · exact hE9
    exact ⟨(by kernel_rfl), rfl⟩
  rw [if_neg (by omega)]
  simp only [Int.toNat_natCast]
  obtain ⟨X, hX⟩ : ∃ X, [a, b, c, d].take m = X := ⟨_, rfl⟩
  have hl := take4_len m a b c d (by omega)
  rw [hX] at hl
  have hXS : ∀ j (h : j < X.length), 0 ≤ X[j] ∧ X[j] < 10 := fun j hj => by
    have h1 := hS j (by omega)
    have h2 : gd [a, b, c, d] j = X[j] := by rw [← gd_take _ m _ (by omega), hX]; simp [List.getD, hj]
    omega
  rw [hX]
  refine CallS.intro (l := [_]) _ Tryd.func16 rfl Tryd.ntmps16 rfl ?_
  refine G_seq (G_region ?_)
  (refine G_boxA rfl rfl rfl rfl (.none rfl) ?_; intro b1)
  refine G_val (V_assign rfl rfl) rfl rfl (.none rfl) ?_
  refine G_val (V_assign rfl rfl) rfl rfl (.none rfl) ?_
  refine G_end (X_then (G_seq (G_seq (G_region ?_))))
  refine G_val (V_loadA rfl rfl (Cells.own (.head _)) rfl) rfl rfl (.none rfl) ?_
  (refine G_lit rfl rfl (by decide) (by simp [fillS, zeros, setLs, setL, Value.cells, List.range, List.range.loop]; rfl) rfl rfl (.none rfl) ?_; intro b9)
  refine G.freezeB (k := 1) (sz := 5) (.head _ _) rfl ?_
  intro E9 hE9 hs9
  refine G_callv (k := 47) (.mk rfl rfl rfl rfl) rfl rfl (.none rfl) (right1_call _ _ _ _ m a b c d 8 hs9) ?_
  rw [h0]
  refine G_val (V_assign rfl rfl) rfl rfl (.none rfl) ?_
  refine G_end (X_then (G_seq (G_region ?_)))
  refine G_val (V_move rfl rfl) rfl rfl (.none rfl) ?_
  refine G_val (V_neq rfl rfl rfl) rfl rfl (.none rfl) ?_
  refine G_end (X_then ?_)
  refine G_cond_f rfl (by kernel_rfl) ?_
  refine G_skip (X_then (G_seq (G_seq (G_region ?_))))
  refine G_val (V_fieldAddr rfl rfl (by decide)) rfl rfl (.none rfl) ?_
  refine G_val (V_load rfl rfl (Cell.own (.head _) rfl)) rfl rfl (.none rfl) ?_
  refine G_val (V_eql rfl rfl rfl) rfl rfl (.none rfl) ?_
  refine G_end (X_then ?_)
  refine G_cond_f rfl (decide_eq_false (by omega)) ?_
  refine G_skip (X_then (G_seq (G_region ?_)))
  refine G_val (V_assign rfl rfl) rfl rfl (.none rfl) ?_
  refine G_end (X_then (G_seq (G_seq (G_region ?_))))
  refine G_val (V_loadA rfl rfl (Cells.own (.head _)) rfl) rfl rfl (.none rfl) ?_
  refine G_call (k := 48) (.mk rfl rfl rfl rfl) rfl rfl (.none rfl) (list_call' _ _ m a b c d (by omega)) ?_
  rintro r1 E1 L1 hE1 ⟨p1, k1, rfl, hs1, rfl⟩
  rw [hX] at hs1
  refine G_val (V_lenS rfl rfl) rfl rfl (.none rfl) ?_
  refine G_val (V_move rfl rfl) rfl rfl (.none rfl) ?_
  refine G_end (X_then (G_block ?_))
  refine G.nilSl 9 1 ?_
  refine G_loop (α := Nat × Option Addr × Nat) (fun x => [(3, .int .i64 0), (5, .slice x.2.1 x.1 x.2.2), (18, .slice p1 m k1), (19, .int .i64 m), (20, .int .i64 (x.1 : Nat))]) (fun _ => E1)
    (fun x => .sl 9 1 x.2.1 x.1 x.2.2 (strs (dgs (X.take x.1))) :: .blk b1 (.cells (lkC m a b c d) 25 (0, 0)) :: L)
    (fun x => x.1 ≤ m) (fun x => m - x.1) (0, none, 0) (Nat.zero_le _) ⟨rfl, rfl, rfl, rfl, rfl, trivial⟩ rfl rfl ?_
  rintro ⟨i, p, k⟩ hi
  simp only at hi ⊢
  clear hs9
  by_cases hlt : i < m
  · have hx := i64s_get (List.getElem?_eq_getElem (l := X) (i := i) (by omega))
    have hb := hXS i (by omega)
    have hsn : strs (dgs (X.take i)) ++ [.string (S [dgb (X[i]'(by omega))])] = strs (dgs (X.take (i + 1))) := by
      rw [List.take_succ_eq_append_getElem (by omega)]; simp only [strs, dgs, List.map_append, List.map_cons, List.map_nil]
    clear hXS hS
    refine G_seq (G_region ?_)
    refine G_val (V_lss rfl rfl rfl) rfl rfl (.none rfl) ?_
    refine G_end (X_then (G_seq ?_))
    refine G_cond_t rfl (decide_eq_true (by omega)) ?_
    refine G_skip (X_then (G_seq (G_block (G_seq (G_region ?_)))))
    refine G_val (V_idxAddr rfl rfl rfl (SlE.rd (by assumption)) (by omega) (by omega)) rfl rfl (.none rfl) ?_
    refine G_val (V_loadS rfl rfl (SlE.rd (by assumption)) (by assumption) (by simp)) rfl rfl (.none rfl) ?_
    refine G_val (V_assign rfl rfl) rfl rfl (.none rfl) ?_
    refine G_end (X_then (G_region ?_))
    refine G_val (V_move rfl rfl) rfl rfl (.none rfl) ?_
    refine G_val (V_move rfl rfl) rfl rfl (.none rfl) ?_
    refine G_callv (k := 49) (.mk rfl rfl rfl rfl) rfl rfl (.none rfl) (Itoa_call _ _ _ (by assumption)) ?_
    (refine G_lit1 rfl rfl rfl rfl rfl (.none rfl) ?_; intro b27)
    (refine G_append rfl rfl rfl (Rd.lit (.head _) rfl) (by simp [Value.oneCell']) (by omega) (by omega) rfl rfl (.none rfl) (fun _ _ => (.tail _ (.head _ _ _))) ?_; intro a28 c28; refine G.rm (.head _ _) ?_)
    refine G_val (V_assign rfl rfl) rfl rfl (.none rfl) ?_
    refine G_end (X_block (X_then (G_region ?_)))
    refine G_val (V_add_i64 rfl rfl rfl (by omega) (by omega)) rfl rfl (.none rfl) ?_
    refine G_val (V_move rfl rfl) rfl rfl (.none rfl) ?_
    refine G_end (X_then ?_)
    rw [hsn]
    exact G_again (i + 1, _, _) hlt (by simp only; omega) ⟨rfl, rfl, rfl, rfl, rfl, trivial⟩ rfl rfl
  · obtain rfl : i = m := by omega
    refine G.freezeSl (.head _ _) ?_
    intro E2 hE2 hs2 hkc
    rw [List.take_of_length_le (by omega)] at hs2
    refine G_seq (G_region ?_)
    refine G_val (V_lss rfl rfl rfl) rfl rfl (.none rfl) ?_
    refine G_end (X_then (G_seq ?_))
    refine G_cond_f rfl (decide_eq_false (by omega)) ?_
    refine G_exit (X_then_exit (X_then_exit (X_block_hit (X_then (G_seq (G_region ?_))))))
    refine G_val (V_move rfl rfl) rfl rfl (.none rfl) ?_
    rw [← jnS_dgs]
    by_cases h1 : i = 1
    · subst h1
      obtain ⟨x, hx⟩ : ∃ x, X = [x] := List.length_eq_one_iff.1 (by omega)
      rw [hx] at hs2 ⊢
      have e : jnS (dgs [x]) = [dgb x] := by simp [jnS, dgs]
      rw [e]
      refine G_callv (k := 50) (.mk rfl rfl rfl rfl) rfl rfl (.none rfl) (Join1_call _ _ p k [dgb x] hs2) ?_
      refine G_val (V_assign rfl rfl) rfl rfl (.none rfl) ?_
      refine G_val (V_assign rfl rfl) rfl rfl (.none rfl) ?_
      refine G_end (X_then (G_ret ?_))
      refine G_leaveS (.drop _ (.nil _)) (by exact (.cons (.tmp rfl) (.cons (.tmp rfl) (.nil)))) rfl ?_ ?_
      · exact ((hE9.trans hE1).trans hE2)
      exact ⟨rfl, rfl⟩
    · refine G_callv (k := 50) (.mk rfl rfl rfl rfl) rfl rfl (.none rfl) (JoinN_call _ _ p i k (dgs X) hs2 hkc (by omega) (by omega) (dgs_one X)) ?_
      refine G_val (V_assign rfl rfl) rfl rfl (.none rfl) ?_
      refine G_val (V_assign rfl rfl) rfl rfl (.none rfl) ?_
      refine G_end (X_then (G_ret ?_))
      refine G_leaveS (.drop _ (.nil _)) (by exact (.cons (.tmp rfl) (.cons (.tmp rfl) (.nil)))) rfl ?_ ?_
      · exact ((hE9.trans hE1).trans hE2)
      exact ⟨rfl, rfl⟩
end
end Go.Proofs.YthcfakmmomfcaaaDoor
set_option linter.unusedSimpArgs false
set_option linter.unusedVariables false
set_option maxHeartbeats 2000000
set_option maxRecDepth 20000
namespace Go.Proofs.YthcfakmmomfcaaaDoor
open Go.RowKit
/-- A string cut at the first byte c. -/
def cutB (c : UInt8) : List UInt8 → List UInt8 × List UInt8 × Bool
  | [] => ([], [], false)
  | b :: l => if b = c then ([], l, true) else (b :: (cutB c l).1, (cutB c l).2.1, (cutB c l).2.2)
theorem cutB_found {c : UInt8} : ∀ {s : List UInt8}, (cutB c s).2.2 = true → s = (cutB c s).1 ++ c :: (cutB c s).2.1 := by
  intro s
  induction s with
  | nil => intro h; cases h
  | cons b l ih =>
    intro h
    unfold cutB at h ⊢
    split
    · rename_i e; subst e; rfl
    · rename_i e
      rw [if_neg e] at h
      exact congrArg (b :: ·) (ih h)
theorem cutB_none {c : UInt8} : ∀ {s : List UInt8}, (cutB c s).2.2 = false → (cutB c s).1 = s ∧ (cutB c s).2.1 = [] := by
  intro s
  induction s with
  | nil => intro _; exact ⟨rfl, rfl⟩
  | cons b l ih =>
    intro h
    unfold cutB at h ⊢
    split
    · rename_i e; rw [if_pos e] at h; cases h
    · rename_i e
      rw [if_neg e] at h
      exact ⟨congrArg (b :: ·) (ih h).1, (ih h).2⟩
theorem cutB_notin (c : UInt8) : ∀ (s : List UInt8), c ∉ (cutB c s).1 := by
  intro s
  induction s with
  | nil => intro h; cases h
  | cons b l ih =>
    unfold cutB
    split
    · intro h; cases h
    · rename_i e
      intro h
      rcases List.mem_cons.1 h with h | h
      · exact e h.symm
      · exact ih h
theorem idxB_eq (c : UInt8) : ∀ (s : List UInt8), idxB s c = if (cutB c s).2.2 = true then ((cutB c s).1.length : Int) else -1 := by
  intro s
  induction s with
  | nil => rfl
  | cons b l ih =>
    unfold idxB Lib.indexByte cutB
    unfold idxB at ih
    by_cases e : b = c
    · simp [e]
    · have e2 : (b == c) = false := by simpa using e
      rw [if_neg e, e2]
      simp only [Bool.false_eq_true, if_false]
      rw [ih]
      cases h : (cutB c l).2.2 with
      | true =>
        have e3 : (((cutB c l).1.length : Int) == -1) = false := by rw [beq_eq_false_iff_ne]; omega
        simp only [if_true, e3, Bool.false_eq_true, if_false, List.length_cons]
        omega
      | false => simp
theorem cutB_le (c : UInt8) (s : List UInt8) : (cutB c s).1.length ≤ s.length := by
  cases h : (cutB c s).2.2 with
  | true => have := congrArg List.length (cutB_found h); simp at this; omega
  | false => rw [(cutB_none h).1]; exact Nat.le_refl _
theorem cutB_lt {c : UInt8} {s : List UInt8} (h : (cutB c s).2.2 = true) : s.length = (cutB c s).1.length + 1 + (cutB c s).2.1.length := by
  have := congrArg List.length (cutB_found h); simp at this; omega
theorem cutB_take (c : UInt8) (s : List UInt8) : s.take (cutB c s).1.length = (cutB c s).1 := by
  cases h : (cutB c s).2.2 with
  | true =>
    have := cutB_found h
    generalize (cutB c s).1 = x at *
    rw [this, List.take_left]
  | false => rw [(cutB_none h).1, List.take_length]
theorem cutB_drop {c : UInt8} {s : List UInt8} (h : (cutB c s).2.2 = true) : s.drop ((cutB c s).1.length + 1) = (cutB c s).2.1 := by
  have := cutB_found h
  generalize (cutB c s).1 = x at *
  generalize (cutB c s).2.1 = y at *
  rw [this, ← List.drop_drop, List.drop_left]
  rfl
section
variable (E : Env) (L : List Res)
theorem slIndexByte_call (s : List UInt8) (c : Nat) : CallV Tryd.prog 88 #[.string (S s), .int .u8 c] E L (.int .i64 (idxB s c.toUInt8)) := by
  refine CallS.toV (CallS.intro (l := [_, _]) _ Tryd.func88 rfl Tryd.ntmps88 rfl ?_)
  refine G_seq (G_region ?_)
  refine G_val (V_assign rfl rfl) rfl rfl (.none rfl) ?_
  refine G_end (X_then (G_seq (G_region ?_)))
  refine G_val (V_move rfl rfl) rfl rfl (.none rfl) ?_
  refine G_val (V_move rfl rfl) rfl rfl (.none rfl) ?_
  refine G_val (IndexByteString_val (.mk rfl rfl rfl rfl)) rfl rfl (.none rfl) ?_
  refine G_val (V_assign rfl rfl) rfl rfl (.none rfl) ?_
  refine G_end (X_then (G_ret ?_))
  refine G_leaveS (.nil _) (by exact (.cons (.tmp rfl) (.nil))) rfl ?_ ?_
  · exact (.refl _)
  exact ⟨rfl, rfl⟩
theorem u8_back (c : UInt8) : (c.toNat).toUInt8 = c := by simp [Nat.toUInt8, UInt8.ofNat_toNat]
theorem slIndex1_call (s : List UInt8) (c : UInt8) (hs : s.length ≤ 9223372036854775807) : CallV Tryd.prog 81 #[.string (S s), .string (S [c])] E L (.int .i64 (idxB s c)) := by
  refine CallS.toV (CallS.intro (l := [_, _]) _ Tryd.func81 rfl Tryd.ntmps81 rfl ?_)
  have hl : [c].length = 1 := rfl
  have h0 : [c][0]? = some c := rfl
  by_cases h : [c] = s
  · have e : idxB s c = 0 := by rw [← h]; simp [idxB, Lib.indexByte]
    rw [e]
    refine G_seq (G_region ?_)
    refine G_val (V_assign rfl rfl) rfl rfl (.none rfl) ?_
    refine G_end (X_then (G_seq (G_region ?_)))
    refine G_val (V_move rfl rfl) rfl rfl (.none rfl) ?_
    refine G_val (V_len rfl rfl) rfl rfl (.none rfl) ?_
    refine G_val (V_assign rfl rfl) rfl rfl (.none rfl) ?_
    refine G_end (X_then (G_seq (G_block (G_seq (G_region ?_)))))
    refine G_val (V_move rfl rfl) rfl rfl (.none rfl) ?_
    refine G_val (V_eql rfl rfl rfl) rfl rfl (.none rfl) ?_
    refine G_val (V_move rfl rfl) rfl rfl (.none rfl) ?_
    refine G.bool_f 19 rfl (decide_eq_false (by omega)) ?_
    refine G_val (V_move rfl rfl) rfl rfl (.yes rfl rfl rfl rfl) ?_
    refine G_val (V_move rfl rfl) rfl rfl (.yes rfl rfl rfl rfl) ?_
    refine G_val (V_seql rfl rfl rfl) rfl rfl (.yes rfl rfl rfl rfl) ?_
    refine G_val (V_pick_f rfl rfl rfl) rfl rfl (.none rfl) ?_
    refine G_val (V_assign rfl rfl) rfl rfl (.none rfl) ?_
    refine G_end (X_then ?_)
    refine G_cond_t rfl (decide_eq_true (by omega)) ?_
    refine G_seq (G_region ?_)
    refine G_val (V_assign rfl rfl) rfl rfl (.none rfl) ?_
    refine G_end (X_then (G_ret (X_block_ret (X_then_ret ?_))))
    refine G_leaveS (.nil _) (by exact (.cons (.tmp rfl) (.nil))) rfl ?_ ?_
    · exact (.refl _)
    exact ⟨(by kernel_rfl), rfl⟩
  · have hb := u8_back c
    refine G_seq (G_region ?_)
    refine G_val (V_assign rfl rfl) rfl rfl (.none rfl) ?_
    refine G_end (X_then (G_seq (G_region ?_)))
    refine G_val (V_move rfl rfl) rfl rfl (.none rfl) ?_
    refine G_val (V_len rfl rfl) rfl rfl (.none rfl) ?_
    refine G_val (V_assign rfl rfl) rfl rfl (.none rfl) ?_
    refine G_end (X_then (G_seq (G_block (G_seq (G_region ?_)))))
    refine G_val (V_move rfl rfl) rfl rfl (.none rfl) ?_
    refine G_val (V_eql rfl rfl rfl) rfl rfl (.none rfl) ?_
    refine G_val (V_move rfl rfl) rfl rfl (.none rfl) ?_
    refine G.bool_f 19 rfl (decide_eq_false (by omega)) ?_
    refine G_val (V_move rfl rfl) rfl rfl (.yes rfl rfl rfl rfl) ?_
    refine G_val (V_move rfl rfl) rfl rfl (.yes rfl rfl rfl rfl) ?_
    refine G_val (V_seql rfl rfl rfl) rfl rfl (.yes rfl rfl rfl rfl) ?_
    refine G_val (V_pick_f rfl rfl rfl) rfl rfl (.none rfl) ?_
    refine G_val (V_assign rfl rfl) rfl rfl (.none rfl) ?_
    refine G_end (X_then ?_)
    refine G_cond_f rfl (decide_eq_false (by omega)) ?_
    refine G_seq (G_region ?_)
    refine G_val (V_move rfl rfl) rfl rfl (.none rfl) ?_
    refine G_val (V_eql rfl rfl rfl) rfl rfl (.none rfl) ?_
    refine G_val (V_assign rfl rfl) rfl rfl (.none rfl) ?_
    refine G_end (X_then ?_)
    refine G_cond_t rfl (decide_eq_true (by omega)) ?_
    refine G_seq (G_region ?_)
    refine G_val (V_move rfl rfl) rfl rfl (.none rfl) ?_
    refine G_val (V_move rfl rfl) rfl rfl (.none rfl) ?_
    refine G_val (V_sidx rfl rfl rfl (by omega) (by assumption)) rfl rfl (.none rfl) ?_
    refine G_callv (k := 88) (.mk rfl rfl rfl rfl) rfl rfl (.none rfl) (slIndexByte_call _ _ _ _) ?_
    refine G_val (V_assign rfl rfl) rfl rfl (.none rfl) ?_
    refine G_end (X_then (G_ret (X_block_ret (X_then_ret ?_))))
    refine G_leaveS (.nil _) (by exact (.cons (.tmp rfl) (.nil))) rfl ?_ ?_
    · exact (.refl _)
    exact ⟨(by (simp [resVal, *]; done)), (by rfl)⟩
theorem Index1_call (s : List UInt8) (c : UInt8) (hs : s.length ≤ 9223372036854775807) : CallV Tryd.prog 71 #[.string (S s), .string (S [c])] E L (.int .i64 (idxB s c)) := by
  refine CallS.toV (CallS.intro (l := [_, _]) _ Tryd.func71 rfl Tryd.ntmps71 rfl ?_)
  refine G_seq (G_region ?_)
  refine G_val (V_assign rfl rfl) rfl rfl (.none rfl) ?_
  refine G_end (X_then (G_seq (G_region ?_)))
  refine G_val (V_move rfl rfl) rfl rfl (.none rfl) ?_
  refine G_val (V_move rfl rfl) rfl rfl (.none rfl) ?_
  refine G_callv (k := 81) (.mk rfl rfl rfl rfl) rfl rfl (.none rfl) (slIndex1_call _ _ _ _ (by assumption)) ?_
  refine G_val (V_assign rfl rfl) rfl rfl (.none rfl) ?_
  refine G_end (X_then (G_ret ?_))
  refine G_leaveS (.nil _) (by exact (.cons (.tmp rfl) (.nil))) rfl ?_ ?_
  · exact (.refl _)
  exact ⟨rfl, rfl⟩
end
end Go.Proofs.YthcfakmmomfcaaaDoor
set_option linter.unusedSimpArgs false
set_option linter.unusedVariables false
set_option maxHeartbeats 2000000
set_option maxRecDepth 20000
namespace Go.Proofs.YthcfakmmomfcaaaDoor
open Go.RowKit
section
variable (E : Env) (L : List Res)
theorem CountString_val {fs : List (Nat × Value)} {E : Env} {L : List Res} {o : Oper} {s : List UInt8} {c : UInt8} (ht : Goesto fs o 73 #[.string (S s), .int .u8 (c.toNat : Nat)]) : Val Tryd.prog o fs E L (.int .i64 (s.count c : Nat)) := by
  refine V_extern Tryd.func73 (by kernel_rfl) (by kernel_rfl) (by kernel_rfl) (e := Extern.BytealgCount.count) (by kernel_rfl) (fun w => ?_) ht
  have h := Lib.run_countString (P := Tryd.prog) (S s) (c.toNat : Int) w
  rw [h]
  have e : ((c.toNat : Int)).toNat.toUInt8 = c := by rw [Int.toNat_natCast]; exact u8_back c
  rw [e]
  rfl
theorem Count1_call (s : List UInt8) (c : UInt8) (hs : s.length ≤ 9223372036854775807) : CallV Tryd.prog 64 #[.string (S s), .string (S [c])] E L (.int .i64 (s.count c : Nat)) := by
  refine CallS.toV (CallS.intro (l := [_, _]) _ Tryd.func64 rfl Tryd.ntmps64 rfl ?_)
  have hg : [c][(0 : Int).toNat]? = some c := rfl
  refine G_seq (G_region ?_)
  refine G_val (V_assign rfl rfl) rfl rfl (.none rfl) ?_
  refine G_end (X_then (G_seq (G_seq (G_region ?_))))
  refine G_val (V_move rfl rfl) rfl rfl (.none rfl) ?_
  refine G_val (V_len rfl rfl) rfl rfl (.none rfl) ?_
  refine G_val (V_eql rfl rfl rfl) rfl rfl (.none rfl) ?_
  refine G_end (X_then ?_)
  refine G_cond_f rfl (by simp [*]; done) ?_
  refine G_skip (X_then (G_seq (G_seq (G_region ?_))))
  refine G_val (V_move rfl rfl) rfl rfl (.none rfl) ?_
  refine G_val (V_len rfl rfl) rfl rfl (.none rfl) ?_
  refine G_val (V_eql rfl rfl rfl) rfl rfl (.none rfl) ?_
  refine G_end (X_then ?_)
  refine G_cond_t rfl (by simp [*]; done) ?_
  refine G_seq (G_region ?_)
  refine G_val (V_move rfl rfl) rfl rfl (.none rfl) ?_
  refine G_val (V_move rfl rfl) rfl rfl (.none rfl) ?_
  refine G_val (V_sidx rfl rfl rfl (by omega) (by assumption)) rfl rfl (.none rfl) ?_
  refine G_val (CountString_val (.mk rfl rfl rfl rfl)) rfl rfl (.none rfl) ?_
  refine G_val (V_assign rfl rfl) rfl rfl (.none rfl) ?_
  refine G_end (X_then (G_ret (X_then_ret ?_)))
  refine G_leaveS (.nil _) (by exact (.cons (.tmp rfl) (.nil))) rfl ?_ ?_
  · exact (.refl _)
  exact ⟨rfl, rfl⟩
end
end Go.Proofs.YthcfakmmomfcaaaDoor
set_option linter.unusedSimpArgs false
set_option linter.unusedVariables false
set_option maxHeartbeats 2000000
set_option maxRecDepth 20000
namespace Go.Proofs.YthcfakmmomfcaaaDoor
open Go.RowKit
/-! Plain: a text split at one byte. -/
def splitB (c : UInt8) : List UInt8 → List (List UInt8)
  | [] => [[]]
  | b :: s => if b = c then [] :: splitB c s else match splitB c s with
    | [] => [[b]]
    | p :: ps => (b :: p) :: ps
theorem splitB_ne (c : UInt8) : ∀ s, splitB c s ≠ [] := by
  intro s
  cases s with
  | nil => simp [splitB]
  | cons b s =>
    unfold splitB
    split
    · simp
    · split <;> simp
theorem splitB_len (c : UInt8) : ∀ s : List UInt8, (splitB c s).length = s.count c + 1 := by
  intro s
  induction s with
  | nil => rfl
  | cons b s ih =>
    unfold splitB
    by_cases h : b = c
    · rw [if_pos h, List.length_cons, ih, h, List.count_cons_self]
    · rw [if_neg h, List.count_cons_of_ne h]
      split
      · rename_i h1; exact absurd h1 (splitB_ne c s)
      · rename_i p ps h1
        rw [h1] at ih
        simpa using ih
theorem splitB_notin (c : UInt8) : ∀ a : List UInt8, c ∉ a → splitB c a = [a] := by
  intro a
  induction a with
  | nil => intro _; rfl
  | cons b a ih =>
    intro h
    have hb : b ≠ c := fun e => h (by rw [e]; exact .head _)
    rw [splitB, if_neg hb, ih (fun h1 => h (.tail _ h1))]
theorem splitB_app (c : UInt8) : ∀ (a r : List UInt8), c ∉ a → splitB c (a ++ c :: r) = a :: splitB c r := by
  intro a
  induction a with
  | nil => intro r _; rw [List.nil_append, splitB, if_pos rfl]
  | cons b a ih =>
    intro r h
    have hb : b ≠ c := fun e => h (by rw [e]; exact .head _)
    rw [List.cons_append, splitB, if_neg hb, ih r (fun h1 => h (.tail _ h1))]
theorem splitB_cut (c : UInt8) (s : List UInt8) : splitB c s = if (cutB c s).2.2 = true then (cutB c s).1 :: splitB c (cutB c s).2.1 else [s] := by
  by_cases h : (cutB c s).2.2 = true
  · rw [if_pos h]
    conv => lhs; rw [cutB_found h]
    exact splitB_app c _ _ (cutB_notin c s)
  · rw [if_neg h]
    have h1 := cutB_none (c := c) (s := s) (by simpa using h)
    have h2 := cutB_notin c s
    rw [h1.1] at h2
    exact splitB_notin c s h2
end Go.Proofs.YthcfakmmomfcaaaDoor
set_option linter.unusedSimpArgs false
set_option linter.unusedVariables false
set_option maxHeartbeats 2000000
set_option maxRecDepth 20000
namespace Go.Proofs.YthcfakmmomfcaaaDoor
open Go.RowKit
theorem set_parts (ps : List (List UInt8)) (k : Nat) (v : List UInt8) (z : Value) : (strs ps ++ List.replicate (k + 1) z).set ps.length (.string (S v)) = strs (ps ++ [v]) ++ List.replicate k z := by
  have h : (strs ps).length = ps.length := by simp [strs]
  rw [List.set_append_right _ _ (by omega), h, Nat.sub_self, List.replicate_succ, List.set_cons_zero]
  simp [strs]
section
variable (E : Env) (L : List Res)
theorem genSplit_call (s : List UInt8) (c : UInt8) (hs : s.length ≤ 1000000) : CallS Tryd.prog 63 #[.string (S s), .string (S [c]), .int .i64 0, .int .i64 (-1)] E L (fun r E' L' => ∃ p k, r = .slice p (splitB c s).length k ∧ SlE E' 1 p (splitB c s).length (strs (splitB c s)) ∧ L = L') := by
  have hc : s.count c ≤ s.length := List.count_le_length
  refine CallS.intro (l := [_, _, _, _]) _ Tryd.func63 rfl Tryd.ntmps63 rfl ?_
  refine G_seq (G_region ?_)
  refine G_val (V_assign rfl rfl) rfl rfl (.none rfl) ?_
  refine G_end (X_then (G_seq (G_seq (G_region ?_))))
  refine G_val (V_move rfl rfl) rfl rfl (.none rfl) ?_
  refine G_val (V_eql rfl rfl rfl) rfl rfl (.none rfl) ?_
  refine G_end (X_then ?_)
  refine G_cond_f rfl (by kernel_rfl) ?_
  refine G_skip (X_then (G_seq (G_seq (G_region ?_))))
  refine G_val (V_move rfl rfl) rfl rfl (.none rfl) ?_
  refine G_val (V_seql rfl rfl rfl) rfl rfl (.none rfl) ?_
  refine G_end (X_then ?_)
  refine G_cond_f rfl (by simp [*]; done) ?_
  refine G_skip (X_then (G_seq (G_seq (G_region ?_))))
  refine G_val (V_move rfl rfl) rfl rfl (.none rfl) ?_
  refine G_val (V_lss rfl rfl rfl) rfl rfl (.none rfl) ?_
  refine G_end (X_then ?_)
  refine G_cond_t rfl (by kernel_rfl) ?_
  refine G_region ?_
  refine G_val (V_move rfl rfl) rfl rfl (.none rfl) ?_
  refine G_val (V_move rfl rfl) rfl rfl (.none rfl) ?_
  refine G_callv (k := 64) (.mk rfl rfl rfl rfl) rfl rfl (.none rfl) (Count1_call _ _ _ _ (by omega)) ?_
  refine G_val (V_add_i64 rfl rfl rfl (by omega) (by omega)) rfl rfl (.none rfl) ?_
  refine G_val (V_assign rfl rfl) rfl rfl (.none rfl) ?_
  refine G_end (X_then (G_seq (G_region ?_)))
  refine G_val (V_move rfl rfl) rfl rfl (.none rfl) ?_
  refine G_val (V_move rfl rfl) rfl rfl (.none rfl) ?_
  refine G_val (V_len rfl rfl) rfl rfl (.none rfl) ?_
  refine G_val (V_add_i64 rfl rfl rfl (by omega) (by omega)) rfl rfl (.none rfl) ?_
  refine G_val (V_min rfl rfl rfl) rfl rfl (.none rfl) ?_
  refine G_val (V_assign rfl rfl) rfl rfl (.none rfl) ?_
  refine G_end (X_then (G_seq (G_region ?_)))
  refine G_val (V_move rfl rfl) rfl rfl (.none rfl) ?_
  (refine G_makeSlice rfl rfl rfl (by omega) (by omega) (by omega) rfl rfl (.none rfl) ?_; intro b31)
  refine G_val (V_assign rfl rfl) rfl rfl (.none rfl) ?_
  refine G_end (X_then (G_seq (G_region ?_)))
  refine G_val (V_move rfl rfl) rfl rfl (.none rfl) ?_
  refine G_val (V_sub_i64 rfl rfl rfl (by omega) (by omega)) rfl rfl (.none rfl) ?_
  refine G_val (V_assign rfl rfl) rfl rfl (.none rfl) ?_
  refine G_end (X_then (G_seq (G_region ?_)))
  refine G_val (V_assign rfl rfl) rfl rfl (.none rfl) ?_
  refine G_end (X_then (G_seq (G_block ?_)))
  obtain ⟨N, hN⟩ : ∃ N, s.count c = N := ⟨_, rfl⟩
  have hlen := splitB_len c s
  rw [hN] at hc hlen
  have e1 : min ((N : Int) + 1) ((s.length : Int) + 1) = ((N + 1 : Nat) : Int) := by omega
  rw [hN, e1, Int.toNat_natCast]
  refine G_loop (α := List (List UInt8) × List UInt8) (fun x => [(0, .string (S x.2)), (1, .string (S [c])), (2, .int .i64 0), (3, .int .i64 ((N + 1 : Nat) - 1)), (9, .slice (some ⟨b31, 0, none⟩) (N + 1) (N + 1)), (10, .int .i64 (x.1.length : Nat))]) (fun _ => E)
    (fun x => .blk b31 (.cells (strs x.1 ++ List.replicate (N + 1 - x.1.length) (Value.string { data := #[] })).toArray 9 (0, 0)) :: L)
    (fun x => x.1 ++ splitB c x.2 = splitB c s ∧ x.2.length ≤ s.length) (fun x => x.2.length) ([], s) ⟨rfl, Nat.le_refl _⟩ ⟨rfl, rfl, rfl, rfl, rfl, rfl, trivial⟩ rfl rfl ?_
  rintro ⟨ps, rest⟩ ⟨hps, hrl⟩
  simp only at hps hrl ⊢
  have hcut := splitB_cut c rest
  have hidx := idxB_eq c rest
  have hle := cutB_le c rest
  have hpl : ps.length + (splitB c rest).length = N + 1 := by rw [← hlen, ← hps, List.length_append]
  have hr1 := splitB_len c rest
  by_cases hf : (cutB c rest).2.2 = true
  · rw [if_pos hf] at hcut hidx
    have hlt2 := cutB_lt hf
    have htk := cutB_take c rest
    have hdr := cutB_drop hf
    have hne := List.length_pos_iff.2 (splitB_ne c (cutB c rest).2.1)
    rw [hcut, List.length_cons] at hpl
    refine G_seq (G_seq (G_region ?_))
    refine G_val (V_move rfl rfl) rfl rfl (.none rfl) ?_
    refine G_val (V_move rfl rfl) rfl rfl (.none rfl) ?_
    refine G_val (V_lss rfl rfl rfl) rfl rfl (.none rfl) ?_
    refine G_end (X_then ?_)
    refine G_cond_t rfl (decide_eq_true (by omega)) ?_
    refine G_skip (X_then (G_block (G_seq (G_region ?_))))
    refine G_val (V_move rfl rfl) rfl rfl (.none rfl) ?_
    refine G_val (V_move rfl rfl) rfl rfl (.none rfl) ?_
    refine G_callv (k := 71) (.mk rfl rfl rfl rfl) rfl rfl (.none rfl) (Index1_call _ _ _ _ (by omega)) ?_
    refine G_val (V_assign rfl rfl) rfl rfl (.none rfl) ?_
    refine G_end (X_then (G_seq (G_seq (G_region ?_))))
    refine G_val (V_move rfl rfl) rfl rfl (.none rfl) ?_
    refine G_val (V_lss rfl rfl rfl) rfl rfl (.none rfl) ?_
    refine G_end (X_then ?_)
    refine G_cond_f rfl (decide_eq_false (by omega)) ?_
    refine G_skip (X_then (G_seq (G_region ?_)))
    refine G_val (V_move rfl rfl) rfl rfl (.none rfl) ?_
    refine G_val (V_move rfl rfl) rfl rfl (.none rfl) ?_
    refine G_val (V_move rfl rfl) rfl rfl (.none rfl) ?_
    refine G_val (V_move rfl rfl) rfl rfl (.none rfl) ?_
    refine G_val (V_move rfl rfl) rfl rfl (.none rfl) ?_
    refine G_val (V_add_i64 rfl rfl rfl (by omega) (by omega)) rfl rfl (.none rfl) ?_
    refine G_val (V_front rfl rfl rfl (by omega) (by omega)) rfl rfl (.none rfl) ?_
    refine G_val (V_idxB1n rfl rfl rfl (by omega)) rfl rfl (.none rfl) ?_
    have hsl : N + 1 - ps.length = (N - ps.length) + 1 := by omega
    have e2 : (idxB rest c + 0).toNat = (cutB c rest).1.length := by rw [hidx]; omega
    rw [hsl, e2, htk]
    refine G_storeB rfl rfl rfl rfl rfl rfl (.none rfl) (.head _ _ _) (by simp [strs]) ?_
    rw [set_parts, hidx]
    have hc1 : ([c] : List UInt8).length = 1 := rfl
    refine G_end (X_then (G_seq (G_region ?_)))
    refine G_val (V_move rfl rfl) rfl rfl (.none rfl) ?_
    refine G_val (V_move rfl rfl) rfl rfl (.none rfl) ?_
    refine G_val (V_move rfl rfl) rfl rfl (.none rfl) ?_
    refine G_val (V_len rfl rfl) rfl rfl (.none rfl) ?_
    refine G_val (V_add_i64 rfl rfl rfl (by omega) (by omega)) rfl rfl (.none rfl) ?_
    refine G_val (V_back rfl rfl rfl (by omega) (by omega)) rfl rfl (.none rfl) ?_
    refine G_val (V_assign rfl rfl) rfl rfl (.none rfl) ?_
    refine G_end (X_then (G_region ?_))
    refine G_val (V_move rfl rfl) rfl rfl (.none rfl) ?_
    refine G_val (V_add_i64 rfl rfl rfl (by omega) (by omega)) rfl rfl (.none rfl) ?_
    refine G_val (V_assign rfl rfl) rfl rfl (.none rfl) ?_
    refine G_end (X_block (X_then ?_))
    have e3 : (((cutB c rest).1.length : Nat) : Int) + ((([c] : List UInt8).length : Nat) : Int) = (((cutB c rest).1.length + 1 : Nat) : Int) := by omega
    have e4 : (ps.length : Int) + 1 = ((ps ++ [(cutB c rest).1]).length : Nat) := by rw [List.length_append, List.length_singleton]; omega
    have e5 : N - ps.length = N + 1 - (ps ++ [(cutB c rest).1]).length := by rw [List.length_append, List.length_singleton]; omega
    rw [e3, Int.toNat_natCast, hdr, e4, e5]
    exact G_again (ps ++ [(cutB c rest).1], (cutB c rest).2.1) ⟨by rw [List.append_assoc]; show ps ++ ((cutB c rest).1 :: splitB c (cutB c rest).2.1) = _; rw [← hcut]; exact hps, by show (cutB c rest).2.1.length ≤ _; omega⟩ (by show (cutB c rest).2.1.length < rest.length; omega) ⟨rfl, rfl, rfl, rfl, rfl, rfl, trivial⟩ rfl rfl
  · rw [if_neg hf] at hcut hidx
    rw [hcut, List.length_singleton] at hpl
    have hsl : N + 1 - ps.length = (N - ps.length) + 1 := by omega
    refine G_seq (G_seq (G_region ?_))
    refine G_val (V_move rfl rfl) rfl rfl (.none rfl) ?_
    refine G_val (V_move rfl rfl) rfl rfl (.none rfl) ?_
    refine G_val (V_lss rfl rfl rfl) rfl rfl (.none rfl) ?_
    refine G_end (X_then ?_)
    refine G_cond_f rfl (decide_eq_false (by omega)) ?_
    refine G_exit (X_then_exit (X_then_exit (X_block_hit (X_then (G_seq (G_region ?_))))))
    refine G_val (V_move rfl rfl) rfl rfl (.none rfl) ?_
    refine G_val (V_move rfl rfl) rfl rfl (.none rfl) ?_
    refine G_val (V_move rfl rfl) rfl rfl (.none rfl) ?_
    refine G_val (V_idxB1n rfl rfl rfl (by omega)) rfl rfl (.none rfl) ?_
    rw [hsl]
    refine G_storeB rfl rfl rfl rfl rfl rfl (.none rfl) (.head _ _ _) (by simp [strs]) ?_
    have hz : N - ps.length = 0 := by omega
    rw [set_parts, hz, List.replicate_zero, List.append_nil, ← hcut, hps]
    refine G.freezeB (k := (splitB c s).length) (sz := 1) (.head _ _) (by simp [strs]) ?_
    intro E2 hE2 hs2
    have e4 : ((ps.length : Int) + 1).toNat = (splitB c s).length := by omega
    refine G_end (X_then (G_seq (G_region ?_)))
    refine G_val (V_move rfl rfl) rfl rfl (.none rfl) ?_
    refine G_val (V_move rfl rfl) rfl rfl (.none rfl) ?_
    refine G_val (V_add_i64 rfl rfl rfl (by omega) (by omega)) rfl rfl (.none rfl) ?_
    refine G_val (V_slHead rfl rfl rfl (by omega) (by omega)) rfl rfl (.none rfl) ?_
    refine G_val (V_assign rfl rfl) rfl rfl (.none rfl) ?_
    refine G_end (X_then (G_ret ?_))
    refine G_leaveS (.nil _) (by exact (.cons (.tmp rfl) (.nil))) rfl ?_ ?_
    · exact hE2
    exact ⟨_, _, by rw [e4]; rfl, hs2, rfl⟩
end
end Go.Proofs.YthcfakmmomfcaaaDoor
set_option linter.unusedSimpArgs false
set_option linter.unusedVariables false
set_option maxHeartbeats 2000000
set_option maxRecDepth 20000
namespace Go.Proofs.YthcfakmmomfcaaaDoor
open Go.RowKit
section
variable (E : Env) (L : List Res)
theorem Split_call (s : List UInt8) (c : UInt8) (hs : s.length ≤ 1000000) : CallS Tryd.prog 55 #[.string (S s), .string (S [c])] E L (fun r E' L' => ∃ p k, r = .slice p (splitB c s).length k ∧ SlE E' 1 p (splitB c s).length (strs (splitB c s)) ∧ L = L') := by
  refine CallS.intro (l := [_, _]) _ Tryd.func55 rfl Tryd.ntmps55 rfl ?_
  refine G_seq (G_region ?_)
  refine G_val (V_assign rfl rfl) rfl rfl (.none rfl) ?_
  refine G_end (X_then (G_seq (G_region ?_)))
  refine G_val (V_move rfl rfl) rfl rfl (.none rfl) ?_
  refine G_val (V_move rfl rfl) rfl rfl (.none rfl) ?_
  refine G_call (k := 63) (.mk rfl rfl rfl rfl) rfl rfl (.none rfl) (genSplit_call _ _ s c hs) ?_
  rintro r1 E1 L1 hE1 ⟨p1, k1, rfl, hs1, rfl⟩
  refine G_val (V_assign rfl rfl) rfl rfl (.none rfl) ?_
  refine G_end (X_then (G_ret ?_))
  refine G_leaveS (.nil _) (by exact (.cons (.tmp rfl) (.nil))) rfl ?_ ?_
  · exact hE1
  exact ⟨_, ⟨_, ⟨rfl, ⟨(by assumption), rfl⟩⟩⟩⟩
end
end Go.Proofs.YthcfakmmomfcaaaDoor
namespace Go.Proofs.YthcfakmmomfcaaaDoor
open Go.RowKit
/-! Plain: texts of single digits, split at blanks. -/
abbrev okP (w : List UInt8) : Prop := ∃ b : UInt8, w = [b] ∧ 48 ≤ b.toNat ∧ b.toNat ≤ 57
def dgOf (w : List UInt8) : Int := ((w.headD 0).toNat : Int) - 48
def altP : List UInt8 → Prop
  | [] => False
  | [b] => 48 ≤ b.toNat ∧ b.toNat ≤ 57
  | b :: c :: r => (48 ≤ b.toNat ∧ b.toNat ≤ 57) ∧ c = 32 ∧ altP r
def digs : List UInt8 → List Int
  | [] => []
  | [b] => [(b.toNat : Int) - 48]
  | b :: _ :: r => ((b.toNat : Int) - 48) :: digs r
theorem okP_one (b : UInt8) : okP [b] ↔ 48 ≤ b.toNat ∧ b.toNat ≤ 57 := by
  constructor
  · rintro ⟨x, h, h1⟩
    rw [List.singleton_inj.1 h]; exact h1
  · exact fun h => ⟨b, rfl, h⟩
theorem okP_nil : ¬ okP [] := by rintro ⟨x, h, _⟩; cases h
theorem okP_two (b c : UInt8) (r : List UInt8) : ¬ okP (b :: c :: r) := by rintro ⟨x, h, _⟩; cases h
theorem not32 {b : UInt8} (h : 48 ≤ b.toNat) : b ≠ 32 := by
  rintro rfl
  exact absurd h (by decide)
theorem alt_iff : ∀ (n : Nat) (s : List UInt8), s.length ≤ n → ((∀ w, w ∈ splitB 32 s → okP w) ↔ altP s) := by
  intro n
  induction n using Nat.strongRecOn with
  | ind n ih =>
    intro s hs
    rcases s with _ | ⟨b, _ | ⟨c, r⟩⟩
    · simp only [splitB, altP, iff_false]
      exact fun h => okP_nil (h _ (.head _))
    · by_cases hb : b = 32
      · subst hb
        simp only [splitB, if_true, altP]
        constructor
        · exact fun h => absurd (h _ (.head _)) okP_nil
        · rintro ⟨h, _⟩; exact absurd h (by decide)
      · simp only [splitB, if_neg hb, altP, List.mem_singleton, forall_eq]
        exact okP_one b
    · by_cases hb : b = 32
      · subst hb
        rw [splitB, if_pos rfl]
        simp only [altP]
        constructor
        · exact fun h => absurd (h _ (.head _)) okP_nil
        · rintro ⟨⟨h, _⟩, _⟩; exact absurd h (by decide)
      · by_cases hc : c = 32
        · subst hc
          have e : splitB 32 (b :: 32 :: r) = [b] :: splitB 32 r := by
            rw [splitB, if_neg hb, splitB, if_pos rfl]
          rw [e]
          have h1 := ih (n - 2) (by simp only [List.length_cons] at hs; omega) r (by simp only [List.length_cons] at hs; omega)
          simp only [altP, List.mem_cons, forall_eq_or_imp, h1, okP_one, true_and]
        · have : ∃ p ps, splitB 32 (b :: c :: r) = (b :: c :: p) :: ps := by
            rw [splitB, if_neg hb, splitB, if_neg hc]
            rcases h : splitB 32 r with _ | ⟨p, ps⟩
            · exact absurd h (splitB_ne 32 r)
            · exact ⟨p, ps, rfl⟩
          obtain ⟨p, ps, e⟩ := this
          rw [e]
          simp only [altP, hc, false_and, and_false, iff_false]
          exact fun h => okP_two _ _ _ (h _ (.head _))
theorem digs_split : ∀ (n : Nat) (s : List UInt8), s.length ≤ n → altP s → (splitB 32 s).map dgOf = digs s := by
  intro n
  induction n using Nat.strongRecOn with
  | ind n ih =>
    intro s hs ha
    rcases s with _ | ⟨b, _ | ⟨c, r⟩⟩
    · exact ha.elim
    · have hb := not32 ha.1
      simp only [splitB, if_neg hb, List.map_cons, List.map_nil, digs]
      rfl
    · obtain ⟨hd, rfl, hr⟩ := ha
      have hb := not32 hd.1
      have e : splitB 32 (b :: 32 :: r) = [b] :: splitB 32 r := by
        rw [splitB, if_neg hb, splitB, if_pos rfl]
      rw [e, List.map_cons, ih (n - 2) (by simp only [List.length_cons] at hs; omega) r (by simp only [List.length_cons] at hs; omega) hr]
      rfl
/-- as a law of places -/
abbrev altI (s : List UInt8) (k : Nat) : Prop := ∀ j (h : j < s.length), j < k → (j % 2 = 0 → 48 ≤ s[j].toNat ∧ s[j].toNat ≤ 57) ∧ (j % 2 = 1 → s[j] = 32)
theorem alt_at : ∀ (n : Nat) (s : List UInt8), s.length ≤ n → (altP s ↔ s.length % 2 = 1 ∧ altI s s.length) := by
  intro n
  induction n using Nat.strongRecOn with
  | ind n ih =>
    intro s hs
    rcases s with _ | ⟨b, _ | ⟨c, r⟩⟩
    · simp [altP]
    · simp only [altP, List.length_singleton]
      constructor
      · intro h
        refine ⟨by first | trivial | simp, fun j hj _ => ?_⟩
        obtain rfl : j = 0 := by simp at hj; exact hj
        exact ⟨fun _ => h, fun h => by omega⟩
      · rintro ⟨_, h⟩
        exact (h 0 (by simp) (by omega)).1 rfl
    · have h1 := ih (n - 2) (by simp only [List.length_cons] at hs; omega) r (by simp only [List.length_cons] at hs; omega)
      simp only [altP, h1, List.length_cons]
      constructor
      · rintro ⟨hd, hc, hr, ha⟩
        refine ⟨by omega, fun j hj _ => ?_⟩
        rcases j with _ | _ | j
        · exact ⟨fun _ => hd, fun h => by omega⟩
        · exact ⟨fun h => by omega, fun _ => hc⟩
        · have := ha j (by simp only [List.length_cons] at hj; omega) (by simp only [List.length_cons] at hj; omega)
          simp only [List.getElem_cons_succ]
          exact ⟨fun h => this.1 (by omega), fun h => this.2 (by omega)⟩
      · rintro ⟨hl, ha⟩
        refine ⟨(ha 0 (by simp) (by omega)).1 rfl, (ha 1 (by simp) (by omega)).2 rfl, by omega, fun j hj _ => ?_⟩
        have := ha (j + 2) (by simp only [List.length_cons]; omega) (by omega)
        simp only [List.getElem_cons_succ] at this
        exact ⟨fun h => this.1 (by omega), fun h => this.2 (by omega)⟩
theorem digs_len : ∀ (n : Nat) (s : List UInt8), s.length ≤ n → (digs s).length = (s.length + 1) / 2 := by
  intro n
  induction n using Nat.strongRecOn with
  | ind n ih =>
    intro s hs
    rcases s with _ | ⟨b, _ | ⟨c, r⟩⟩
    · simp [digs]
    · simp [digs]
    · have h1 := ih (n - 2) (by simp only [List.length_cons] at hs; omega) r (by simp only [List.length_cons] at hs; omega)
      simp only [digs, List.length_cons, h1]
      omega
theorem digs_at : ∀ (k : Nat) (s : List UInt8) (h : 2 * k < s.length), (digs s)[k]? = some ((s[2 * k].toNat : Int) - 48) := by
  intro k
  induction k with
  | zero =>
    intro s h
    rcases s with _ | ⟨b, _ | ⟨c, r⟩⟩
    · cases h
    · rfl
    · rfl
  | succ k ih =>
    intro s h
    rcases s with _ | ⟨b, _ | ⟨c, r⟩⟩
    · cases h
    · simp only [List.length_singleton] at h; omega
    · have := ih r (by simp only [List.length_cons] at h; omega)
      simp only [digs, List.getElem?_cons_succ, this]
      rfl
end Go.Proofs.YthcfakmmomfcaaaDoor
