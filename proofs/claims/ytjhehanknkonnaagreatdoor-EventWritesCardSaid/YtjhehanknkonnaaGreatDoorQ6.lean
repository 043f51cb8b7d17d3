/-
  Rules and contracts, packed: W7, W8, W9, W10.
-/
import Derived.Test.YtjhehanknkonnaaGreatDoorQ5
set_option maxHeartbeats 1000000
set_option linter.unusedSimpArgs false
set_option linter.unusedVariables false
set_option maxHeartbeats 2000000
set_option maxRecDepth 20000
namespace Go.Proofs.YtjhehanknkonnaaGreatDoor
open Go.RowKit
/-! Fields of kinds, counts, symbols, reasons. -/
/-- The first place of v, from i on. -/
def posL {α : Type} [DecidableEq α] (v : α) : List α → Nat → Int
  | [], _ => -1
  | x :: l, i => if v = x then (i : Nat) else posL v l (i + 1)
theorem posL_drop {α : Type} [DecidableEq α] {v x : α} {xs : List α} {i : Nat} (h : xs[i]? = some x) : posL v (xs.drop i) i = if v = x then (i : Int) else posL v (xs.drop (i + 1)) (i + 1) := by
  rw [List.drop_eq_getElem_cons (List.getElem?_eq_some_iff.1 h).1, (List.getElem?_eq_some_iff.1 h).2]
  rfl
theorem posL_mem {α : Type} [DecidableEq α] (v : α) : ∀ (xs : List α) (i : Nat), (v ∈ xs → (i : Int) ≤ posL v xs i ∧ posL v xs i < i + xs.length) ∧ (v ∉ xs → posL v xs i = -1) := by
  intro xs
  induction xs with
  | nil => intro i; exact ⟨fun h => by simp at h, fun _ => rfl⟩
  | cons x xs ih =>
    intro i
    simp only [posL, List.length_cons]
    by_cases h : v = x
    · rw [if_pos h]
      refine ⟨fun _ => by omega, fun h2 => absurd (by rw [h]; exact .head _) h2⟩
    · rw [if_neg h]
      obtain ⟨i1, i2⟩ := ih (i + 1)
      refine ⟨fun h2 => ?_, fun h2 => i2 (fun h3 => h2 (.tail _ h3))⟩
      rcases List.mem_cons.1 h2 with h3 | h3
      · exact absurd h3 h
      · have := i1 h3; omega
section
variable (E : Env) (L : List Res)
theorem IndexI_call (p : Option Addr) (n c : Nat) (xs : List Int) (hx : SlE E 1 p n (i64s xs)) (hn : n ≤ 1000000) (v : Int) : CallV Tryz.prog 73 #[.slice p n c, .int .i64 v] E L (.int .i64 (posL v xs 0)) := by
  have en := hx.nI
  subst en
  refine CallS.toV (CallS.intro (l := [_, _]) _ Tryz.func73 rfl Tryz.ntmps73 rfl ?_)
  refine G_seq (G_region ?_)
  refine Ga ?_
  refine G_end (X_then (G_seq (G_seq (G_region ?_))))
  refine Gm ?_
  refine Gv (V_lenS rfl rfl) ?_
  refine Gm ?_
  refine G_end (X_then (G_block ?_))
  refine G_loop (α := Nat) (fun i => [(0, .slice p xs.length c), (1, .int .i64 v), (7, .int .i64 xs.length), (8, .int .i64 (i : Nat))]) (fun _ => E) (fun _ => L) (fun i => i ≤ xs.length ∧ posL v (xs.drop i) i = posL v xs 0) (fun i => xs.length - i) 0 ⟨Nat.zero_le _, rfl⟩ ⟨rfl, rfl, rfl, rfl, trivial⟩ rfl rfl ?_
  rintro i ⟨hi, hv⟩
  by_cases hlt : i < xs.length
  · have hx1 := i64s_get (List.getElem?_eq_getElem hlt)
    have hd := posL_drop (v := v) (List.getElem?_eq_getElem hlt)
    generalize xs[i] = x at *
    by_cases he : v = x
    · rw [if_pos he] at hd
      rw [← hv, hd]
      refine G_seq (G_region ?_)
      refine Gv (V_lss rfl rfl rfl) ?_
      refine G_end (X_then (G_seq ?_))
      refine G_cond_t rfl (decide_eq_true (by omega)) ?_
      refine G_skip (X_then (G_seq (G_block (G_seq (G_region ?_)))))
      refine Gm ?_
      refine Ga ?_
      refine G_end (X_then (G_seq (G_region ?_)))
      refine Gm ?_
      refine Gm ?_
      refine Gm ?_
      refine Gv (V_idxAddr rfl rfl rfl (SlE.rd (by assumption)) (by omega) (by omega)) ?_
      refine Gv (V_loadS rfl rfl (SlE.rd (by assumption)) (by assumption) (by simp)) ?_
      refine Gv (V_eql rfl rfl rfl) ?_
      refine G_end (X_then ?_)
      refine G_cond_t rfl (decide_eq_true (by omega)) ?_
      refine G_seq (G_region ?_)
      refine Gm ?_
      refine Ga ?_
      refine G_end (X_then (G_ret (X_block_ret (X_then_ret (X_then_ret (X_block_ret (X_then_ret ?_)))))))
      refine G_leaveS (.nil _) (by exact (.cons (.tmp rfl) (.nil))) rfl ?_ ?_
      · exact (.refl _)
      exact ⟨rfl, rfl⟩
    · rw [if_neg he] at hd
      refine G_seq (G_region ?_)
      refine Gv (V_lss rfl rfl rfl) ?_
      refine G_end (X_then (G_seq ?_))
      refine G_cond_t rfl (decide_eq_true (by omega)) ?_
      refine G_skip (X_then (G_seq (G_block (G_seq (G_region ?_)))))
      refine Gm ?_
      refine Ga ?_
      refine G_end (X_then (G_seq (G_region ?_)))
      refine Gm ?_
      refine Gm ?_
      refine Gm ?_
      refine Gv (V_idxAddr rfl rfl rfl (SlE.rd (by assumption)) (by omega) (by omega)) ?_
      refine Gv (V_loadS rfl rfl (SlE.rd (by assumption)) (by assumption) (by simp)) ?_
      refine Gv (V_eql rfl rfl rfl) ?_
      refine G_end (X_then ?_)
      refine G_cond_f rfl (decide_eq_false (by omega)) ?_
      refine G_skip (X_block (X_then (G_region ?_)))
      refine Gv (V_add_i64 rfl rfl rfl (by omega) (by omega)) ?_
      refine Gm ?_
      refine G_end (X_then ?_)
      exact G_again (i + 1) ⟨hlt, by rw [← hd]; exact hv⟩ (by omega) ⟨rfl, rfl, rfl, rfl, trivial⟩ rfl rfl
  · rw [List.drop_eq_nil_of_le (by omega)] at hv
    rw [← hv]
    refine G_seq (G_region ?_)
    refine Gv (V_lss rfl rfl rfl) ?_
    refine G_end (X_then (G_seq ?_))
    refine G_cond_f rfl (decide_eq_false (by omega)) ?_
    refine G_exit (X_then_exit (X_then_exit (X_block_hit (X_then (G_seq (G_region ?_))))))
    refine Ga ?_
    refine G_end (X_then (G_ret ?_))
    refine G_leaveS (.nil _) (by exact (.cons (.tmp rfl) (.nil))) rfl ?_ ?_
    · exact (.refl _)
    exact ⟨rfl, rfl⟩
theorem ContainsI_call (p : Option Addr) (n c : Nat) (xs : List Int) (hx : SlE E 1 p n (i64s xs)) (hn : n ≤ 1000000) (v : Int) : CallV Tryz.prog 35 #[.slice p n c, .int .i64 v] E L (.bool (decide (v ∈ xs))) := by
  obtain ⟨h1, h2⟩ := posL_mem v xs 0
  by_cases h : v ∈ xs
  · rw [decide_eq_true h]
    have := h1 h
    refine CallS.toV (CallS.intro (l := [_, _]) _ Tryz.func35 rfl Tryz.ntmps35 rfl ?_)
    refine G_seq (G_region ?_)
    refine Ga ?_
    refine G_end (X_then (G_seq (G_region ?_)))
    refine Gm ?_
    refine Gm ?_
    refine G_callv (k := 73) (.mk rfl rfl rfl rfl) rfl rfl (.none rfl) (IndexI_call _ _ _ _ _ _ (by assumption) (by assumption) _) ?_
    refine Gv (V_geq rfl rfl rfl) ?_
    refine Ga ?_
    refine G_end (X_then (G_ret ?_))
    refine G_leaveS (.nil _) (by exact (.cons (.tmp rfl) (.nil))) rfl ?_ ?_
    · exact (.refl _)
    exact ⟨(by ((try simp only [resVal]); (repeat' split) <;> first | rfl | (exfalso; omega) | (simp_all; done) | (simp_all; omega))), (by rfl)⟩
  · rw [decide_eq_false h]
    have := h2 h
    refine CallS.toV (CallS.intro (l := [_, _]) _ Tryz.func35 rfl Tryz.ntmps35 rfl ?_)
    refine G_seq (G_region ?_)
    refine Ga ?_
    refine G_end (X_then (G_seq (G_region ?_)))
    refine Gm ?_
    refine Gm ?_
    refine G_callv (k := 73) (.mk rfl rfl rfl rfl) rfl rfl (.none rfl) (IndexI_call _ _ _ _ _ _ (by assumption) (by assumption) _) ?_
    refine Gv (V_geq rfl rfl rfl) ?_
    refine Ga ?_
    refine G_end (X_then (G_ret ?_))
    refine G_leaveS (.nil _) (by exact (.cons (.tmp rfl) (.nil))) rfl ?_ ?_
    · exact (.refl _)
    exact ⟨(by (simp [resVal, *]; done)), (by rfl)⟩
theorem counted_call (n : Int) : CallV Tryz.prog 36 #[.int .i64 n] E L (.bool (decide (cntP n))) := by
  by_cases h : 0 ≤ n
  · by_cases h2 : n ≤ 1099511627776
    · rw [decide_eq_true ⟨h, h2⟩]
      refine CallS.toV (CallS.intro (l := [_]) _ Tryz.func36 rfl Tryz.ntmps36 rfl ?_)
      refine G_seq (G_region ?_)
      refine Ga ?_
      refine G_end (X_then (G_seq (G_region ?_)))
      refine Gm ?_
      refine Gv (V_geq rfl rfl rfl) ?_
      refine Gm ?_
      refine G.bool_t 5 rfl (decide_eq_true (by omega)) ?_
      refine Gy (V_move rfl rfl) ?_
      refine Gy (V_leq rfl rfl rfl) ?_
      refine Gv (V_pick_t rfl rfl rfl) ?_
      refine Ga ?_
      refine G_end (X_then (G_ret ?_))
      refine G_leaveS (.nil _) (by exact (.cons (.tmp rfl) (.nil))) rfl ?_ ?_
      · exact (.refl _)
      exact ⟨(by (simp [resVal, *]; done)), (by rfl)⟩
    · rw [decide_eq_false (by simp only [cntP]; omega)]
      refine CallS.toV (CallS.intro (l := [_]) _ Tryz.func36 rfl Tryz.ntmps36 rfl ?_)
      refine G_seq (G_region ?_)
      refine Ga ?_
      refine G_end (X_then (G_seq (G_region ?_)))
      refine Gm ?_
      refine Gv (V_geq rfl rfl rfl) ?_
      refine Gm ?_
      refine G.bool_t 5 rfl (decide_eq_true (by omega)) ?_
      refine Gy (V_move rfl rfl) ?_
      refine Gy (V_leq rfl rfl rfl) ?_
      refine Gv (V_pick_t rfl rfl rfl) ?_
      refine Ga ?_
      refine G_end (X_then (G_ret ?_))
      refine G_leaveS (.nil _) (by exact (.cons (.tmp rfl) (.nil))) rfl ?_ ?_
      · exact (.refl _)
      exact ⟨(by (simp [resVal, *]; done)), (by rfl)⟩
  · rw [decide_eq_false (by simp only [cntP]; omega)]
    refine CallS.toV (CallS.intro (l := [_]) _ Tryz.func36 rfl Tryz.ntmps36 rfl ?_)
    refine G_seq (G_region ?_)
    refine Ga ?_
    refine G_end (X_then (G_seq (G_region ?_)))
    refine Gm ?_
    refine Gv (V_geq rfl rfl rfl) ?_
    refine Gm ?_
    refine G.bool_f 5 rfl (decide_eq_false (by omega)) ?_
    refine Gn ?_
    refine Gn ?_
    refine Gv (V_pick_f rfl rfl rfl) ?_
    refine Ga ?_
    refine G_end (X_then (G_ret ?_))
    refine G_leaveS (.nil _) (by exact (.cons (.tmp rfl) (.nil))) rfl ?_ ?_
    · exact (.refl _)
    exact ⟨(by kernel_rfl), rfl⟩
theorem terminal_call (n : Int) : CallV Tryz.prog 74 #[.int .i64 n] E L (.bool (decide (termP n))) := by
  by_cases h : 0 ≤ n
  · by_cases h2 : n < 8
    · rw [decide_eq_true ⟨h, h2⟩]
      refine CallS.toV (CallS.intro (l := [_]) _ Tryz.func74 rfl Tryz.ntmps74 rfl ?_)
      refine G_seq (G_region ?_)
      refine Ga ?_
      refine G_end (X_then (G_seq (G_region ?_)))
      refine Gm ?_
      refine Gv (V_geq rfl rfl rfl) ?_
      refine Gm ?_
      refine G.bool_t 5 rfl (decide_eq_true (by omega)) ?_
      refine Gy (V_move rfl rfl) ?_
      refine Gy (V_lss rfl rfl rfl) ?_
      refine Gv (V_pick_t rfl rfl rfl) ?_
      refine Ga ?_
      refine G_end (X_then (G_ret ?_))
      refine G_leaveS (.nil _) (by exact (.cons (.tmp rfl) (.nil))) rfl ?_ ?_
      · exact (.refl _)
      exact ⟨(by (simp [resVal, *]; done)), (by rfl)⟩
    · rw [decide_eq_false (by simp only [termP]; omega)]
      refine CallS.toV (CallS.intro (l := [_]) _ Tryz.func74 rfl Tryz.ntmps74 rfl ?_)
      refine G_seq (G_region ?_)
      refine Ga ?_
      refine G_end (X_then (G_seq (G_region ?_)))
      refine Gm ?_
      refine Gv (V_geq rfl rfl rfl) ?_
      refine Gm ?_
      refine G.bool_t 5 rfl (decide_eq_true (by omega)) ?_
      refine Gy (V_move rfl rfl) ?_
      refine Gy (V_lss rfl rfl rfl) ?_
      refine Gv (V_pick_t rfl rfl rfl) ?_
      refine Ga ?_
      refine G_end (X_then (G_ret ?_))
      refine G_leaveS (.nil _) (by exact (.cons (.tmp rfl) (.nil))) rfl ?_ ?_
      · exact (.refl _)
      exact ⟨(by (simp [resVal, *]; done)), (by rfl)⟩
  · rw [decide_eq_false (by simp only [termP]; omega)]
    refine CallS.toV (CallS.intro (l := [_]) _ Tryz.func74 rfl Tryz.ntmps74 rfl ?_)
    refine G_seq (G_region ?_)
    refine Ga ?_
    refine G_end (X_then (G_seq (G_region ?_)))
    refine Gm ?_
    refine Gv (V_geq rfl rfl rfl) ?_
    refine Gm ?_
    refine G.bool_f 5 rfl (decide_eq_false (by omega)) ?_
    refine Gn ?_
    refine Gn ?_
    refine Gv (V_pick_f rfl rfl rfl) ?_
    refine Ga ?_
    refine G_end (X_then (G_ret ?_))
    refine G_leaveS (.nil _) (by exact (.cons (.tmp rfl) (.nil))) rfl ?_ ?_
    · exact (.refl _)
    exact ⟨(by kernel_rfl), rfl⟩
theorem nonterminal_call (n : Int) : CallV Tryz.prog 75 #[.int .i64 n] E L (.bool (decide (nontP n))) := by
  by_cases h : 16 ≤ n
  · by_cases h2 : n < 24
    · rw [decide_eq_true ⟨h, h2⟩]
      refine CallS.toV (CallS.intro (l := [_]) _ Tryz.func75 rfl Tryz.ntmps75 rfl ?_)
      refine G_seq (G_region ?_)
      refine Ga ?_
      refine G_end (X_then (G_seq (G_region ?_)))
      refine Gm ?_
      refine Gv (V_geq rfl rfl rfl) ?_
      refine Gm ?_
      refine G.bool_t 5 rfl (decide_eq_true (by omega)) ?_
      refine Gy (V_move rfl rfl) ?_
      refine Gy (V_lss rfl rfl rfl) ?_
      refine Gv (V_pick_t rfl rfl rfl) ?_
      refine Ga ?_
      refine G_end (X_then (G_ret ?_))
      refine G_leaveS (.nil _) (by exact (.cons (.tmp rfl) (.nil))) rfl ?_ ?_
      · exact (.refl _)
      exact ⟨(by (simp [resVal, *]; done)), (by rfl)⟩
    · rw [decide_eq_false (by simp only [nontP]; omega)]
      refine CallS.toV (CallS.intro (l := [_]) _ Tryz.func75 rfl Tryz.ntmps75 rfl ?_)
      refine G_seq (G_region ?_)
      refine Ga ?_
      refine G_end (X_then (G_seq (G_region ?_)))
      refine Gm ?_
      refine Gv (V_geq rfl rfl rfl) ?_
      refine Gm ?_
      refine G.bool_t 5 rfl (decide_eq_true (by omega)) ?_
      refine Gy (V_move rfl rfl) ?_
      refine Gy (V_lss rfl rfl rfl) ?_
      refine Gv (V_pick_t rfl rfl rfl) ?_
      refine Ga ?_
      refine G_end (X_then (G_ret ?_))
      refine G_leaveS (.nil _) (by exact (.cons (.tmp rfl) (.nil))) rfl ?_ ?_
      · exact (.refl _)
      exact ⟨(by (simp [resVal, *]; done)), (by rfl)⟩
  · rw [decide_eq_false (by simp only [nontP]; omega)]
    refine CallS.toV (CallS.intro (l := [_]) _ Tryz.func75 rfl Tryz.ntmps75 rfl ?_)
    refine G_seq (G_region ?_)
    refine Ga ?_
    refine G_end (X_then (G_seq (G_region ?_)))
    refine Gm ?_
    refine Gv (V_geq rfl rfl rfl) ?_
    refine Gm ?_
    refine G.bool_f 5 rfl (decide_eq_false (by omega)) ?_
    refine Gn ?_
    refine Gn ?_
    refine Gv (V_pick_f rfl rfl rfl) ?_
    refine Ga ?_
    refine G_end (X_then (G_ret ?_))
    refine G_leaveS (.nil _) (by exact (.cons (.tmp rfl) (.nil))) rfl ?_ ?_
    · exact (.refl _)
    exact ⟨(by kernel_rfl), rfl⟩
end
end Go.Proofs.YtjhehanknkonnaaGreatDoor
set_option linter.unusedSimpArgs false
set_option linter.unusedVariables false
set_option maxHeartbeats 2000000
set_option maxRecDepth 20000
namespace Go.Proofs.YtjhehanknkonnaaGreatDoor
open Go.RowKit
/-! The fields of a kind, as the program has them. -/
section
variable (E : Env) (L : List Res)
theorem fields1_call : CallS Tryz.prog 34 #[.int .i64 1] E L (fun r E' L' => ∃ b, r = .slice (some ⟨b, 0, none⟩) 2 2 ∧ E = E' ∧ L' = .blk b (.cells #[.int .i64 0, .int .i64 5] 3 (0, 0)) :: L) := by
  refine CallS.intro (l := [_]) _ Tryz.func34 rfl Tryz.ntmps34 rfl ?_
  refine G_seq (G_region ?_)
  refine Ga ?_
  refine G_end (X_then (G_seq (G_seq (G_region ?_))))
  refine Gm ?_
  refine G_end (X_then (G_block (G_seq (G_region ?_))))
  refine Gv (V_eql rfl rfl rfl) ?_
  refine Ga ?_
  refine G_end (X_then ?_)
  refine G_cond_t rfl (by kernel_rfl) ?_
  refine G_seq (G_region ?_)
  (refine G_lit2 rfl rfl rfl rfl rfl rfl rfl (.none rfl) ?_; intro b6)
  refine Ga ?_
  refine G_end (X_then (G_ret (X_block_ret (X_then_ret ?_))))
  refine G_leaveS (.keep _ (.nil _)) (by exact (.cons (.tmp rfl) (.nil))) rfl ?_ ?_
  · exact (.refl _)
  exact ⟨_, ⟨rfl, ⟨rfl, rfl⟩⟩⟩
theorem fields2_call : CallS Tryz.prog 34 #[.int .i64 2] E L (fun r E' L' => ∃ b, r = .slice (some ⟨b, 0, none⟩) 3 3 ∧ E = E' ∧ L' = .blk b (.cells #[.int .i64 1, .int .i64 2, .int .i64 5] 3 (0, 0)) :: L) := by
  refine CallS.intro (l := [_]) _ Tryz.func34 rfl Tryz.ntmps34 rfl ?_
  refine G_seq (G_region ?_)
  refine Ga ?_
  refine G_end (X_then (G_seq (G_seq (G_region ?_))))
  refine Gm ?_
  refine G_end (X_then (G_block (G_seq (G_region ?_))))
  refine Gv (V_eql rfl rfl rfl) ?_
  refine Ga ?_
  refine G_end (X_then ?_)
  refine G_cond_f rfl (by kernel_rfl) ?_
  refine G_seq (G_region ?_)
  refine Gv (V_eql rfl rfl rfl) ?_
  refine Ga ?_
  refine G_end (X_then ?_)
  refine G_cond_t rfl (by kernel_rfl) ?_
  refine G_seq (G_region ?_)
  (refine G_lit rfl rfl (by decide) (by simp [fillS, zeros, setLs, setL, Value.cells, List.range, List.range.loop]; rfl) rfl rfl (.none rfl) ?_; intro b9)
  refine Ga ?_
  refine G_end (X_then (G_ret (X_block_ret (X_then_ret ?_))))
  refine G_leaveS (.keep _ (.nil _)) (by exact (.cons (.tmp rfl) (.nil))) rfl ?_ ?_
  · exact (.refl _)
  exact ⟨_, ⟨rfl, ⟨rfl, rfl⟩⟩⟩
theorem fields3_call : CallS Tryz.prog 34 #[.int .i64 3] E L (fun r E' L' => ∃ b, r = .slice (some ⟨b, 0, none⟩) 3 3 ∧ E = E' ∧ L' = .blk b (.cells #[.int .i64 1, .int .i64 3, .int .i64 5] 3 (0, 0)) :: L) := by
  refine CallS.intro (l := [_]) _ Tryz.func34 rfl Tryz.ntmps34 rfl ?_
  refine G_seq (G_region ?_)
  refine Ga ?_
  refine G_end (X_then (G_seq (G_seq (G_region ?_))))
  refine Gm ?_
  refine G_end (X_then (G_block (G_seq (G_region ?_))))
  refine Gv (V_eql rfl rfl rfl) ?_
  refine Ga ?_
  refine G_end (X_then ?_)
  refine G_cond_f rfl (by kernel_rfl) ?_
  refine G_seq (G_region ?_)
  refine Gv (V_eql rfl rfl rfl) ?_
  refine Ga ?_
  refine G_end (X_then ?_)
  refine G_cond_f rfl (by kernel_rfl) ?_
  refine G_seq (G_region ?_)
  refine Gv (V_eql rfl rfl rfl) ?_
  refine Ga ?_
  refine G_end (X_then ?_)
  refine G_cond_t rfl (by kernel_rfl) ?_
  refine G_seq (G_region ?_)
  (refine G_lit rfl rfl (by decide) (by simp [fillS, zeros, setLs, setL, Value.cells, List.range, List.range.loop]; rfl) rfl rfl (.none rfl) ?_; intro b12)
  refine Ga ?_
  refine G_end (X_then (G_ret (X_block_ret (X_then_ret ?_))))
  refine G_leaveS (.keep _ (.nil _)) (by exact (.cons (.tmp rfl) (.nil))) rfl ?_ ?_
  · exact (.refl _)
  exact ⟨_, ⟨rfl, ⟨rfl, rfl⟩⟩⟩
theorem fields4_call : CallS Tryz.prog 34 #[.int .i64 4] E L (fun r E' L' => ∃ b, r = .slice (some ⟨b, 0, none⟩) 2 2 ∧ E = E' ∧ L' = .blk b (.cells #[.int .i64 1, .int .i64 2] 3 (0, 0)) :: L) := by
  refine CallS.intro (l := [_]) _ Tryz.func34 rfl Tryz.ntmps34 rfl ?_
  refine G_seq (G_region ?_)
  refine Ga ?_
  refine G_end (X_then (G_seq (G_seq (G_region ?_))))
  refine Gm ?_
  refine G_end (X_then (G_block (G_seq (G_region ?_))))
  refine Gv (V_eql rfl rfl rfl) ?_
  refine Ga ?_
  refine G_end (X_then ?_)
  refine G_cond_f rfl (by kernel_rfl) ?_
  refine G_seq (G_region ?_)
  refine Gv (V_eql rfl rfl rfl) ?_
  refine Ga ?_
  refine G_end (X_then ?_)
  refine G_cond_f rfl (by kernel_rfl) ?_
  refine G_seq (G_region ?_)
  refine Gv (V_eql rfl rfl rfl) ?_
  refine Ga ?_
  refine G_end (X_then ?_)
  refine G_cond_f rfl (by kernel_rfl) ?_
  refine G_seq (G_region ?_)
  refine Gv (V_eql rfl rfl rfl) ?_
  refine Ga ?_
  refine G_end (X_then ?_)
  refine G_cond_t rfl (by kernel_rfl) ?_
  refine G_seq (G_region ?_)
  (refine G_lit2 rfl rfl rfl rfl rfl rfl rfl (.none rfl) ?_; intro b15)
  refine Ga ?_
  refine G_end (X_then (G_ret (X_block_ret (X_then_ret ?_))))
  refine G_leaveS (.keep _ (.nil _)) (by exact (.cons (.tmp rfl) (.nil))) rfl ?_ ?_
  · exact (.refl _)
  exact ⟨_, ⟨rfl, ⟨rfl, rfl⟩⟩⟩
theorem fields5_call : CallS Tryz.prog 34 #[.int .i64 5] E L (fun r E' L' => ∃ b, r = .slice (some ⟨b, 0, none⟩) 3 3 ∧ E = E' ∧ L' = .blk b (.cells #[.int .i64 1, .int .i64 4, .int .i64 5] 3 (0, 0)) :: L) := by
  refine CallS.intro (l := [_]) _ Tryz.func34 rfl Tryz.ntmps34 rfl ?_
  refine G_seq (G_region ?_)
  refine Ga ?_
  refine G_end (X_then (G_seq (G_seq (G_region ?_))))
  refine Gm ?_
  refine G_end (X_then (G_block (G_seq (G_region ?_))))
  refine Gv (V_eql rfl rfl rfl) ?_
  refine Ga ?_
  refine G_end (X_then ?_)
  refine G_cond_f rfl (by kernel_rfl) ?_
  refine G_seq (G_region ?_)
  refine Gv (V_eql rfl rfl rfl) ?_
  refine Ga ?_
  refine G_end (X_then ?_)
  refine G_cond_f rfl (by kernel_rfl) ?_
  refine G_seq (G_region ?_)
  refine Gv (V_eql rfl rfl rfl) ?_
  refine Ga ?_
  refine G_end (X_then ?_)
  refine G_cond_f rfl (by kernel_rfl) ?_
  refine G_seq (G_region ?_)
  refine Gv (V_eql rfl rfl rfl) ?_
  refine Ga ?_
  refine G_end (X_then ?_)
  refine G_cond_f rfl (by kernel_rfl) ?_
  refine G_seq (G_region ?_)
  refine Gv (V_eql rfl rfl rfl) ?_
  refine Ga ?_
  refine G_end (X_then ?_)
  refine G_cond_t rfl (by kernel_rfl) ?_
  refine G_seq (G_region ?_)
  (refine G_lit rfl rfl (by decide) (by simp [fillS, zeros, setLs, setL, Value.cells, List.range, List.range.loop]; rfl) rfl rfl (.none rfl) ?_; intro b18)
  refine Ga ?_
  refine G_end (X_then (G_ret (X_block_ret (X_then_ret ?_))))
  refine G_leaveS (.keep _ (.nil _)) (by exact (.cons (.tmp rfl) (.nil))) rfl ?_ ?_
  · exact (.refl _)
  exact ⟨_, ⟨rfl, ⟨rfl, rfl⟩⟩⟩
theorem fields6_call : CallS Tryz.prog 34 #[.int .i64 6] E L (fun r E' L' => ∃ b, r = .slice (some ⟨b, 0, none⟩) 3 3 ∧ E = E' ∧ L' = .blk b (.cells #[.int .i64 0, .int .i64 4, .int .i64 5] 3 (0, 0)) :: L) := by
  refine CallS.intro (l := [_]) _ Tryz.func34 rfl Tryz.ntmps34 rfl ?_
  refine G_seq (G_region ?_)
  refine Ga ?_
  refine G_end (X_then (G_seq (G_seq (G_region ?_))))
  refine Gm ?_
  refine G_end (X_then (G_block (G_seq (G_region ?_))))
  refine Gv (V_eql rfl rfl rfl) ?_
  refine Ga ?_
  refine G_end (X_then ?_)
  refine G_cond_f rfl (by kernel_rfl) ?_
  refine G_seq (G_region ?_)
  refine Gv (V_eql rfl rfl rfl) ?_
  refine Ga ?_
  refine G_end (X_then ?_)
  refine G_cond_f rfl (by kernel_rfl) ?_
  refine G_seq (G_region ?_)
  refine Gv (V_eql rfl rfl rfl) ?_
  refine Ga ?_
  refine G_end (X_then ?_)
  refine G_cond_f rfl (by kernel_rfl) ?_
  refine G_seq (G_region ?_)
  refine Gv (V_eql rfl rfl rfl) ?_
  refine Ga ?_
  refine G_end (X_then ?_)
  refine G_cond_f rfl (by kernel_rfl) ?_
  refine G_seq (G_region ?_)
  refine Gv (V_eql rfl rfl rfl) ?_
  refine Ga ?_
  refine G_end (X_then ?_)
  refine G_cond_f rfl (by kernel_rfl) ?_
  refine G_seq (G_region ?_)
  refine Gv (V_eql rfl rfl rfl) ?_
  refine Ga ?_
  refine G_end (X_then ?_)
  refine G_cond_t rfl (by kernel_rfl) ?_
  refine G_seq (G_region ?_)
  (refine G_lit rfl rfl (by decide) (by simp [fillS, zeros, setLs, setL, Value.cells, List.range, List.range.loop]; rfl) rfl rfl (.none rfl) ?_; intro b21)
  refine Ga ?_
  refine G_end (X_then (G_ret (X_block_ret (X_then_ret ?_))))
  refine G_leaveS (.keep _ (.nil _)) (by exact (.cons (.tmp rfl) (.nil))) rfl ?_ ?_
  · exact (.refl _)
  exact ⟨_, ⟨rfl, ⟨rfl, rfl⟩⟩⟩
theorem fields7_call : CallS Tryz.prog 34 #[.int .i64 7] E L (fun r E' L' => ∃ b, r = .slice (some ⟨b, 0, none⟩) 2 2 ∧ E = E' ∧ L' = .blk b (.cells #[.int .i64 4, .int .i64 5] 3 (0, 0)) :: L) := by
  refine CallS.intro (l := [_]) _ Tryz.func34 rfl Tryz.ntmps34 rfl ?_
  refine G_seq (G_region ?_)
  refine Ga ?_
  refine G_end (X_then (G_seq (G_seq (G_region ?_))))
  refine Gm ?_
  refine G_end (X_then (G_block (G_seq (G_region ?_))))
  refine Gv (V_eql rfl rfl rfl) ?_
  refine Ga ?_
  refine G_end (X_then ?_)
  refine G_cond_f rfl (by kernel_rfl) ?_
  refine G_seq (G_region ?_)
  refine Gv (V_eql rfl rfl rfl) ?_
  refine Ga ?_
  refine G_end (X_then ?_)
  refine G_cond_f rfl (by kernel_rfl) ?_
  refine G_seq (G_region ?_)
  refine Gv (V_eql rfl rfl rfl) ?_
  refine Ga ?_
  refine G_end (X_then ?_)
  refine G_cond_f rfl (by kernel_rfl) ?_
  refine G_seq (G_region ?_)
  refine Gv (V_eql rfl rfl rfl) ?_
  refine Ga ?_
  refine G_end (X_then ?_)
  refine G_cond_f rfl (by kernel_rfl) ?_
  refine G_seq (G_region ?_)
  refine Gv (V_eql rfl rfl rfl) ?_
  refine Ga ?_
  refine G_end (X_then ?_)
  refine G_cond_f rfl (by kernel_rfl) ?_
  refine G_seq (G_region ?_)
  refine Gv (V_eql rfl rfl rfl) ?_
  refine Ga ?_
  refine G_end (X_then ?_)
  refine G_cond_f rfl (by kernel_rfl) ?_
  refine G_seq (G_region ?_)
  refine Gv (V_eql rfl rfl rfl) ?_
  refine Ga ?_
  refine G_end (X_then ?_)
  refine G_cond_t rfl (by kernel_rfl) ?_
  refine G_seq (G_region ?_)
  (refine G_lit2 rfl rfl rfl rfl rfl rfl rfl (.none rfl) ?_; intro b24)
  refine Ga ?_
  refine G_end (X_then (G_ret (X_block_ret (X_then_ret ?_))))
  refine G_leaveS (.keep _ (.nil _)) (by exact (.cons (.tmp rfl) (.nil))) rfl ?_ ?_
  · exact (.refl _)
  exact ⟨_, ⟨rfl, ⟨rfl, rfl⟩⟩⟩
theorem fields0_call (k : Int) (h : k < 1 ∨ 7 < k) : CallV Tryz.prog 34 #[.int .i64 k] E L (.slice none 0 0) := by
  refine CallS.toV (CallS.intro (l := [_]) _ Tryz.func34 rfl Tryz.ntmps34 rfl ?_)
  by_cases h1 : k < 1
  · refine G_seq ?_
    refine G_region ?_
    refine Ga ?_
    refine G_end (X_then (G_seq (G_seq (G_region ?_))))
    refine Gm ?_
    refine G_end (X_then (G_block (G_seq (G_region ?_))))
    refine Gv (V_eql rfl rfl rfl) ?_
    refine Ga ?_
    refine G_end (X_then ?_)
    refine G_cond_f rfl (decide_eq_false (by omega)) ?_
    refine G_seq (G_region ?_)
    refine Gv (V_eql rfl rfl rfl) ?_
    refine Ga ?_
    refine G_end (X_then ?_)
    refine G_cond_f rfl (decide_eq_false (by omega)) ?_
    refine G_seq (G_region ?_)
    refine Gv (V_eql rfl rfl rfl) ?_
    refine Ga ?_
    refine G_end (X_then ?_)
    refine G_cond_f rfl (decide_eq_false (by omega)) ?_
    refine G_seq (G_region ?_)
    refine Gv (V_eql rfl rfl rfl) ?_
    refine Ga ?_
    refine G_end (X_then ?_)
    refine G_cond_f rfl (decide_eq_false (by omega)) ?_
    refine G_seq (G_region ?_)
    refine Gv (V_eql rfl rfl rfl) ?_
    refine Ga ?_
    refine G_end (X_then ?_)
    refine G_cond_f rfl (decide_eq_false (by omega)) ?_
    refine G_seq (G_region ?_)
    refine Gv (V_eql rfl rfl rfl) ?_
    refine Ga ?_
    refine G_end (X_then ?_)
    refine G_cond_f rfl (decide_eq_false (by omega)) ?_
    refine G_seq (G_region ?_)
    refine Gv (V_eql rfl rfl rfl) ?_
    refine Ga ?_
    refine G_end (X_then ?_)
    refine G_cond_f rfl (decide_eq_false (by omega)) ?_
    refine G_skip (X_block (X_then (G_seq (G_region ?_))))
    refine Ga ?_
    refine G_end (X_then (G_ret ?_))
    refine G_leaveS (.nil _) (by exact (.cons (.tmp rfl) (.nil))) rfl ?_ ?_
    · exact (.refl _)
    exact ⟨(by kernel_rfl), rfl⟩
  · refine G_seq ?_
    refine G_region ?_
    refine Ga ?_
    refine G_end (X_then (G_seq (G_seq (G_region ?_))))
    refine Gm ?_
    refine G_end (X_then (G_block (G_seq (G_region ?_))))
    refine Gv (V_eql rfl rfl rfl) ?_
    refine Ga ?_
    refine G_end (X_then ?_)
    refine G_cond_f rfl (decide_eq_false (by omega)) ?_
    refine G_seq (G_region ?_)
    refine Gv (V_eql rfl rfl rfl) ?_
    refine Ga ?_
    refine G_end (X_then ?_)
    refine G_cond_f rfl (decide_eq_false (by omega)) ?_
    refine G_seq (G_region ?_)
    refine Gv (V_eql rfl rfl rfl) ?_
    refine Ga ?_
    refine G_end (X_then ?_)
    refine G_cond_f rfl (decide_eq_false (by omega)) ?_
    refine G_seq (G_region ?_)
    refine Gv (V_eql rfl rfl rfl) ?_
    refine Ga ?_
    refine G_end (X_then ?_)
    refine G_cond_f rfl (decide_eq_false (by omega)) ?_
    refine G_seq (G_region ?_)
    refine Gv (V_eql rfl rfl rfl) ?_
    refine Ga ?_
    refine G_end (X_then ?_)
    refine G_cond_f rfl (decide_eq_false (by omega)) ?_
    refine G_seq (G_region ?_)
    refine Gv (V_eql rfl rfl rfl) ?_
    refine Ga ?_
    refine G_end (X_then ?_)
    refine G_cond_f rfl (decide_eq_false (by omega)) ?_
    refine G_seq (G_region ?_)
    refine Gv (V_eql rfl rfl rfl) ?_
    refine Ga ?_
    refine G_end (X_then ?_)
    refine G_cond_f rfl (decide_eq_false (by omega)) ?_
    refine G_skip (X_block (X_then (G_seq (G_region ?_))))
    refine Ga ?_
    refine G_end (X_then (G_ret ?_))
    refine G_leaveS (.nil _) (by exact (.cons (.tmp rfl) (.nil))) rfl ?_ ?_
    · exact (.refl _)
    exact ⟨(by kernel_rfl), rfl⟩
/-- A slice of the fields of a kind. -/
structure FldR (k : Int) (E : Env) (r : Value) : Prop where
  out : ∃ a c, r = .slice a (fieldsK k).length c ∧ SlE E 1 a (fieldsK k).length (i64s (fieldsK k)) ∧ (a.isNone = decide (fieldsK k = [])) ∧ (fieldsK k).length ≤ c
theorem fields_call' (k : Int) : CallS Tryz.prog 34 #[.int .i64 k] E L (fun r E' L' => FldR k E' r ∧ L' = L) := by
  by_cases h : k < 1 ∨ 7 < k
  · have e : fieldsK k = [] := by
      unfold fieldsK
      repeat rw [if_neg (by omega)]
    refine CallS.mono (CallS.ofV (fields0_call E L k h)) ?_
    rintro r E' L' _ ⟨rfl, rfl, rfl⟩
    exact ⟨⟨none, 0, by rw [e]; rfl, by rw [e]; exact SlE.nil, by rw [e]; rfl, by rw [e]; exact Nat.le_refl _⟩, rfl⟩
  obtain rfl | rfl | rfl | rfl | rfl | rfl | rfl : k = 1 ∨ k = 2 ∨ k = 3 ∨ k = 4 ∨ k = 5 ∨ k = 6 ∨ k = 7 := by omega
  · intro w hw
    refine (fields1_call E L w hw).mono fun _ _ ⟨r, E', L', he, hE, hs, b, hr, _, hL⟩ => ?_
    subst hL hr
    obtain ⟨E2, hE2, hs2, hok2⟩ := hs.freeze
    exact ⟨_, E2, L, he, hE.trans hE2, hs2, ⟨⟨_, 2, rfl, SlE.lit (l := i64s [0, 5]) hok2 rfl, rfl, Nat.le_refl _⟩⟩, rfl⟩
  · intro w hw
    refine (fields2_call E L w hw).mono fun _ _ ⟨r, E', L', he, hE, hs, b, hr, _, hL⟩ => ?_
    subst hL hr
    obtain ⟨E2, hE2, hs2, hok2⟩ := hs.freeze
    exact ⟨_, E2, L, he, hE.trans hE2, hs2, ⟨⟨_, 3, rfl, SlE.lit (l := i64s [1, 2, 5]) hok2 rfl, rfl, Nat.le_refl _⟩⟩, rfl⟩
  · intro w hw
    refine (fields3_call E L w hw).mono fun _ _ ⟨r, E', L', he, hE, hs, b, hr, _, hL⟩ => ?_
    subst hL hr
    obtain ⟨E2, hE2, hs2, hok2⟩ := hs.freeze
    exact ⟨_, E2, L, he, hE.trans hE2, hs2, ⟨⟨_, 3, rfl, SlE.lit (l := i64s [1, 3, 5]) hok2 rfl, rfl, Nat.le_refl _⟩⟩, rfl⟩
  · intro w hw
    refine (fields4_call E L w hw).mono fun _ _ ⟨r, E', L', he, hE, hs, b, hr, _, hL⟩ => ?_
    subst hL hr
    obtain ⟨E2, hE2, hs2, hok2⟩ := hs.freeze
    exact ⟨_, E2, L, he, hE.trans hE2, hs2, ⟨⟨_, 2, rfl, SlE.lit (l := i64s [1, 2]) hok2 rfl, rfl, Nat.le_refl _⟩⟩, rfl⟩
  · intro w hw
    refine (fields5_call E L w hw).mono fun _ _ ⟨r, E', L', he, hE, hs, b, hr, _, hL⟩ => ?_
    subst hL hr
    obtain ⟨E2, hE2, hs2, hok2⟩ := hs.freeze
    exact ⟨_, E2, L, he, hE.trans hE2, hs2, ⟨⟨_, 3, rfl, SlE.lit (l := i64s [1, 4, 5]) hok2 rfl, rfl, Nat.le_refl _⟩⟩, rfl⟩
  · intro w hw
    refine (fields6_call E L w hw).mono fun _ _ ⟨r, E', L', he, hE, hs, b, hr, _, hL⟩ => ?_
    subst hL hr
    obtain ⟨E2, hE2, hs2, hok2⟩ := hs.freeze
    exact ⟨_, E2, L, he, hE.trans hE2, hs2, ⟨⟨_, 3, rfl, SlE.lit (l := i64s [0, 4, 5]) hok2 rfl, rfl, Nat.le_refl _⟩⟩, rfl⟩
  · intro w hw
    refine (fields7_call E L w hw).mono fun _ _ ⟨r, E', L', he, hE, hs, b, hr, _, hL⟩ => ?_
    subst hL hr
    obtain ⟨E2, hE2, hs2, hok2⟩ := hs.freeze
    exact ⟨_, E2, L, he, hE.trans hE2, hs2, ⟨⟨_, 2, rfl, SlE.lit (l := i64s [4, 5]) hok2 rfl, rfl, Nat.le_refl _⟩⟩, rfl⟩
end
end Go.Proofs.YtjhehanknkonnaaGreatDoor
set_option linter.unusedSimpArgs false
set_option linter.unusedVariables false
set_option maxHeartbeats 2000000
set_option maxRecDepth 20000
namespace Go.Proofs.YtjhehanknkonnaaGreatDoor
open Go.RowKit
/-! Symbols and reasons of events. -/
section
variable (E : Env) (L : List Res) (k sy pr rc pl : Int) (tx : List UInt8) (er : Int)
theorem symbol_call : CallV Tryz.prog 37 #[.agg #[.int .i64 k, .int .i64 sy, .int .i64 pr, .int .i64 rc, .int .i64 pl, .string (S tx), .int .i64 er]] E L (.bool (symP (k, sy, pr, rc, pl, tx, er))) := by
  unfold symP
  by_cases h3 : k = 3
  · rw [if_pos h3]
    refine CallS.toV (CallS.intro (l := [_]) _ Tryz.func37 rfl Tryz.ntmps37 rfl ?_)
    refine G_seq (G_region ?_)
    (refine G_boxA rfl rfl rfl rfl (.none rfl) ?_; intro b1)
    refine Ga ?_
    refine G_end (X_then (G_seq (G_seq (G_region ?_))))
    refine Gv (V_fieldAddr rfl rfl (by decide)) ?_
    refine Gv (V_load rfl rfl (Cell.own (.head _) rfl)) ?_
    refine G_end (X_then (G_block (G_seq (G_region ?_))))
    refine Gv (V_eql rfl rfl rfl) ?_
    refine Ga ?_
    refine G_end (X_then ?_)
    refine G_cond_t rfl (decide_eq_true (by omega)) ?_
    refine G_seq (G_region ?_)
    refine Gv (V_fieldAddr rfl rfl (by decide)) ?_
    refine Gv (V_load rfl rfl (Cell.own (.head _) rfl)) ?_
    refine G_callv (k := 74) (.mk rfl rfl rfl rfl) rfl rfl (.none rfl) (terminal_call _ _ _) ?_
    refine Ga ?_
    refine G_end (X_then (G_ret (X_block_ret (X_then_ret ?_))))
    refine G_leaveS (.drop _ (.nil _)) (by exact (.cons (.tmp rfl) (.nil))) rfl ?_ ?_
    · exact (.refl _)
    exact ⟨rfl, rfl⟩
  rw [if_neg h3]
  by_cases h5 : k = 5
  · rw [if_pos h5]
    by_cases c1 : sy = -1
    · rw [decide_eq_true (.inl c1)]
      refine CallS.toV (CallS.intro (l := [_]) _ Tryz.func37 rfl Tryz.ntmps37 rfl ?_)
      refine G_seq (G_region ?_)
      (refine G_boxA rfl rfl rfl rfl (.none rfl) ?_; intro b1)
      refine Ga ?_
      refine G_end (X_then (G_seq (G_seq (G_region ?_))))
      refine Gv (V_fieldAddr rfl rfl (by decide)) ?_
      refine Gv (V_load rfl rfl (Cell.own (.head _) rfl)) ?_
      refine G_end (X_then (G_block (G_seq (G_region ?_))))
      refine Gv (V_eql rfl rfl rfl) ?_
      refine Ga ?_
      refine G_end (X_then ?_)
      refine G_cond_f rfl (decide_eq_false (by omega)) ?_
      refine G_seq (G_region ?_)
      refine Gv (V_eql rfl rfl rfl) ?_
      refine Ga ?_
      refine G_end (X_then ?_)
      refine G_cond_t rfl (decide_eq_true (by omega)) ?_
      refine G_seq (G_region ?_)
      refine Gv (V_fieldAddr rfl rfl (by decide)) ?_
      refine Gv (V_load rfl rfl (Cell.own (.head _) rfl)) ?_
      refine Gv (V_eql rfl rfl rfl) ?_
      refine Gm ?_
      refine G.bool_t 15 rfl (decide_eq_true (by omega)) ?_
      refine Gn ?_
      refine Gn ?_
      refine Gn ?_
      refine Gv (V_pick_t rfl rfl rfl) ?_
      refine Gm ?_
      refine Gn ?_
      refine Gn ?_
      refine Gn ?_
      refine Gv (V_pick_t rfl rfl rfl) ?_
      refine Ga ?_
      refine G_end (X_then (G_ret (X_block_ret (X_then_ret ?_))))
      refine G_leaveS (.drop _ (.nil _)) (by exact (.cons (.tmp rfl) (.nil))) rfl ?_ ?_
      · exact (.refl _)
      exact ⟨(by kernel_rfl), rfl⟩
    by_cases c2 : termP sy
    · rw [decide_eq_true (.inr (.inl c2))]
      refine CallS.toV (CallS.intro (l := [_]) _ Tryz.func37 rfl Tryz.ntmps37 rfl ?_)
      refine G_seq (G_region ?_)
      (refine G_boxA rfl rfl rfl rfl (.none rfl) ?_; intro b1)
      refine Ga ?_
      refine G_end (X_then (G_seq (G_seq (G_region ?_))))
      refine Gv (V_fieldAddr rfl rfl (by decide)) ?_
      refine Gv (V_load rfl rfl (Cell.own (.head _) rfl)) ?_
      refine G_end (X_then (G_block (G_seq (G_region ?_))))
      refine Gv (V_eql rfl rfl rfl) ?_
      refine Ga ?_
      refine G_end (X_then ?_)
      refine G_cond_f rfl (decide_eq_false (by omega)) ?_
      refine G_seq (G_region ?_)
      refine Gv (V_eql rfl rfl rfl) ?_
      refine Ga ?_
      refine G_end (X_then ?_)
      refine G_cond_t rfl (decide_eq_true (by omega)) ?_
      refine G_seq (G_region ?_)
      refine Gv (V_fieldAddr rfl rfl (by decide)) ?_
      refine Gv (V_load rfl rfl (Cell.own (.head _) rfl)) ?_
      refine Gv (V_eql rfl rfl rfl) ?_
      refine Gm ?_
      refine G.bool_f 15 rfl (decide_eq_false (by omega)) ?_
      refine Gy (V_fieldAddr rfl rfl (by decide)) ?_
      refine Gy (V_load rfl rfl (Cell.own (.head _) rfl)) ?_
      refine G_callv (k := 74) (.mk rfl rfl rfl rfl) rfl rfl (.yes rfl rfl rfl rfl) (terminal_call _ _ _) ?_
      refine Gv (V_pick_f rfl rfl rfl) ?_
      refine Gm ?_
      refine G.bool_t 20 rfl (decide_eq_true (by omega)) ?_
      refine Gn ?_
      refine Gn ?_
      refine Gn ?_
      refine Gv (V_pick_t rfl rfl rfl) ?_
      refine Ga ?_
      refine G_end (X_then (G_ret (X_block_ret (X_then_ret ?_))))
      refine G_leaveS (.drop _ (.nil _)) (by exact (.cons (.tmp rfl) (.nil))) rfl ?_ ?_
      · exact (.refl _)
      exact ⟨(by kernel_rfl), rfl⟩
    by_cases c3 : nontP sy
    · rw [decide_eq_true (.inr (.inr c3))]
      refine CallS.toV (CallS.intro (l := [_]) _ Tryz.func37 rfl Tryz.ntmps37 rfl ?_)
      refine G_seq (G_region ?_)
      (refine G_boxA rfl rfl rfl rfl (.none rfl) ?_; intro b1)
      refine Ga ?_
      refine G_end (X_then (G_seq (G_seq (G_region ?_))))
      refine Gv (V_fieldAddr rfl rfl (by decide)) ?_
      refine Gv (V_load rfl rfl (Cell.own (.head _) rfl)) ?_
      refine G_end (X_then (G_block (G_seq (G_region ?_))))
      refine Gv (V_eql rfl rfl rfl) ?_
      refine Ga ?_
      refine G_end (X_then ?_)
      refine G_cond_f rfl (decide_eq_false (by omega)) ?_
      refine G_seq (G_region ?_)
      refine Gv (V_eql rfl rfl rfl) ?_
      refine Ga ?_
      refine G_end (X_then ?_)
      refine G_cond_t rfl (decide_eq_true (by omega)) ?_
      refine G_seq (G_region ?_)
      refine Gv (V_fieldAddr rfl rfl (by decide)) ?_
      refine Gv (V_load rfl rfl (Cell.own (.head _) rfl)) ?_
      refine Gv (V_eql rfl rfl rfl) ?_
      refine Gm ?_
      refine G.bool_f 15 rfl (decide_eq_false (by omega)) ?_
      refine Gy (V_fieldAddr rfl rfl (by decide)) ?_
      refine Gy (V_load rfl rfl (Cell.own (.head _) rfl)) ?_
      refine G_callv (k := 74) (.mk rfl rfl rfl rfl) rfl rfl (.yes rfl rfl rfl rfl) (terminal_call _ _ _) ?_
      refine Gv (V_pick_f rfl rfl rfl) ?_
      refine Gm ?_
      refine G.bool_f 20 rfl (decide_eq_false (by omega)) ?_
      refine Gy (V_fieldAddr rfl rfl (by decide)) ?_
      refine Gy (V_load rfl rfl (Cell.own (.head _) rfl)) ?_
      refine G_callv (k := 75) (.mk rfl rfl rfl rfl) rfl rfl (.yes rfl rfl rfl rfl) (nonterminal_call _ _ _) ?_
      refine Gv (V_pick_f rfl rfl rfl) ?_
      refine Ga ?_
      refine G_end (X_then (G_ret (X_block_ret (X_then_ret ?_))))
      refine G_leaveS (.drop _ (.nil _)) (by exact (.cons (.tmp rfl) (.nil))) rfl ?_ ?_
      · exact (.refl _)
      exact ⟨(by (simp [resVal, *]; done)), (by rfl)⟩
    · rw [decide_eq_false (fun h => by rcases h with h | h | h; exact c1 h; exact c2 h; exact c3 h)]
      refine CallS.toV (CallS.intro (l := [_]) _ Tryz.func37 rfl Tryz.ntmps37 rfl ?_)
      refine G_seq (G_region ?_)
      (refine G_boxA rfl rfl rfl rfl (.none rfl) ?_; intro b1)
      refine Ga ?_
      refine G_end (X_then (G_seq (G_seq (G_region ?_))))
      refine Gv (V_fieldAddr rfl rfl (by decide)) ?_
      refine Gv (V_load rfl rfl (Cell.own (.head _) rfl)) ?_
      refine G_end (X_then (G_block (G_seq (G_region ?_))))
      refine Gv (V_eql rfl rfl rfl) ?_
      refine Ga ?_
      refine G_end (X_then ?_)
      refine G_cond_f rfl (decide_eq_false (by omega)) ?_
      refine G_seq (G_region ?_)
      refine Gv (V_eql rfl rfl rfl) ?_
      refine Ga ?_
      refine G_end (X_then ?_)
      refine G_cond_t rfl (decide_eq_true (by omega)) ?_
      refine G_seq (G_region ?_)
      refine Gv (V_fieldAddr rfl rfl (by decide)) ?_
      refine Gv (V_load rfl rfl (Cell.own (.head _) rfl)) ?_
      refine Gv (V_eql rfl rfl rfl) ?_
      refine Gm ?_
      refine G.bool_f 15 rfl (decide_eq_false (by omega)) ?_
      refine Gy (V_fieldAddr rfl rfl (by decide)) ?_
      refine Gy (V_load rfl rfl (Cell.own (.head _) rfl)) ?_
      refine G_callv (k := 74) (.mk rfl rfl rfl rfl) rfl rfl (.yes rfl rfl rfl rfl) (terminal_call _ _ _) ?_
      refine Gv (V_pick_f rfl rfl rfl) ?_
      refine Gm ?_
      refine G.bool_f 20 rfl (decide_eq_false (by omega)) ?_
      refine Gy (V_fieldAddr rfl rfl (by decide)) ?_
      refine Gy (V_load rfl rfl (Cell.own (.head _) rfl)) ?_
      refine G_callv (k := 75) (.mk rfl rfl rfl rfl) rfl rfl (.yes rfl rfl rfl rfl) (nonterminal_call _ _ _) ?_
      refine Gv (V_pick_f rfl rfl rfl) ?_
      refine Ga ?_
      refine G_end (X_then (G_ret (X_block_ret (X_then_ret ?_))))
      refine G_leaveS (.drop _ (.nil _)) (by exact (.cons (.tmp rfl) (.nil))) rfl ?_ ?_
      · exact (.refl _)
      exact ⟨(by (simp [resVal, *]; done)), (by rfl)⟩
  · rw [if_neg h5]
    refine CallS.toV (CallS.intro (l := [_]) _ Tryz.func37 rfl Tryz.ntmps37 rfl ?_)
    refine G_seq (G_region ?_)
    (refine G_boxA rfl rfl rfl rfl (.none rfl) ?_; intro b1)
    refine Ga ?_
    refine G_end (X_then (G_seq (G_seq (G_region ?_))))
    refine Gv (V_fieldAddr rfl rfl (by decide)) ?_
    refine Gv (V_load rfl rfl (Cell.own (.head _) rfl)) ?_
    refine G_end (X_then (G_block (G_seq (G_region ?_))))
    refine Gv (V_eql rfl rfl rfl) ?_
    refine Ga ?_
    refine G_end (X_then ?_)
    refine G_cond_f rfl (decide_eq_false (by omega)) ?_
    refine G_seq (G_region ?_)
    refine Gv (V_eql rfl rfl rfl) ?_
    refine Ga ?_
    refine G_end (X_then ?_)
    refine G_cond_f rfl (decide_eq_false (by omega)) ?_
    refine G_skip (X_block (X_then (G_seq (G_region ?_))))
    refine Gv (V_fieldAddr rfl rfl (by decide)) ?_
    refine Gv (V_load rfl rfl (Cell.own (.head _) rfl)) ?_
    refine G_callv (k := 75) (.mk rfl rfl rfl rfl) rfl rfl (.none rfl) (nonterminal_call _ _ _) ?_
    refine Ga ?_
    refine G_end (X_then (G_ret ?_))
    refine G_leaveS (.drop _ (.nil _)) (by exact (.cons (.tmp rfl) (.nil))) rfl ?_ ?_
    · exact (.refl _)
    exact ⟨rfl, rfl⟩
theorem reason_call : CallV Tryz.prog 38 #[.agg #[.int .i64 k, .int .i64 sy, .int .i64 pr, .int .i64 rc, .int .i64 pl, .string (S tx), .int .i64 er]] E L (.bool (errP (k, sy, pr, rc, pl, tx, er))) := by
  unfold errP
  by_cases h6 : k = 6
  · rw [if_pos h6]
    by_cases c1 : er = 0
    · rw [decide_eq_true (.inl c1)]
      refine CallS.toV (CallS.intro (l := [_]) _ Tryz.func38 rfl Tryz.ntmps38 rfl ?_)
      refine G_seq (G_region ?_)
      (refine G_boxA rfl rfl rfl rfl (.none rfl) ?_; intro b1)
      refine Ga ?_
      refine G_end (X_then (G_seq (G_seq (G_region ?_))))
      refine Gv (V_fieldAddr rfl rfl (by decide)) ?_
      refine Gv (V_load rfl rfl (Cell.own (.head _) rfl)) ?_
      refine G_end (X_then (G_block (G_seq (G_region ?_))))
      refine Gv (V_eql rfl rfl rfl) ?_
      refine Ga ?_
      refine G_end (X_then ?_)
      refine G_cond_t rfl (decide_eq_true (by omega)) ?_
      refine G_seq (G_region ?_)
      refine Gv (V_fieldAddr rfl rfl (by decide)) ?_
      refine Gv (V_load rfl rfl (Cell.own (.head _) rfl)) ?_
      refine Gv (V_eql rfl rfl rfl) ?_
      refine Gm ?_
      refine G.bool_t 10 rfl (decide_eq_true (by omega)) ?_
      refine Gn ?_
      refine Gn ?_
      refine Gn ?_
      refine Gv (V_pick_t rfl rfl rfl) ?_
      refine Ga ?_
      refine G_end (X_then (G_ret (X_block_ret (X_then_ret ?_))))
      refine G_leaveS (.drop _ (.nil _)) (by exact (.cons (.tmp rfl) (.nil))) rfl ?_ ?_
      · exact (.refl _)
      exact ⟨(by kernel_rfl), rfl⟩
    by_cases c2 : er = 25
    · rw [decide_eq_true (.inr c2)]
      refine CallS.toV (CallS.intro (l := [_]) _ Tryz.func38 rfl Tryz.ntmps38 rfl ?_)
      refine G_seq (G_region ?_)
      (refine G_boxA rfl rfl rfl rfl (.none rfl) ?_; intro b1)
      refine Ga ?_
      refine G_end (X_then (G_seq (G_seq (G_region ?_))))
      refine Gv (V_fieldAddr rfl rfl (by decide)) ?_
      refine Gv (V_load rfl rfl (Cell.own (.head _) rfl)) ?_
      refine G_end (X_then (G_block (G_seq (G_region ?_))))
      refine Gv (V_eql rfl rfl rfl) ?_
      refine Ga ?_
      refine G_end (X_then ?_)
      refine G_cond_t rfl (decide_eq_true (by omega)) ?_
      refine G_seq (G_region ?_)
      refine Gv (V_fieldAddr rfl rfl (by decide)) ?_
      refine Gv (V_load rfl rfl (Cell.own (.head _) rfl)) ?_
      refine Gv (V_eql rfl rfl rfl) ?_
      refine Gm ?_
      refine G.bool_f 10 rfl (decide_eq_false (by omega)) ?_
      refine Gy (V_fieldAddr rfl rfl (by decide)) ?_
      refine Gy (V_load rfl rfl (Cell.own (.head _) rfl)) ?_
      refine Gy (V_eql rfl rfl rfl) ?_
      refine Gv (V_pick_f rfl rfl rfl) ?_
      refine Ga ?_
      refine G_end (X_then (G_ret (X_block_ret (X_then_ret ?_))))
      refine G_leaveS (.drop _ (.nil _)) (by exact (.cons (.tmp rfl) (.nil))) rfl ?_ ?_
      · exact (.refl _)
      exact ⟨(by (simp [resVal, *]; done)), (by rfl)⟩
    rw [decide_eq_false (fun h => by rcases h with h | h; exact c1 h; exact c2 h)]
    refine CallS.toV (CallS.intro (l := [_]) _ Tryz.func38 rfl Tryz.ntmps38 rfl ?_)
    refine G_seq (G_region ?_)
    (refine G_boxA rfl rfl rfl rfl (.none rfl) ?_; intro b1)
    refine Ga ?_
    refine G_end (X_then (G_seq (G_seq (G_region ?_))))
    refine Gv (V_fieldAddr rfl rfl (by decide)) ?_
    refine Gv (V_load rfl rfl (Cell.own (.head _) rfl)) ?_
    refine G_end (X_then (G_block (G_seq (G_region ?_))))
    refine Gv (V_eql rfl rfl rfl) ?_
    refine Ga ?_
    refine G_end (X_then ?_)
    refine G_cond_t rfl (decide_eq_true (by omega)) ?_
    refine G_seq (G_region ?_)
    refine Gv (V_fieldAddr rfl rfl (by decide)) ?_
    refine Gv (V_load rfl rfl (Cell.own (.head _) rfl)) ?_
    refine Gv (V_eql rfl rfl rfl) ?_
    refine Gm ?_
    refine G.bool_f 10 rfl (decide_eq_false (by omega)) ?_
    refine Gy (V_fieldAddr rfl rfl (by decide)) ?_
    refine Gy (V_load rfl rfl (Cell.own (.head _) rfl)) ?_
    refine Gy (V_eql rfl rfl rfl) ?_
    refine Gv (V_pick_f rfl rfl rfl) ?_
    refine Ga ?_
    refine G_end (X_then (G_ret (X_block_ret (X_then_ret ?_))))
    refine G_leaveS (.drop _ (.nil _)) (by exact (.cons (.tmp rfl) (.nil))) rfl ?_ ?_
    · exact (.refl _)
    exact ⟨(by (simp [resVal, *]; done)), (by rfl)⟩
  rw [if_neg h6]
  by_cases h7 : k = 7
  · rw [if_pos h7]
    by_cases c1 : er = 4
    · rw [decide_eq_true (.inl c1)]
      refine CallS.toV (CallS.intro (l := [_]) _ Tryz.func38 rfl Tryz.ntmps38 rfl ?_)
      refine G_seq (G_region ?_)
      (refine G_boxA rfl rfl rfl rfl (.none rfl) ?_; intro b1)
      refine Ga ?_
      refine G_end (X_then (G_seq (G_seq (G_region ?_))))
      refine Gv (V_fieldAddr rfl rfl (by decide)) ?_
      refine Gv (V_load rfl rfl (Cell.own (.head _) rfl)) ?_
      refine G_end (X_then (G_block (G_seq (G_region ?_))))
      refine Gv (V_eql rfl rfl rfl) ?_
      refine Ga ?_
      refine G_end (X_then ?_)
      refine G_cond_f rfl (decide_eq_false (by omega)) ?_
      refine G_seq (G_region ?_)
      refine Gv (V_eql rfl rfl rfl) ?_
      refine Ga ?_
      refine G_end (X_then ?_)
      refine G_cond_t rfl (decide_eq_true (by omega)) ?_
      refine G_seq (G_region ?_)
      refine Gv (V_fieldAddr rfl rfl (by decide)) ?_
      refine Gv (V_load rfl rfl (Cell.own (.head _) rfl)) ?_
      refine Gv (V_eql rfl rfl rfl) ?_
      refine Gm ?_
      refine G.bool_t 20 rfl (decide_eq_true (by omega)) ?_
      refine Gn ?_
      refine Gn ?_
      refine Gn ?_
      refine Gv (V_pick_t rfl rfl rfl) ?_
      refine Gm ?_
      refine Gn ?_
      refine Gn ?_
      refine Gn ?_
      refine Gv (V_pick_t rfl rfl rfl) ?_
      refine Gm ?_
      refine Gn ?_
      refine Gn ?_
      refine Gn ?_
      refine Gv (V_pick_t rfl rfl rfl) ?_
      refine Ga ?_
      refine G_end (X_then (G_ret (X_block_ret (X_then_ret ?_))))
      refine G_leaveS (.drop _ (.nil _)) (by exact (.cons (.tmp rfl) (.nil))) rfl ?_ ?_
      · exact (.refl _)
      exact ⟨(by kernel_rfl), rfl⟩
    by_cases c2 : er = 5
    · rw [decide_eq_true (.inr (.inl c2))]
      refine CallS.toV (CallS.intro (l := [_]) _ Tryz.func38 rfl Tryz.ntmps38 rfl ?_)
      refine G_seq (G_region ?_)
      (refine G_boxA rfl rfl rfl rfl (.none rfl) ?_; intro b1)
      refine Ga ?_
      refine G_end (X_then (G_seq (G_seq (G_region ?_))))
      refine Gv (V_fieldAddr rfl rfl (by decide)) ?_
      refine Gv (V_load rfl rfl (Cell.own (.head _) rfl)) ?_
      refine G_end (X_then (G_block (G_seq (G_region ?_))))
      refine Gv (V_eql rfl rfl rfl) ?_
      refine Ga ?_
      refine G_end (X_then ?_)
      refine G_cond_f rfl (decide_eq_false (by omega)) ?_
      refine G_seq (G_region ?_)
      refine Gv (V_eql rfl rfl rfl) ?_
      refine Ga ?_
      refine G_end (X_then ?_)
      refine G_cond_t rfl (decide_eq_true (by omega)) ?_
      refine G_seq (G_region ?_)
      refine Gv (V_fieldAddr rfl rfl (by decide)) ?_
      refine Gv (V_load rfl rfl (Cell.own (.head _) rfl)) ?_
      refine Gv (V_eql rfl rfl rfl) ?_
      refine Gm ?_
      refine G.bool_f 20 rfl (decide_eq_false (by omega)) ?_
      refine Gy (V_fieldAddr rfl rfl (by decide)) ?_
      refine Gy (V_load rfl rfl (Cell.own (.head _) rfl)) ?_
      refine Gy (V_eql rfl rfl rfl) ?_
      refine Gv (V_pick_f rfl rfl rfl) ?_
      refine Gm ?_
      refine G.bool_t 25 rfl (decide_eq_true (by omega)) ?_
      refine Gn ?_
      refine Gn ?_
      refine Gn ?_
      refine Gv (V_pick_t rfl rfl rfl) ?_
      refine Gm ?_
      refine Gn ?_
      refine Gn ?_
      refine Gn ?_
      refine Gv (V_pick_t rfl rfl rfl) ?_
      refine Ga ?_
      refine G_end (X_then (G_ret (X_block_ret (X_then_ret ?_))))
      refine G_leaveS (.drop _ (.nil _)) (by exact (.cons (.tmp rfl) (.nil))) rfl ?_ ?_
      · exact (.refl _)
      exact ⟨(by kernel_rfl), rfl⟩
    by_cases c3 : er = 14
    · rw [decide_eq_true (.inr (.inr (.inl c3)))]
      refine CallS.toV (CallS.intro (l := [_]) _ Tryz.func38 rfl Tryz.ntmps38 rfl ?_)
      refine G_seq (G_region ?_)
      (refine G_boxA rfl rfl rfl rfl (.none rfl) ?_; intro b1)
      refine Ga ?_
      refine G_end (X_then (G_seq (G_seq (G_region ?_))))
      refine Gv (V_fieldAddr rfl rfl (by decide)) ?_
      refine Gv (V_load rfl rfl (Cell.own (.head _) rfl)) ?_
      refine G_end (X_then (G_block (G_seq (G_region ?_))))
      refine Gv (V_eql rfl rfl rfl) ?_
      refine Ga ?_
      refine G_end (X_then ?_)
      refine G_cond_f rfl (decide_eq_false (by omega)) ?_
      refine G_seq (G_region ?_)
      refine Gv (V_eql rfl rfl rfl) ?_
      refine Ga ?_
      refine G_end (X_then ?_)
      refine G_cond_t rfl (decide_eq_true (by omega)) ?_
      refine G_seq (G_region ?_)
      refine Gv (V_fieldAddr rfl rfl (by decide)) ?_
      refine Gv (V_load rfl rfl (Cell.own (.head _) rfl)) ?_
      refine Gv (V_eql rfl rfl rfl) ?_
      refine Gm ?_
      refine G.bool_f 20 rfl (decide_eq_false (by omega)) ?_
      refine Gy (V_fieldAddr rfl rfl (by decide)) ?_
      refine Gy (V_load rfl rfl (Cell.own (.head _) rfl)) ?_
      refine Gy (V_eql rfl rfl rfl) ?_
      refine Gv (V_pick_f rfl rfl rfl) ?_
      refine Gm ?_
      refine G.bool_f 25 rfl (decide_eq_false (by omega)) ?_
      refine Gy (V_fieldAddr rfl rfl (by decide)) ?_
      refine Gy (V_load rfl rfl (Cell.own (.head _) rfl)) ?_
      refine Gy (V_eql rfl rfl rfl) ?_
      refine Gv (V_pick_f rfl rfl rfl) ?_
      refine Gm ?_
      refine G.bool_t 30 rfl (decide_eq_true (by omega)) ?_
      refine Gn ?_
      refine Gn ?_
      refine Gn ?_
      refine Gv (V_pick_t rfl rfl rfl) ?_
      refine Ga ?_
      refine G_end (X_then (G_ret (X_block_ret (X_then_ret ?_))))
      refine G_leaveS (.drop _ (.nil _)) (by exact (.cons (.tmp rfl) (.nil))) rfl ?_ ?_
      · exact (.refl _)
      exact ⟨(by kernel_rfl), rfl⟩
    by_cases c4 : er = 26
    · rw [decide_eq_true (.inr (.inr (.inr c4)))]
      refine CallS.toV (CallS.intro (l := [_]) _ Tryz.func38 rfl Tryz.ntmps38 rfl ?_)
      refine G_seq (G_region ?_)
      (refine G_boxA rfl rfl rfl rfl (.none rfl) ?_; intro b1)
      refine Ga ?_
      refine G_end (X_then (G_seq (G_seq (G_region ?_))))
      refine Gv (V_fieldAddr rfl rfl (by decide)) ?_
      refine Gv (V_load rfl rfl (Cell.own (.head _) rfl)) ?_
      refine G_end (X_then (G_block (G_seq (G_region ?_))))
      refine Gv (V_eql rfl rfl rfl) ?_
      refine Ga ?_
      refine G_end (X_then ?_)
      refine G_cond_f rfl (decide_eq_false (by omega)) ?_
      refine G_seq (G_region ?_)
      refine Gv (V_eql rfl rfl rfl) ?_
      refine Ga ?_
      refine G_end (X_then ?_)
      refine G_cond_t rfl (decide_eq_true (by omega)) ?_
      refine G_seq (G_region ?_)
      refine Gv (V_fieldAddr rfl rfl (by decide)) ?_
      refine Gv (V_load rfl rfl (Cell.own (.head _) rfl)) ?_
      refine Gv (V_eql rfl rfl rfl) ?_
      refine Gm ?_
      refine G.bool_f 20 rfl (decide_eq_false (by omega)) ?_
      refine Gy (V_fieldAddr rfl rfl (by decide)) ?_
      refine Gy (V_load rfl rfl (Cell.own (.head _) rfl)) ?_
      refine Gy (V_eql rfl rfl rfl) ?_
      refine Gv (V_pick_f rfl rfl rfl) ?_
      refine Gm ?_
      refine G.bool_f 25 rfl (decide_eq_false (by omega)) ?_
      refine Gy (V_fieldAddr rfl rfl (by decide)) ?_
      refine Gy (V_load rfl rfl (Cell.own (.head _) rfl)) ?_
      refine Gy (V_eql rfl rfl rfl) ?_
      refine Gv (V_pick_f rfl rfl rfl) ?_
      refine Gm ?_
      refine G.bool_f 30 rfl (decide_eq_false (by omega)) ?_
      refine Gy (V_fieldAddr rfl rfl (by decide)) ?_
      refine Gy (V_load rfl rfl (Cell.own (.head _) rfl)) ?_
      refine Gy (V_eql rfl rfl rfl) ?_
      refine Gv (V_pick_f rfl rfl rfl) ?_
      refine Ga ?_
      refine G_end (X_then (G_ret (X_block_ret (X_then_ret ?_))))
      refine G_leaveS (.drop _ (.nil _)) (by exact (.cons (.tmp rfl) (.nil))) rfl ?_ ?_
      · exact (.refl _)
      exact ⟨(by (simp [resVal, *]; done)), (by rfl)⟩
    rw [decide_eq_false (fun h => by rcases h with h | h | h | h; exact c1 h; exact c2 h; exact c3 h; exact c4 h)]
    refine CallS.toV (CallS.intro (l := [_]) _ Tryz.func38 rfl Tryz.ntmps38 rfl ?_)
    refine G_seq (G_region ?_)
    (refine G_boxA rfl rfl rfl rfl (.none rfl) ?_; intro b1)
    refine Ga ?_
    refine G_end (X_then (G_seq (G_seq (G_region ?_))))
    refine Gv (V_fieldAddr rfl rfl (by decide)) ?_
    refine Gv (V_load rfl rfl (Cell.own (.head _) rfl)) ?_
    refine G_end (X_then (G_block (G_seq (G_region ?_))))
    refine Gv (V_eql rfl rfl rfl) ?_
    refine Ga ?_
    refine G_end (X_then ?_)
    refine G_cond_f rfl (decide_eq_false (by omega)) ?_
    refine G_seq (G_region ?_)
    refine Gv (V_eql rfl rfl rfl) ?_
    refine Ga ?_
    refine G_end (X_then ?_)
    refine G_cond_t rfl (decide_eq_true (by omega)) ?_
    refine G_seq (G_region ?_)
    refine Gv (V_fieldAddr rfl rfl (by decide)) ?_
    refine Gv (V_load rfl rfl (Cell.own (.head _) rfl)) ?_
    refine Gv (V_eql rfl rfl rfl) ?_
    refine Gm ?_
    refine G.bool_f 20 rfl (decide_eq_false (by omega)) ?_
    refine Gy (V_fieldAddr rfl rfl (by decide)) ?_
    refine Gy (V_load rfl rfl (Cell.own (.head _) rfl)) ?_
    refine Gy (V_eql rfl rfl rfl) ?_
    refine Gv (V_pick_f rfl rfl rfl) ?_
    refine Gm ?_
    refine G.bool_f 25 rfl (decide_eq_false (by omega)) ?_
    refine Gy (V_fieldAddr rfl rfl (by decide)) ?_
    refine Gy (V_load rfl rfl (Cell.own (.head _) rfl)) ?_
    refine Gy (V_eql rfl rfl rfl) ?_
    refine Gv (V_pick_f rfl rfl rfl) ?_
    refine Gm ?_
    refine G.bool_f 30 rfl (decide_eq_false (by omega)) ?_
    refine Gy (V_fieldAddr rfl rfl (by decide)) ?_
    refine Gy (V_load rfl rfl (Cell.own (.head _) rfl)) ?_
    refine Gy (V_eql rfl rfl rfl) ?_
    refine Gv (V_pick_f rfl rfl rfl) ?_
    refine Ga ?_
    refine G_end (X_then (G_ret (X_block_ret (X_then_ret ?_))))
    refine G_leaveS (.drop _ (.nil _)) (by exact (.cons (.tmp rfl) (.nil))) rfl ?_ ?_
    · exact (.refl _)
    exact ⟨(by (simp [resVal, *]; done)), (by rfl)⟩
  rw [if_neg h7]
  by_cases hm : sy = -1
  · rw [if_pos hm]
    refine CallS.toV (CallS.intro (l := [_]) _ Tryz.func38 rfl Tryz.ntmps38 rfl ?_)
    refine G_seq (G_region ?_)
    (refine G_boxA rfl rfl rfl rfl (.none rfl) ?_; intro b1)
    refine Ga ?_
    refine G_end (X_then (G_seq (G_seq (G_region ?_))))
    refine Gv (V_fieldAddr rfl rfl (by decide)) ?_
    refine Gv (V_load rfl rfl (Cell.own (.head _) rfl)) ?_
    refine G_end (X_then (G_block (G_seq (G_region ?_))))
    refine Gv (V_eql rfl rfl rfl) ?_
    refine Ga ?_
    refine G_end (X_then ?_)
    refine G_cond_f rfl (decide_eq_false (by omega)) ?_
    refine G_seq (G_region ?_)
    refine Gv (V_eql rfl rfl rfl) ?_
    refine Ga ?_
    refine G_end (X_then ?_)
    refine G_cond_f rfl (decide_eq_false (by omega)) ?_
    refine G_skip (X_block (X_then (G_seq (G_block (G_seq (G_region ?_))))))
    refine Gv (V_fieldAddr rfl rfl (by decide)) ?_
    refine Gv (V_load rfl rfl (Cell.own (.head _) rfl)) ?_
    refine Gv (V_eql rfl rfl rfl) ?_
    refine Ga ?_
    refine G_end (X_then ?_)
    refine G_cond_t rfl (decide_eq_true (by omega)) ?_
    refine G_seq (G_region ?_)
    refine Gv (V_fieldAddr rfl rfl (by decide)) ?_
    refine Gv (V_load rfl rfl (Cell.own (.head _) rfl)) ?_
    refine Gv (V_eql rfl rfl rfl) ?_
    refine Ga ?_
    refine G_end (X_then (G_ret (X_block_ret (X_then_ret ?_))))
    refine G_leaveS (.drop _ (.nil _)) (by exact (.cons (.tmp rfl) (.nil))) rfl ?_ ?_
    · exact (.refl _)
    exact ⟨rfl, rfl⟩
  rw [if_neg hm]
  by_cases ht : termP sy
  · rw [if_pos ht]
    by_cases c1 : er = 22
    · rw [decide_eq_true (.inl c1)]
      refine CallS.toV (CallS.intro (l := [_]) _ Tryz.func38 rfl Tryz.ntmps38 rfl ?_)
      refine G_seq (G_region ?_)
      (refine G_boxA rfl rfl rfl rfl (.none rfl) ?_; intro b1)
      refine Ga ?_
      refine G_end (X_then (G_seq (G_seq (G_region ?_))))
      refine Gv (V_fieldAddr rfl rfl (by decide)) ?_
      refine Gv (V_load rfl rfl (Cell.own (.head _) rfl)) ?_
      refine G_end (X_then (G_block (G_seq (G_region ?_))))
      refine Gv (V_eql rfl rfl rfl) ?_
      refine Ga ?_
      refine G_end (X_then ?_)
      refine G_cond_f rfl (decide_eq_false (by omega)) ?_
      refine G_seq (G_region ?_)
      refine Gv (V_eql rfl rfl rfl) ?_
      refine Ga ?_
      refine G_end (X_then ?_)
      refine G_cond_f rfl (decide_eq_false (by omega)) ?_
      refine G_skip (X_block (X_then (G_seq (G_block (G_seq (G_region ?_))))))
      refine Gv (V_fieldAddr rfl rfl (by decide)) ?_
      refine Gv (V_load rfl rfl (Cell.own (.head _) rfl)) ?_
      refine Gv (V_eql rfl rfl rfl) ?_
      refine Ga ?_
      refine G_end (X_then ?_)
      refine G_cond_f rfl (decide_eq_false (by omega)) ?_
      refine G_seq (G_region ?_)
      refine Gv (V_fieldAddr rfl rfl (by decide)) ?_
      refine Gv (V_load rfl rfl (Cell.own (.head _) rfl)) ?_
      refine G_callv (k := 74) (.mk rfl rfl rfl rfl) rfl rfl (.none rfl) (terminal_call _ _ _) ?_
      refine Ga ?_
      refine G_end (X_then ?_)
      refine G_cond_t rfl (decide_eq_true (by omega)) ?_
      refine G_seq (G_region ?_)
      refine Gv (V_fieldAddr rfl rfl (by decide)) ?_
      refine Gv (V_load rfl rfl (Cell.own (.head _) rfl)) ?_
      refine Gv (V_eql rfl rfl rfl) ?_
      refine Gm ?_
      refine G.bool_t 49 rfl (decide_eq_true (by omega)) ?_
      refine Gn ?_
      refine Gn ?_
      refine Gn ?_
      refine Gv (V_pick_t rfl rfl rfl) ?_
      refine Ga ?_
      refine G_end (X_then (G_ret (X_block_ret (X_then_ret ?_))))
      refine G_leaveS (.drop _ (.nil _)) (by exact (.cons (.tmp rfl) (.nil))) rfl ?_ ?_
      · exact (.refl _)
      exact ⟨(by kernel_rfl), rfl⟩
    by_cases c2 : er = 5
    · rw [decide_eq_true (.inr c2)]
      refine CallS.toV (CallS.intro (l := [_]) _ Tryz.func38 rfl Tryz.ntmps38 rfl ?_)
      refine G_seq (G_region ?_)
      (refine G_boxA rfl rfl rfl rfl (.none rfl) ?_; intro b1)
      refine Ga ?_
      refine G_end (X_then (G_seq (G_seq (G_region ?_))))
      refine Gv (V_fieldAddr rfl rfl (by decide)) ?_
      refine Gv (V_load rfl rfl (Cell.own (.head _) rfl)) ?_
      refine G_end (X_then (G_block (G_seq (G_region ?_))))
      refine Gv (V_eql rfl rfl rfl) ?_
      refine Ga ?_
      refine G_end (X_then ?_)
      refine G_cond_f rfl (decide_eq_false (by omega)) ?_
      refine G_seq (G_region ?_)
      refine Gv (V_eql rfl rfl rfl) ?_
      refine Ga ?_
      refine G_end (X_then ?_)
      refine G_cond_f rfl (decide_eq_false (by omega)) ?_
      refine G_skip (X_block (X_then (G_seq (G_block (G_seq (G_region ?_))))))
      refine Gv (V_fieldAddr rfl rfl (by decide)) ?_
      refine Gv (V_load rfl rfl (Cell.own (.head _) rfl)) ?_
      refine Gv (V_eql rfl rfl rfl) ?_
      refine Ga ?_
      refine G_end (X_then ?_)
      refine G_cond_f rfl (decide_eq_false (by omega)) ?_
      refine G_seq (G_region ?_)
      refine Gv (V_fieldAddr rfl rfl (by decide)) ?_
      refine Gv (V_load rfl rfl (Cell.own (.head _) rfl)) ?_
      refine G_callv (k := 74) (.mk rfl rfl rfl rfl) rfl rfl (.none rfl) (terminal_call _ _ _) ?_
      refine Ga ?_
      refine G_end (X_then ?_)
      refine G_cond_t rfl (decide_eq_true (by omega)) ?_
      refine G_seq (G_region ?_)
      refine Gv (V_fieldAddr rfl rfl (by decide)) ?_
      refine Gv (V_load rfl rfl (Cell.own (.head _) rfl)) ?_
      refine Gv (V_eql rfl rfl rfl) ?_
      refine Gm ?_
      refine G.bool_f 49 rfl (decide_eq_false (by omega)) ?_
      refine Gy (V_fieldAddr rfl rfl (by decide)) ?_
      refine Gy (V_load rfl rfl (Cell.own (.head _) rfl)) ?_
      refine Gy (V_eql rfl rfl rfl) ?_
      refine Gv (V_pick_f rfl rfl rfl) ?_
      refine Ga ?_
      refine G_end (X_then (G_ret (X_block_ret (X_then_ret ?_))))
      refine G_leaveS (.drop _ (.nil _)) (by exact (.cons (.tmp rfl) (.nil))) rfl ?_ ?_
      · exact (.refl _)
      exact ⟨(by (simp [resVal, *]; done)), (by rfl)⟩
    rw [decide_eq_false (fun h => by rcases h with h | h; exact c1 h; exact c2 h)]
    refine CallS.toV (CallS.intro (l := [_]) _ Tryz.func38 rfl Tryz.ntmps38 rfl ?_)
    refine G_seq (G_region ?_)
    (refine G_boxA rfl rfl rfl rfl (.none rfl) ?_; intro b1)
    refine Ga ?_
    refine G_end (X_then (G_seq (G_seq (G_region ?_))))
    refine Gv (V_fieldAddr rfl rfl (by decide)) ?_
    refine Gv (V_load rfl rfl (Cell.own (.head _) rfl)) ?_
    refine G_end (X_then (G_block (G_seq (G_region ?_))))
    refine Gv (V_eql rfl rfl rfl) ?_
    refine Ga ?_
    refine G_end (X_then ?_)
    refine G_cond_f rfl (decide_eq_false (by omega)) ?_
    refine G_seq (G_region ?_)
    refine Gv (V_eql rfl rfl rfl) ?_
    refine Ga ?_
    refine G_end (X_then ?_)
    refine G_cond_f rfl (decide_eq_false (by omega)) ?_
    refine G_skip (X_block (X_then (G_seq (G_block (G_seq (G_region ?_))))))
    refine Gv (V_fieldAddr rfl rfl (by decide)) ?_
    refine Gv (V_load rfl rfl (Cell.own (.head _) rfl)) ?_
    refine Gv (V_eql rfl rfl rfl) ?_
    refine Ga ?_
    refine G_end (X_then ?_)
    refine G_cond_f rfl (decide_eq_false (by omega)) ?_
    refine G_seq (G_region ?_)
    refine Gv (V_fieldAddr rfl rfl (by decide)) ?_
    refine Gv (V_load rfl rfl (Cell.own (.head _) rfl)) ?_
    refine G_callv (k := 74) (.mk rfl rfl rfl rfl) rfl rfl (.none rfl) (terminal_call _ _ _) ?_
    refine Ga ?_
    refine G_end (X_then ?_)
    refine G_cond_t rfl (decide_eq_true (by omega)) ?_
    refine G_seq (G_region ?_)
    refine Gv (V_fieldAddr rfl rfl (by decide)) ?_
    refine Gv (V_load rfl rfl (Cell.own (.head _) rfl)) ?_
    refine Gv (V_eql rfl rfl rfl) ?_
    refine Gm ?_
    refine G.bool_f 49 rfl (decide_eq_false (by omega)) ?_
    refine Gy (V_fieldAddr rfl rfl (by decide)) ?_
    refine Gy (V_load rfl rfl (Cell.own (.head _) rfl)) ?_
    refine Gy (V_eql rfl rfl rfl) ?_
    refine Gv (V_pick_f rfl rfl rfl) ?_
    refine Ga ?_
    refine G_end (X_then (G_ret (X_block_ret (X_then_ret ?_))))
    refine G_leaveS (.drop _ (.nil _)) (by exact (.cons (.tmp rfl) (.nil))) rfl ?_ ?_
    · exact (.refl _)
    exact ⟨(by (simp [resVal, *]; done)), (by rfl)⟩
  rw [if_neg ht]
  refine CallS.toV (CallS.intro (l := [_]) _ Tryz.func38 rfl Tryz.ntmps38 rfl ?_)
  refine G_seq (G_region ?_)
  (refine G_boxA rfl rfl rfl rfl (.none rfl) ?_; intro b1)
  refine Ga ?_
  refine G_end (X_then (G_seq (G_seq (G_region ?_))))
  refine Gv (V_fieldAddr rfl rfl (by decide)) ?_
  refine Gv (V_load rfl rfl (Cell.own (.head _) rfl)) ?_
  refine G_end (X_then (G_block (G_seq (G_region ?_))))
  refine Gv (V_eql rfl rfl rfl) ?_
  refine Ga ?_
  refine G_end (X_then ?_)
  refine G_cond_f rfl (decide_eq_false (by omega)) ?_
  refine G_seq (G_region ?_)
  refine Gv (V_eql rfl rfl rfl) ?_
  refine Ga ?_
  refine G_end (X_then ?_)
  refine G_cond_f rfl (decide_eq_false (by omega)) ?_
  refine G_skip (X_block (X_then (G_seq (G_block (G_seq (G_region ?_))))))
  refine Gv (V_fieldAddr rfl rfl (by decide)) ?_
  refine Gv (V_load rfl rfl (Cell.own (.head _) rfl)) ?_
  refine Gv (V_eql rfl rfl rfl) ?_
  refine Ga ?_
  refine G_end (X_then ?_)
  refine G_cond_f rfl (decide_eq_false (by omega)) ?_
  refine G_seq (G_region ?_)
  refine Gv (V_fieldAddr rfl rfl (by decide)) ?_
  refine Gv (V_load rfl rfl (Cell.own (.head _) rfl)) ?_
  refine G_callv (k := 74) (.mk rfl rfl rfl rfl) rfl rfl (.none rfl) (terminal_call _ _ _) ?_
  refine Ga ?_
  refine G_end (X_then ?_)
  refine G_cond_f rfl (decide_eq_false (by omega)) ?_
  refine G_skip (X_block (X_then (G_seq (G_region ?_))))
  refine Gv (V_fieldAddr rfl rfl (by decide)) ?_
  refine Gv (V_load rfl rfl (Cell.own (.head _) rfl)) ?_
  refine Gv (V_eql rfl rfl rfl) ?_
  refine Ga ?_
  refine G_end (X_then (G_ret ?_))
  refine G_leaveS (.drop _ (.nil _)) (by exact (.cons (.tmp rfl) (.nil))) rfl ?_ ?_
  · exact (.refl _)
  exact ⟨rfl, rfl⟩
end
end Go.Proofs.YtjhehanknkonnaaGreatDoor
set_option linter.unusedSimpArgs false
set_option linter.unusedVariables false
set_option maxHeartbeats 2000000
set_option maxRecDepth 20000
namespace Go.Proofs.YtjhehanknkonnaaGreatDoor
open Go.RowKit
/-! event.Check. -/
section
variable (E : Env) (L : List Res)
theorem EvCheck_call (k sy pr rc pl : Int) (tx : List UInt8) (er : Int) : CallS Tryz.prog 12 #[.agg #[.int .i64 k, .int .i64 sy, .int .i64 pr, .int .i64 rc, .int .i64 pl, .string (S tx), .int .i64 er]] E L (fun r E' L' => r = .int .i64 (chkE (k, sy, pr, rc, pl, tx, er)) ∧ L' = L) := by
  obtain ⟨e, he⟩ : ∃ e : Ev, e = (k, sy, pr, rc, pl, tx, er) := ⟨_, rfl⟩
  unfold chkE
  rw [← he]
  have hek : e.k = k := by rw [he]
  rw [hek]
  refine CallS.intro (l := [_]) _ Tryz.func12 rfl Tryz.ntmps12 rfl ?_
  refine G_seq (G_region ?_)
  (refine G_boxA rfl rfl rfl rfl (.none rfl) ?_; intro b1)
  refine Ga ?_
  refine G_end (X_then (G_scope (G_seq (G_region ?_))))
  refine Gv (V_fieldAddr rfl rfl (by decide)) ?_
  refine Gv (V_load rfl rfl (Cell.own (.head _) rfl)) ?_
  refine G_call (k := 34) (.mk rfl rfl rfl rfl) rfl rfl (.none rfl) (fields_call' _ _ k) ?_
  rintro x1 E1 L1 hE1 ⟨⟨⟨a, c, rfl, hs, hnil, hc⟩⟩, rfl⟩
  by_cases h0 : fieldsK k = []
  · rw [if_pos h0]
    rw [decide_eq_true h0] at hnil
    refine Ga ?_
    refine G_end (X_then (G_seq (G_seq (G_region ?_))))
    refine Gm ?_
    refine Gv (V_eqlN rfl rfl rfl) ?_
    refine G_end (X_then ?_)
    refine G_cond_t rfl (by assumption) ?_
    refine G_seq (G_region ?_)
    refine Ga ?_
    refine G_end (X_then (G_ret (X_then_ret ?_)))
    refine X_ng_ret ?_
    refine G_leaveS (.drop _ (.nil _)) (by exact (.cons (.tmp rfl) (.nil))) rfl ?_ ?_
    · exact hE1
    exact ⟨(by kernel_rfl), rfl⟩
  rw [if_neg h0]
  rw [decide_eq_false h0] at hnil
  have hfl : (fieldsK k).length ≤ 3 := by
    unfold fieldsK
    repeat' split
    all_goals simp
  refine Ga ?_
  refine G_end (X_then (G_seq (G_seq (G_region ?_))))
  refine Gm ?_
  refine Gv (V_eqlN rfl rfl rfl) ?_
  refine G_end (X_then ?_)
  refine G_cond_f rfl (by assumption) ?_
  refine G_skip (X_then (G_seq (G_region ?_)))
  refine Gv (V_fieldAddr rfl rfl (by decide)) ?_
  refine Gv (V_load rfl rfl (Cell.own (.head _) rfl)) ?_
  refine Gv (V_build rfl rfl (by simp [fillV, setLs, setL, Value.cells]; rfl)) ?_
  (refine G_alloc rfl rfl rfl (.none rfl) ?_; intro b4)
  refine G_storeA rfl rfl rfl rfl (by simp [Value.oneCell']) rfl (.none rfl) (.head _ _ _) rfl ?_
  refine G_end (X_then (G_seq (G_label (X_then (G_seq (G_seq (G_region ?_)))))))
  (refine G_lit rfl rfl (by decide) (by simp [fillS, zeros, setLs, setL, Value.cells, List.range, List.range.loop]; rfl) rfl rfl (.none rfl) ?_; intro b15)
  refine Gv (V_lenS rfl rfl) ?_
  refine Gm ?_
  refine G_end (X_then (G_block ?_))
  refine G.freezeB (k := 6) (sz := 1) (.head _ _) rfl ?_
  intro E2 hE2 hlit0
  have hlit : SlE E2 1 (some ⟨b15, 0, none⟩) 6 (i64s ordF) := hlit0
  clear hlit0
  replace hs := hs.mono hE2
  refine G_loop (α := Nat × Ev) (fun x => [(1, .pointer (some ⟨b1, 0, none⟩)), (3, .slice a (fieldsK k).length c), (4, .pointer (some ⟨b4, 0, none⟩)), (15, .slice (some ⟨b15, 0, none⟩) 6 6), (16, .int .i64 6), (17, .int .i64 x.1)]) (fun _ => E2)
    (fun x => .blk b4 (.cells #[.int .i64 x.2.k, .int .i64 x.2.sy, .int .i64 x.2.pr, .int .i64 x.2.rc, .int .i64 x.2.pl, .string (S x.2.tx), .int .i64 x.2.er] 28 (0, 0)) :: .blk b1 (.cells #[.int .i64 k, .int .i64 sy, .int .i64 pr, .int .i64 rc, .int .i64 pl, .string (S tx), .int .i64 er] 28 (0, 0)) :: L)
    (fun x => x.1 ≤ 6 ∧ chkF e ordF (k, 0, 0, 0, 0, [], 0) = chkF e (ordF.drop x.1) x.2) (fun x => 6 - x.1) (0, (k, 0, 0, 0, 0, [], 0)) ⟨Nat.zero_le _, rfl⟩ ⟨rfl, rfl, rfl, rfl, rfl, rfl, trivial⟩ rfl rfl ?_
  rintro ⟨i, o⟩ ⟨hi, hch⟩
  obtain ⟨ok, osy, opr, orc, opl, otx, oer⟩ := o
  simp only at hi hch ⊢
  rw [hch]
  by_cases hlt : i < 6
  · have hstep : ∀ f l, ordF.drop i = f :: l → chkF e (ordF.drop i) (ok, osy, opr, orc, opl, otx, oer) = if f ∈ fieldsK k then (if badF e f ≠ 0 then badF e f else chkF e l (keepF e (ok, osy, opr, orc, opl, otx, oer) f)) else chkF e l (ok, osy, opr, orc, opl, otx, oer) := fun f l h => by
      rw [h, chkF, hek]
    obtain rfl | rfl | rfl | rfl | rfl | rfl : i = 0 ∨ i = 1 ∨ i = 2 ∨ i = 3 ∨ i = 4 ∨ i = 5 := by omega
    · have hx : (i64s ordF)[((0 : Nat) : Int).toNat * 1]? = some (.int .i64 0) := rfl
      have hst := hstep 0 [5, 1, 2, 3, 4] rfl
      have hbad : badF e 0 = if cntP rc then 0 else 2 := by rw [he]; rfl
      have hkeep : keepF e (ok, osy, opr, orc, opl, otx, oer) 0 = (ok, osy, opr, rc, opl, otx, oer) := by rw [he]; rfl
      by_cases hm : (0 : Int) ∈ fieldsK k
      · rw [if_pos hm, hbad, hkeep] at hst
        by_cases hg : cntP rc
        · rw [if_pos hg, if_neg (fun h => h rfl)] at hst
          refine G_seq (G_region ?_)
          refine Gv (V_lss rfl rfl rfl) ?_
          refine G_end (X_then (G_seq ?_))
          refine G_cond_t rfl (by kernel_rfl) ?_
          refine G_skip (X_then (G_seq (G_block (G_seq (G_region ?_)))))
          refine Gv (V_idxAddr rfl rfl rfl (SlE.rd (by assumption)) (by omega) (by omega)) ?_
          refine Gv (V_loadS rfl rfl (SlE.rd (by assumption)) (by assumption) (by simp)) ?_
          refine Ga ?_
          refine G_end (X_then (G_seq (G_seq (G_region ?_))))
          refine Gm ?_
          refine Gm ?_
          refine G_callv (k := 35) (.mk rfl rfl rfl rfl) rfl rfl (.none rfl) (ContainsI_call _ _ _ _ _ _ (by assumption) (by omega) _) ?_
          refine Gv (V_not rfl rfl) ?_
          refine G_end (X_then ?_)
          refine G_cond_f rfl (by simp [*]; done) ?_
          refine G_skip (X_then (G_seq (G_region ?_)))
          refine Gm ?_
          refine G_end (X_then (G_block (G_seq (G_region ?_))))
          refine Gv (V_eql rfl rfl rfl) ?_
          refine Ga ?_
          refine G_end (X_then ?_)
          refine G_cond_t rfl (by kernel_rfl) ?_
          refine G_seq (G_seq (G_region ?_))
          refine Gv (V_fieldAddr rfl rfl (by decide)) ?_
          refine Gv (V_load rfl rfl (Cell.own (.tail _ (.head _)) rfl)) ?_
          refine G_callv (k := 36) (.mk rfl rfl rfl rfl) rfl rfl (.none rfl) (counted_call _ _ _) ?_
          refine Gv (V_not rfl rfl) ?_
          refine G_end (X_then ?_)
          refine G_cond_f rfl (by simp [*]; done) ?_
          refine G_skip (X_then (G_region ?_))
          refine Gv (V_fieldAddr rfl rfl (by decide)) ?_
          refine Gv (V_load rfl rfl (Cell.own (.tail _ (.head _)) rfl)) ?_
          refine Gv (V_fieldAddr rfl rfl (by decide)) ?_
          refine G_storeAt rfl rfl rfl rfl rfl rfl (.none rfl) (.head _ _ _) (Nat.le_of_ble_eq_true rfl) (by simp only [putAll, Nat.zero_add, Nat.reduceAdd, List.setIfInBounds_toArray, List.set_cons_succ, List.set_cons_zero]; rfl) ?_
          refine G_end (X_block (X_block (X_then (G_region ?_))))
          refine Gv (V_add_i64 rfl rfl rfl (by omega) (by omega)) ?_
          refine Gm ?_
          refine G_end (X_then ?_)
          exact G_again (1, (ok, osy, opr, rc, opl, otx, oer)) ⟨by omega, hst⟩ (by simp only; omega) ⟨rfl, rfl, rfl, rfl, rfl, rfl, trivial⟩ rfl rfl
        · rw [if_neg hg, if_pos (by decide)] at hst
          rw [hst]
          refine G_seq (G_region ?_)
          refine Gv (V_lss rfl rfl rfl) ?_
          refine G_end (X_then (G_seq ?_))
          refine G_cond_t rfl (by kernel_rfl) ?_
          refine G_skip (X_then (G_seq (G_block (G_seq (G_region ?_)))))
          refine Gv (V_idxAddr rfl rfl rfl (SlE.rd (by assumption)) (by omega) (by omega)) ?_
          refine Gv (V_loadS rfl rfl (SlE.rd (by assumption)) (by assumption) (by simp)) ?_
          refine Ga ?_
          refine G_end (X_then (G_seq (G_seq (G_region ?_))))
          refine Gm ?_
          refine Gm ?_
          refine G_callv (k := 35) (.mk rfl rfl rfl rfl) rfl rfl (.none rfl) (ContainsI_call _ _ _ _ _ _ (by assumption) (by omega) _) ?_
          refine Gv (V_not rfl rfl) ?_
          refine G_end (X_then ?_)
          refine G_cond_f rfl (by simp [*]; done) ?_
          refine G_skip (X_then (G_seq (G_region ?_)))
          refine Gm ?_
          refine G_end (X_then (G_block (G_seq (G_region ?_))))
          refine Gv (V_eql rfl rfl rfl) ?_
          refine Ga ?_
          refine G_end (X_then ?_)
          refine G_cond_t rfl (by kernel_rfl) ?_
          refine G_seq (G_seq (G_region ?_))
          refine Gv (V_fieldAddr rfl rfl (by decide)) ?_
          refine Gv (V_load rfl rfl (Cell.own (.tail _ (.head _)) rfl)) ?_
          refine G_callv (k := 36) (.mk rfl rfl rfl rfl) rfl rfl (.none rfl) (counted_call _ _ _) ?_
          refine Gv (V_not rfl rfl) ?_
          refine G_end (X_then ?_)
          refine G_cond_t rfl (by simp [*]; done) ?_
          refine G_seq (G_region ?_)
          refine Ga ?_
          refine G_end (X_then (G_ret (X_then_ret (X_block_ret (X_block_ret (X_then_ret (X_then_ret (X_block_ret (X_then_ret ?_)))))))))
          refine X_ng_ret ?_
          refine G_leaveS (.drop _ (.drop _ (.nil _))) (by exact (.cons (.tmp rfl) (.nil))) rfl ?_ ?_
          · exact (hE1.trans hE2)
          exact ⟨(by kernel_rfl), rfl⟩
      · rw [if_neg hm] at hst
        refine G_seq (G_region ?_)
        refine Gv (V_lss rfl rfl rfl) ?_
        refine G_end (X_then (G_seq ?_))
        refine G_cond_t rfl (by kernel_rfl) ?_
        refine G_skip (X_then (G_seq (G_block (G_seq (G_region ?_)))))
        refine Gv (V_idxAddr rfl rfl rfl (SlE.rd (by assumption)) (by omega) (by omega)) ?_
        refine Gv (V_loadS rfl rfl (SlE.rd (by assumption)) (by assumption) (by simp)) ?_
        refine Ga ?_
        refine G_end (X_then (G_seq (G_seq (G_region ?_))))
        refine Gm ?_
        refine Gm ?_
        refine G_callv (k := 35) (.mk rfl rfl rfl rfl) rfl rfl (.none rfl) (ContainsI_call _ _ _ _ _ _ (by assumption) (by omega) _) ?_
        refine Gv (V_not rfl rfl) ?_
        refine G_end (X_then ?_)
        refine G_cond_t rfl (by simp [*]; done) ?_
        refine G_exit (X_then_exit (X_block_hit (X_then (G_region ?_))))
        refine Gv (V_add_i64 rfl rfl rfl (by omega) (by omega)) ?_
        refine Gm ?_
        refine G_end (X_then ?_)
        exact G_again (1, ok, osy, opr, orc, opl, otx, oer) ⟨by omega, hst⟩ (by simp only; omega) ⟨rfl, rfl, rfl, rfl, rfl, rfl, trivial⟩ rfl rfl
    · have hx : (i64s ordF)[((1 : Nat) : Int).toNat * 1]? = some (.int .i64 5) := rfl
      have hst := hstep 5 [1, 2, 3, 4] rfl
      have hbad : badF e 5 = if cntP pl then 0 else 2 := by rw [he]; rfl
      have hkeep : keepF e (ok, osy, opr, orc, opl, otx, oer) 5 = (ok, osy, opr, orc, pl, otx, oer) := by rw [he]; rfl
      by_cases hm : (5 : Int) ∈ fieldsK k
      · rw [if_pos hm, hbad, hkeep] at hst
        by_cases hg : cntP pl
        · rw [if_pos hg, if_neg (fun h => h rfl)] at hst
          refine G_seq (G_region ?_)
          refine Gv (V_lss rfl rfl rfl) ?_
          refine G_end (X_then (G_seq ?_))
          refine G_cond_t rfl (by kernel_rfl) ?_
          refine G_skip (X_then (G_seq (G_block (G_seq (G_region ?_)))))
          refine Gv (V_idxAddr rfl rfl rfl (SlE.rd (by assumption)) (by omega) (by omega)) ?_
          refine Gv (V_loadS rfl rfl (SlE.rd (by assumption)) (by assumption) (by simp)) ?_
          refine Ga ?_
          refine G_end (X_then (G_seq (G_seq (G_region ?_))))
          refine Gm ?_
          refine Gm ?_
          refine G_callv (k := 35) (.mk rfl rfl rfl rfl) rfl rfl (.none rfl) (ContainsI_call _ _ _ _ _ _ (by assumption) (by omega) _) ?_
          refine Gv (V_not rfl rfl) ?_
          refine G_end (X_then ?_)
          refine G_cond_f rfl (by simp [*]; done) ?_
          refine G_skip (X_then (G_seq (G_region ?_)))
          refine Gm ?_
          refine G_end (X_then (G_block (G_seq (G_region ?_))))
          refine Gv (V_eql rfl rfl rfl) ?_
          refine Ga ?_
          refine G_end (X_then ?_)
          refine G_cond_f rfl (by kernel_rfl) ?_
          refine G_seq (G_region ?_)
          refine Gv (V_eql rfl rfl rfl) ?_
          refine Ga ?_
          refine G_end (X_then ?_)
          refine G_cond_t rfl (by kernel_rfl) ?_
          refine G_seq (G_seq (G_region ?_))
          refine Gv (V_fieldAddr rfl rfl (by decide)) ?_
          refine Gv (V_load rfl rfl (Cell.own (.tail _ (.head _)) rfl)) ?_
          refine G_callv (k := 36) (.mk rfl rfl rfl rfl) rfl rfl (.none rfl) (counted_call _ _ _) ?_
          refine Gv (V_not rfl rfl) ?_
          refine G_end (X_then ?_)
          refine G_cond_f rfl (by simp [*]; done) ?_
          refine G_skip (X_then (G_region ?_))
          refine Gv (V_fieldAddr rfl rfl (by decide)) ?_
          refine Gv (V_load rfl rfl (Cell.own (.tail _ (.head _)) rfl)) ?_
          refine Gv (V_fieldAddr rfl rfl (by decide)) ?_
          refine G_storeAt rfl rfl rfl rfl rfl rfl (.none rfl) (.head _ _ _) (Nat.le_of_ble_eq_true rfl) (by simp only [putAll, Nat.zero_add, Nat.reduceAdd, List.setIfInBounds_toArray, List.set_cons_succ, List.set_cons_zero]; rfl) ?_
          refine G_end (X_block (X_block (X_then (G_region ?_))))
          refine Gv (V_add_i64 rfl rfl rfl (by omega) (by omega)) ?_
          refine Gm ?_
          refine G_end (X_then ?_)
          exact G_again (2, (ok, osy, opr, orc, pl, otx, oer)) ⟨by omega, hst⟩ (by simp only; omega) ⟨rfl, rfl, rfl, rfl, rfl, rfl, trivial⟩ rfl rfl
        · rw [if_neg hg, if_pos (by decide)] at hst
          rw [hst]
          refine G_seq (G_region ?_)
          refine Gv (V_lss rfl rfl rfl) ?_
          refine G_end (X_then (G_seq ?_))
          refine G_cond_t rfl (by kernel_rfl) ?_
          refine G_skip (X_then (G_seq (G_block (G_seq (G_region ?_)))))
          refine Gv (V_idxAddr rfl rfl rfl (SlE.rd (by assumption)) (by omega) (by omega)) ?_
          refine Gv (V_loadS rfl rfl (SlE.rd (by assumption)) (by assumption) (by simp)) ?_
          refine Ga ?_
          refine G_end (X_then (G_seq (G_seq (G_region ?_))))
          refine Gm ?_
          refine Gm ?_
          refine G_callv (k := 35) (.mk rfl rfl rfl rfl) rfl rfl (.none rfl) (ContainsI_call _ _ _ _ _ _ (by assumption) (by omega) _) ?_
          refine Gv (V_not rfl rfl) ?_
          refine G_end (X_then ?_)
          refine G_cond_f rfl (by simp [*]; done) ?_
          refine G_skip (X_then (G_seq (G_region ?_)))
          refine Gm ?_
          refine G_end (X_then (G_block (G_seq (G_region ?_))))
          refine Gv (V_eql rfl rfl rfl) ?_
          refine Ga ?_
          refine G_end (X_then ?_)
          refine G_cond_f rfl (by kernel_rfl) ?_
          refine G_seq (G_region ?_)
          refine Gv (V_eql rfl rfl rfl) ?_
          refine Ga ?_
          refine G_end (X_then ?_)
          refine G_cond_t rfl (by kernel_rfl) ?_
          refine G_seq (G_seq (G_region ?_))
          refine Gv (V_fieldAddr rfl rfl (by decide)) ?_
          refine Gv (V_load rfl rfl (Cell.own (.tail _ (.head _)) rfl)) ?_
          refine G_callv (k := 36) (.mk rfl rfl rfl rfl) rfl rfl (.none rfl) (counted_call _ _ _) ?_
          refine Gv (V_not rfl rfl) ?_
          refine G_end (X_then ?_)
          refine G_cond_t rfl (by simp [*]; done) ?_
          refine G_seq (G_region ?_)
          refine Ga ?_
          refine G_end (X_then (G_ret (X_then_ret (X_block_ret (X_block_ret (X_then_ret (X_then_ret (X_block_ret (X_then_ret ?_)))))))))
          refine X_ng_ret ?_
          refine G_leaveS (.drop _ (.drop _ (.nil _))) (by exact (.cons (.tmp rfl) (.nil))) rfl ?_ ?_
          · exact (hE1.trans hE2)
          exact ⟨(by kernel_rfl), rfl⟩
      · rw [if_neg hm] at hst
        refine G_seq (G_region ?_)
        refine Gv (V_lss rfl rfl rfl) ?_
        refine G_end (X_then (G_seq ?_))
        refine G_cond_t rfl (by kernel_rfl) ?_
        refine G_skip (X_then (G_seq (G_block (G_seq (G_region ?_)))))
        refine Gv (V_idxAddr rfl rfl rfl (SlE.rd (by assumption)) (by omega) (by omega)) ?_
        refine Gv (V_loadS rfl rfl (SlE.rd (by assumption)) (by assumption) (by simp)) ?_
        refine Ga ?_
        refine G_end (X_then (G_seq (G_seq (G_region ?_))))
        refine Gm ?_
        refine Gm ?_
        refine G_callv (k := 35) (.mk rfl rfl rfl rfl) rfl rfl (.none rfl) (ContainsI_call _ _ _ _ _ _ (by assumption) (by omega) _) ?_
        refine Gv (V_not rfl rfl) ?_
        refine G_end (X_then ?_)
        refine G_cond_t rfl (by simp [*]; done) ?_
        refine G_exit (X_then_exit (X_block_hit (X_then (G_region ?_))))
        refine Gv (V_add_i64 rfl rfl rfl (by omega) (by omega)) ?_
        refine Gm ?_
        refine G_end (X_then ?_)
        exact G_again (2, ok, osy, opr, orc, opl, otx, oer) ⟨by omega, hst⟩ (by simp only; omega) ⟨rfl, rfl, rfl, rfl, rfl, rfl, trivial⟩ rfl rfl
    · have hx : (i64s ordF)[((2 : Nat) : Int).toNat * 1]? = some (.int .i64 1) := rfl
      have hst := hstep 1 [2, 3, 4] rfl
      have hbad : badF e 1 = if symP (k, sy, pr, rc, pl, tx, er) = true then 0 else 14 := by rw [he]; rfl
      have hkeep : keepF e (ok, osy, opr, orc, opl, otx, oer) 1 = (ok, sy, opr, orc, opl, otx, oer) := by rw [he]; rfl
      by_cases hm : (1 : Int) ∈ fieldsK k
      · rw [if_pos hm, hbad, hkeep] at hst
        by_cases hg : symP (k, sy, pr, rc, pl, tx, er) = true
        · rw [if_pos hg, if_neg (fun h => h rfl)] at hst
          refine G_seq (G_region ?_)
          refine Gv (V_lss rfl rfl rfl) ?_
          refine G_end (X_then (G_seq ?_))
          refine G_cond_t rfl (by kernel_rfl) ?_
          refine G_skip (X_then (G_seq (G_block (G_seq (G_region ?_)))))
          refine Gv (V_idxAddr rfl rfl rfl (SlE.rd (by assumption)) (by omega) (by omega)) ?_
          refine Gv (V_loadS rfl rfl (SlE.rd (by assumption)) (by assumption) (by simp)) ?_
          refine Ga ?_
          refine G_end (X_then (G_seq (G_seq (G_region ?_))))
          refine Gm ?_
          refine Gm ?_
          refine G_callv (k := 35) (.mk rfl rfl rfl rfl) rfl rfl (.none rfl) (ContainsI_call _ _ _ _ _ _ (by assumption) (by omega) _) ?_
          refine Gv (V_not rfl rfl) ?_
          refine G_end (X_then ?_)
          refine G_cond_f rfl (by simp [*]; done) ?_
          refine G_skip (X_then (G_seq (G_region ?_)))
          refine Gm ?_
          refine G_end (X_then (G_block (G_seq (G_region ?_))))
          refine Gv (V_eql rfl rfl rfl) ?_
          refine Ga ?_
          refine G_end (X_then ?_)
          refine G_cond_f rfl (by kernel_rfl) ?_
          refine G_seq (G_region ?_)
          refine Gv (V_eql rfl rfl rfl) ?_
          refine Ga ?_
          refine G_end (X_then ?_)
          refine G_cond_f rfl (by kernel_rfl) ?_
          refine G_seq (G_region ?_)
          refine Gv (V_eql rfl rfl rfl) ?_
          refine Ga ?_
          refine G_end (X_then ?_)
          refine G_cond_t rfl (by kernel_rfl) ?_
          refine G_seq (G_seq (G_region ?_))
          refine Gv (V_loadA rfl rfl (Cells.own (.tail _ (.head _))) rfl) ?_
          refine G_callv (k := 37) (.mk rfl rfl rfl rfl) rfl rfl (.none rfl) (symbol_call _ _ _ _ _ _ _ _ _) ?_
          refine Gv (V_not rfl rfl) ?_
          refine G_end (X_then ?_)
          refine G_cond_f rfl (by simp [*]; done) ?_
          refine G_skip (X_then (G_region ?_))
          refine Gv (V_fieldAddr rfl rfl (by decide)) ?_
          refine Gv (V_load rfl rfl (Cell.own (.tail _ (.head _)) rfl)) ?_
          refine Gv (V_fieldAddr rfl rfl (by decide)) ?_
          refine G_storeAt rfl rfl rfl rfl rfl rfl (.none rfl) (.head _ _ _) (Nat.le_of_ble_eq_true rfl) (by simp only [putAll, Nat.zero_add, Nat.reduceAdd, List.setIfInBounds_toArray, List.set_cons_succ, List.set_cons_zero]; rfl) ?_
          refine G_end (X_block (X_block (X_then (G_region ?_))))
          refine Gv (V_add_i64 rfl rfl rfl (by omega) (by omega)) ?_
          refine Gm ?_
          refine G_end (X_then ?_)
          exact G_again (3, (ok, sy, opr, orc, opl, otx, oer)) ⟨by omega, hst⟩ (by simp only; omega) ⟨rfl, rfl, rfl, rfl, rfl, rfl, trivial⟩ rfl rfl
        · rw [if_neg hg, if_pos (by decide)] at hst
          rw [hst]
          refine G_seq (G_region ?_)
          refine Gv (V_lss rfl rfl rfl) ?_
          refine G_end (X_then (G_seq ?_))
          refine G_cond_t rfl (by kernel_rfl) ?_
          refine G_skip (X_then (G_seq (G_block (G_seq (G_region ?_)))))
          refine Gv (V_idxAddr rfl rfl rfl (SlE.rd (by assumption)) (by omega) (by omega)) ?_
          refine Gv (V_loadS rfl rfl (SlE.rd (by assumption)) (by assumption) (by simp)) ?_
          refine Ga ?_
          refine G_end (X_then (G_seq (G_seq (G_region ?_))))
          refine Gm ?_
          refine Gm ?_
          refine G_callv (k := 35) (.mk rfl rfl rfl rfl) rfl rfl (.none rfl) (ContainsI_call _ _ _ _ _ _ (by assumption) (by omega) _) ?_
          refine Gv (V_not rfl rfl) ?_
          refine G_end (X_then ?_)
          refine G_cond_f rfl (by simp [*]; done) ?_
          refine G_skip (X_then (G_seq (G_region ?_)))
          refine Gm ?_
          refine G_end (X_then (G_block (G_seq (G_region ?_))))
          refine Gv (V_eql rfl rfl rfl) ?_
          refine Ga ?_
          refine G_end (X_then ?_)
          refine G_cond_f rfl (by kernel_rfl) ?_
          refine G_seq (G_region ?_)
          refine Gv (V_eql rfl rfl rfl) ?_
          refine Ga ?_
          refine G_end (X_then ?_)
          refine G_cond_f rfl (by kernel_rfl) ?_
          refine G_seq (G_region ?_)
          refine Gv (V_eql rfl rfl rfl) ?_
          refine Ga ?_
          refine G_end (X_then ?_)
          refine G_cond_t rfl (by kernel_rfl) ?_
          refine G_seq (G_seq (G_region ?_))
          refine Gv (V_loadA rfl rfl (Cells.own (.tail _ (.head _))) rfl) ?_
          refine G_callv (k := 37) (.mk rfl rfl rfl rfl) rfl rfl (.none rfl) (symbol_call _ _ _ _ _ _ _ _ _) ?_
          refine Gv (V_not rfl rfl) ?_
          refine G_end (X_then ?_)
          refine G_cond_t rfl (by simp [*]; done) ?_
          refine G_seq (G_region ?_)
          refine Ga ?_
          refine G_end (X_then (G_ret (X_then_ret (X_block_ret (X_block_ret (X_then_ret (X_then_ret (X_block_ret (X_then_ret ?_)))))))))
          refine X_ng_ret ?_
          refine G_leaveS (.drop _ (.drop _ (.nil _))) (by exact (.cons (.tmp rfl) (.nil))) rfl ?_ ?_
          · exact (hE1.trans hE2)
          exact ⟨(by kernel_rfl), rfl⟩
      · rw [if_neg hm] at hst
        refine G_seq (G_region ?_)
        refine Gv (V_lss rfl rfl rfl) ?_
        refine G_end (X_then (G_seq ?_))
        refine G_cond_t rfl (by kernel_rfl) ?_
        refine G_skip (X_then (G_seq (G_block (G_seq (G_region ?_)))))
        refine Gv (V_idxAddr rfl rfl rfl (SlE.rd (by assumption)) (by omega) (by omega)) ?_
        refine Gv (V_loadS rfl rfl (SlE.rd (by assumption)) (by assumption) (by simp)) ?_
        refine Ga ?_
        refine G_end (X_then (G_seq (G_seq (G_region ?_))))
        refine Gm ?_
        refine Gm ?_
        refine G_callv (k := 35) (.mk rfl rfl rfl rfl) rfl rfl (.none rfl) (ContainsI_call _ _ _ _ _ _ (by assumption) (by omega) _) ?_
        refine Gv (V_not rfl rfl) ?_
        refine G_end (X_then ?_)
        refine G_cond_t rfl (by simp [*]; done) ?_
        refine G_exit (X_then_exit (X_block_hit (X_then (G_region ?_))))
        refine Gv (V_add_i64 rfl rfl rfl (by omega) (by omega)) ?_
        refine Gm ?_
        refine G_end (X_then ?_)
        exact G_again (3, ok, osy, opr, orc, opl, otx, oer) ⟨by omega, hst⟩ (by simp only; omega) ⟨rfl, rfl, rfl, rfl, rfl, rfl, trivial⟩ rfl rfl
    · have hx : (i64s ordF)[((3 : Nat) : Int).toNat * 1]? = some (.int .i64 2) := rfl
      have hst := hstep 2 [3, 4] rfl
      have hbad : badF e 2 = if 0 ≤ pr ∧ pr < 24 then 0 else 2 := by rw [he]; rfl
      have hkeep : keepF e (ok, osy, opr, orc, opl, otx, oer) 2 = (ok, osy, pr, orc, opl, otx, oer) := by rw [he]; rfl
      by_cases hm : (2 : Int) ∈ fieldsK k
      · rw [if_pos hm, hbad, hkeep] at hst
        by_cases hg : 0 ≤ pr ∧ pr < 24
        · rw [if_pos hg, if_neg (fun h => h rfl)] at hst
          refine G_seq (G_region ?_)
          refine Gv (V_lss rfl rfl rfl) ?_
          refine G_end (X_then (G_seq ?_))
          refine G_cond_t rfl (by kernel_rfl) ?_
          refine G_skip (X_then (G_seq (G_block (G_seq (G_region ?_)))))
          refine Gv (V_idxAddr rfl rfl rfl (SlE.rd (by assumption)) (by omega) (by omega)) ?_
          refine Gv (V_loadS rfl rfl (SlE.rd (by assumption)) (by assumption) (by simp)) ?_
          refine Ga ?_
          refine G_end (X_then (G_seq (G_seq (G_region ?_))))
          refine Gm ?_
          refine Gm ?_
          refine G_callv (k := 35) (.mk rfl rfl rfl rfl) rfl rfl (.none rfl) (ContainsI_call _ _ _ _ _ _ (by assumption) (by omega) _) ?_
          refine Gv (V_not rfl rfl) ?_
          refine G_end (X_then ?_)
          refine G_cond_f rfl (by simp [*]; done) ?_
          refine G_skip (X_then (G_seq (G_region ?_)))
          refine Gm ?_
          refine G_end (X_then (G_block (G_seq (G_region ?_))))
          refine Gv (V_eql rfl rfl rfl) ?_
          refine Ga ?_
          refine G_end (X_then ?_)
          refine G_cond_f rfl (by kernel_rfl) ?_
          refine G_seq (G_region ?_)
          refine Gv (V_eql rfl rfl rfl) ?_
          refine Ga ?_
          refine G_end (X_then ?_)
          refine G_cond_f rfl (by kernel_rfl) ?_
          refine G_seq (G_region ?_)
          refine Gv (V_eql rfl rfl rfl) ?_
          refine Ga ?_
          refine G_end (X_then ?_)
          refine G_cond_f rfl (by kernel_rfl) ?_
          refine G_seq (G_region ?_)
          refine Gv (V_eql rfl rfl rfl) ?_
          refine Ga ?_
          refine G_end (X_then ?_)
          refine G_cond_t rfl (by kernel_rfl) ?_
          refine G_seq (G_seq (G_region ?_))
          refine Gv (V_fieldAddr rfl rfl (by decide)) ?_
          refine Gv (V_load rfl rfl (Cell.own (.tail _ (.head _)) rfl)) ?_
          refine Gv (V_lss rfl rfl rfl) ?_
          refine Gm ?_
          refine G.bool_f 57 rfl (decide_eq_false (by omega)) ?_
          refine Gy (V_fieldAddr rfl rfl (by decide)) ?_
          refine Gy (V_load rfl rfl (Cell.own (.tail _ (.head _)) rfl)) ?_
          refine Gy (V_geq rfl rfl rfl) ?_
          refine Gv (V_pick_f rfl rfl rfl) ?_
          refine G_end (X_then ?_)
          refine G_cond_f rfl (decide_eq_false (by omega)) ?_
          refine G_skip (X_then (G_region ?_))
          refine Gv (V_fieldAddr rfl rfl (by decide)) ?_
          refine Gv (V_load rfl rfl (Cell.own (.tail _ (.head _)) rfl)) ?_
          refine Gv (V_fieldAddr rfl rfl (by decide)) ?_
          refine G_storeAt rfl rfl rfl rfl rfl rfl (.none rfl) (.head _ _ _) (Nat.le_of_ble_eq_true rfl) (by simp only [putAll, Nat.zero_add, Nat.reduceAdd, List.setIfInBounds_toArray, List.set_cons_succ, List.set_cons_zero]; rfl) ?_
          refine G_end (X_block (X_block (X_then (G_region ?_))))
          refine Gv (V_add_i64 rfl rfl rfl (by omega) (by omega)) ?_
          refine Gm ?_
          refine G_end (X_then ?_)
          exact G_again (4, (ok, osy, pr, orc, opl, otx, oer)) ⟨by omega, hst⟩ (by simp only; omega) ⟨rfl, rfl, rfl, rfl, rfl, rfl, trivial⟩ rfl rfl
        · rw [if_neg hg, if_pos (by decide)] at hst
          rw [hst]
          by_cases hlo : pr < 0
          · refine G_seq ?_
            refine G_region ?_
            refine Gv (V_lss rfl rfl rfl) ?_
            refine G_end (X_then (G_seq ?_))
            refine G_cond_t rfl (by kernel_rfl) ?_
            refine G_skip (X_then (G_seq (G_block (G_seq (G_region ?_)))))
            refine Gv (V_idxAddr rfl rfl rfl (SlE.rd (by assumption)) (by omega) (by omega)) ?_
            refine Gv (V_loadS rfl rfl (SlE.rd (by assumption)) (by assumption) (by simp)) ?_
            refine Ga ?_
            refine G_end (X_then (G_seq (G_seq (G_region ?_))))
            refine Gm ?_
            refine Gm ?_
            refine G_callv (k := 35) (.mk rfl rfl rfl rfl) rfl rfl (.none rfl) (ContainsI_call _ _ _ _ _ _ (by assumption) (by omega) _) ?_
            refine Gv (V_not rfl rfl) ?_
            refine G_end (X_then ?_)
            refine G_cond_f rfl (by simp [*]; done) ?_
            refine G_skip (X_then (G_seq (G_region ?_)))
            refine Gm ?_
            refine G_end (X_then (G_block (G_seq (G_region ?_))))
            refine Gv (V_eql rfl rfl rfl) ?_
            refine Ga ?_
            refine G_end (X_then ?_)
            refine G_cond_f rfl (by kernel_rfl) ?_
            refine G_seq (G_region ?_)
            refine Gv (V_eql rfl rfl rfl) ?_
            refine Ga ?_
            refine G_end (X_then ?_)
            refine G_cond_f rfl (by kernel_rfl) ?_
            refine G_seq (G_region ?_)
            refine Gv (V_eql rfl rfl rfl) ?_
            refine Ga ?_
            refine G_end (X_then ?_)
            refine G_cond_f rfl (by kernel_rfl) ?_
            refine G_seq (G_region ?_)
            refine Gv (V_eql rfl rfl rfl) ?_
            refine Ga ?_
            refine G_end (X_then ?_)
            refine G_cond_t rfl (by kernel_rfl) ?_
            refine G_seq (G_seq (G_region ?_))
            refine Gv (V_fieldAddr rfl rfl (by decide)) ?_
            refine Gv (V_load rfl rfl (Cell.own (.tail _ (.head _)) rfl)) ?_
            refine Gv (V_lss rfl rfl rfl) ?_
            refine Gm ?_
            refine G.bool_t 57 rfl (decide_eq_true (by omega)) ?_
            refine Gn ?_
            refine Gn ?_
            refine Gn ?_
            refine Gv (V_pick_t rfl rfl rfl) ?_
            refine G_end (X_then ?_)
            refine G_cond_t rfl rfl ?_
            refine G_seq (G_region ?_)
            refine Ga ?_
            refine G_end (X_then (G_ret (X_then_ret (X_block_ret (X_block_ret (X_then_ret (X_then_ret (X_block_ret (X_then_ret ?_)))))))))
            refine X_ng_ret ?_
            refine G_leaveS (.drop _ (.drop _ (.nil _))) (by exact (.cons (.tmp rfl) (.nil))) rfl ?_ ?_
            · exact (hE1.trans hE2)
            exact ⟨(by kernel_rfl), rfl⟩
          · refine G_seq ?_
            refine G_region ?_
            refine Gv (V_lss rfl rfl rfl) ?_
            refine G_end (X_then (G_seq ?_))
            refine G_cond_t rfl (by kernel_rfl) ?_
            refine G_skip (X_then (G_seq (G_block (G_seq (G_region ?_)))))
            refine Gv (V_idxAddr rfl rfl rfl (SlE.rd (by assumption)) (by omega) (by omega)) ?_
            refine Gv (V_loadS rfl rfl (SlE.rd (by assumption)) (by assumption) (by simp)) ?_
            refine Ga ?_
            refine G_end (X_then (G_seq (G_seq (G_region ?_))))
            refine Gm ?_
            refine Gm ?_
            refine G_callv (k := 35) (.mk rfl rfl rfl rfl) rfl rfl (.none rfl) (ContainsI_call _ _ _ _ _ _ (by assumption) (by omega) _) ?_
            refine Gv (V_not rfl rfl) ?_
            refine G_end (X_then ?_)
            refine G_cond_f rfl (by simp [*]; done) ?_
            refine G_skip (X_then (G_seq (G_region ?_)))
            refine Gm ?_
            refine G_end (X_then (G_block (G_seq (G_region ?_))))
            refine Gv (V_eql rfl rfl rfl) ?_
            refine Ga ?_
            refine G_end (X_then ?_)
            refine G_cond_f rfl (by kernel_rfl) ?_
            refine G_seq (G_region ?_)
            refine Gv (V_eql rfl rfl rfl) ?_
            refine Ga ?_
            refine G_end (X_then ?_)
            refine G_cond_f rfl (by kernel_rfl) ?_
            refine G_seq (G_region ?_)
            refine Gv (V_eql rfl rfl rfl) ?_
            refine Ga ?_
            refine G_end (X_then ?_)
            refine G_cond_f rfl (by kernel_rfl) ?_
            refine G_seq (G_region ?_)
            refine Gv (V_eql rfl rfl rfl) ?_
            refine Ga ?_
            refine G_end (X_then ?_)
            refine G_cond_t rfl (by kernel_rfl) ?_
            refine G_seq (G_seq (G_region ?_))
            refine Gv (V_fieldAddr rfl rfl (by decide)) ?_
            refine Gv (V_load rfl rfl (Cell.own (.tail _ (.head _)) rfl)) ?_
            refine Gv (V_lss rfl rfl rfl) ?_
            refine Gm ?_
            refine G.bool_f 57 rfl (decide_eq_false (by omega)) ?_
            refine Gy (V_fieldAddr rfl rfl (by decide)) ?_
            refine Gy (V_load rfl rfl (Cell.own (.tail _ (.head _)) rfl)) ?_
            refine Gy (V_geq rfl rfl rfl) ?_
            refine Gv (V_pick_f rfl rfl rfl) ?_
            refine G_end (X_then ?_)
            refine G_cond_t rfl (decide_eq_true (by omega)) ?_
            refine G_seq (G_region ?_)
            refine Ga ?_
            refine G_end (X_then (G_ret (X_then_ret (X_block_ret (X_block_ret (X_then_ret (X_then_ret (X_block_ret (X_then_ret ?_)))))))))
            refine X_ng_ret ?_
            refine G_leaveS (.drop _ (.drop _ (.nil _))) (by exact (.cons (.tmp rfl) (.nil))) rfl ?_ ?_
            · exact (hE1.trans hE2)
            exact ⟨(by kernel_rfl), rfl⟩
      · rw [if_neg hm] at hst
        refine G_seq (G_region ?_)
        refine Gv (V_lss rfl rfl rfl) ?_
        refine G_end (X_then (G_seq ?_))
        refine G_cond_t rfl (by kernel_rfl) ?_
        refine G_skip (X_then (G_seq (G_block (G_seq (G_region ?_)))))
        refine Gv (V_idxAddr rfl rfl rfl (SlE.rd (by assumption)) (by omega) (by omega)) ?_
        refine Gv (V_loadS rfl rfl (SlE.rd (by assumption)) (by assumption) (by simp)) ?_
        refine Ga ?_
        refine G_end (X_then (G_seq (G_seq (G_region ?_))))
        refine Gm ?_
        refine Gm ?_
        refine G_callv (k := 35) (.mk rfl rfl rfl rfl) rfl rfl (.none rfl) (ContainsI_call _ _ _ _ _ _ (by assumption) (by omega) _) ?_
        refine Gv (V_not rfl rfl) ?_
        refine G_end (X_then ?_)
        refine G_cond_t rfl (by simp [*]; done) ?_
        refine G_exit (X_then_exit (X_block_hit (X_then (G_region ?_))))
        refine Gv (V_add_i64 rfl rfl rfl (by omega) (by omega)) ?_
        refine Gm ?_
        refine G_end (X_then ?_)
        exact G_again (4, ok, osy, opr, orc, opl, otx, oer) ⟨by omega, hst⟩ (by simp only; omega) ⟨rfl, rfl, rfl, rfl, rfl, rfl, trivial⟩ rfl rfl
    · have hx : (i64s ordF)[((4 : Nat) : Int).toNat * 1]? = some (.int .i64 3) := rfl
      have hst := hstep 3 [4] rfl
      have hbad : badF e 3 = if tx.length ≤ 24 then 0 else 4 := by rw [he]; rfl
      have hkeep : keepF e (ok, osy, opr, orc, opl, otx, oer) 3 = (ok, osy, opr, orc, opl, tx, oer) := by rw [he]; rfl
      by_cases hm : (3 : Int) ∈ fieldsK k
      · rw [if_pos hm, hbad, hkeep] at hst
        by_cases hg : tx.length ≤ 24
        · rw [if_pos hg, if_neg (fun h => h rfl)] at hst
          refine G_seq (G_region ?_)
          refine Gv (V_lss rfl rfl rfl) ?_
          refine G_end (X_then (G_seq ?_))
          refine G_cond_t rfl (by kernel_rfl) ?_
          refine G_skip (X_then (G_seq (G_block (G_seq (G_region ?_)))))
          refine Gv (V_idxAddr rfl rfl rfl (SlE.rd (by assumption)) (by omega) (by omega)) ?_
          refine Gv (V_loadS rfl rfl (SlE.rd (by assumption)) (by assumption) (by simp)) ?_
          refine Ga ?_
          refine G_end (X_then (G_seq (G_seq (G_region ?_))))
          refine Gm ?_
          refine Gm ?_
          refine G_callv (k := 35) (.mk rfl rfl rfl rfl) rfl rfl (.none rfl) (ContainsI_call _ _ _ _ _ _ (by assumption) (by omega) _) ?_
          refine Gv (V_not rfl rfl) ?_
          refine G_end (X_then ?_)
          refine G_cond_f rfl (by simp [*]; done) ?_
          refine G_skip (X_then (G_seq (G_region ?_)))
          refine Gm ?_
          refine G_end (X_then (G_block (G_seq (G_region ?_))))
          refine Gv (V_eql rfl rfl rfl) ?_
          refine Ga ?_
          refine G_end (X_then ?_)
          refine G_cond_f rfl (by kernel_rfl) ?_
          refine G_seq (G_region ?_)
          refine Gv (V_eql rfl rfl rfl) ?_
          refine Ga ?_
          refine G_end (X_then ?_)
          refine G_cond_f rfl (by kernel_rfl) ?_
          refine G_seq (G_region ?_)
          refine Gv (V_eql rfl rfl rfl) ?_
          refine Ga ?_
          refine G_end (X_then ?_)
          refine G_cond_f rfl (by kernel_rfl) ?_
          refine G_seq (G_region ?_)
          refine Gv (V_eql rfl rfl rfl) ?_
          refine Ga ?_
          refine G_end (X_then ?_)
          refine G_cond_f rfl (by kernel_rfl) ?_
          refine G_seq (G_region ?_)
          refine Gv (V_eql rfl rfl rfl) ?_
          refine Ga ?_
          refine G_end (X_then ?_)
          refine G_cond_t rfl (by kernel_rfl) ?_
          refine G_seq (G_seq (G_region ?_))
          refine Gv (V_fieldAddr rfl rfl (by decide)) ?_
          refine Gv (V_load rfl rfl (Cell.own (.tail _ (.head _)) rfl)) ?_
          refine Gv (V_len rfl rfl) ?_
          refine Gv (V_gtr rfl rfl rfl) ?_
          refine G_end (X_then ?_)
          refine G_cond_f rfl (decide_eq_false (by omega)) ?_
          refine G_skip (X_then (G_region ?_))
          refine Gv (V_fieldAddr rfl rfl (by decide)) ?_
          refine Gv (V_load rfl rfl (Cell.own (.tail _ (.head _)) rfl)) ?_
          refine Gv (V_fieldAddr rfl rfl (by decide)) ?_
          refine G_storeAt rfl rfl rfl rfl rfl rfl (.none rfl) (.head _ _ _) (Nat.le_of_ble_eq_true rfl) (by simp only [putAll, Nat.zero_add, Nat.reduceAdd, List.setIfInBounds_toArray, List.set_cons_succ, List.set_cons_zero]; rfl) ?_
          refine G_end (X_block (X_block (X_then (G_region ?_))))
          refine Gv (V_add_i64 rfl rfl rfl (by omega) (by omega)) ?_
          refine Gm ?_
          refine G_end (X_then ?_)
          exact G_again (5, (ok, osy, opr, orc, opl, tx, oer)) ⟨by omega, hst⟩ (by simp only; omega) ⟨rfl, rfl, rfl, rfl, rfl, rfl, trivial⟩ rfl rfl
        · rw [if_neg hg, if_pos (by decide)] at hst
          rw [hst]
          refine G_seq (G_region ?_)
          refine Gv (V_lss rfl rfl rfl) ?_
          refine G_end (X_then (G_seq ?_))
          refine G_cond_t rfl (by kernel_rfl) ?_
          refine G_skip (X_then (G_seq (G_block (G_seq (G_region ?_)))))
          refine Gv (V_idxAddr rfl rfl rfl (SlE.rd (by assumption)) (by omega) (by omega)) ?_
          refine Gv (V_loadS rfl rfl (SlE.rd (by assumption)) (by assumption) (by simp)) ?_
          refine Ga ?_
          refine G_end (X_then (G_seq (G_seq (G_region ?_))))
          refine Gm ?_
          refine Gm ?_
          refine G_callv (k := 35) (.mk rfl rfl rfl rfl) rfl rfl (.none rfl) (ContainsI_call _ _ _ _ _ _ (by assumption) (by omega) _) ?_
          refine Gv (V_not rfl rfl) ?_
          refine G_end (X_then ?_)
          refine G_cond_f rfl (by simp [*]; done) ?_
          refine G_skip (X_then (G_seq (G_region ?_)))
          refine Gm ?_
          refine G_end (X_then (G_block (G_seq (G_region ?_))))
          refine Gv (V_eql rfl rfl rfl) ?_
          refine Ga ?_
          refine G_end (X_then ?_)
          refine G_cond_f rfl (by kernel_rfl) ?_
          refine G_seq (G_region ?_)
          refine Gv (V_eql rfl rfl rfl) ?_
          refine Ga ?_
          refine G_end (X_then ?_)
          refine G_cond_f rfl (by kernel_rfl) ?_
          refine G_seq (G_region ?_)
          refine Gv (V_eql rfl rfl rfl) ?_
          refine Ga ?_
          refine G_end (X_then ?_)
          refine G_cond_f rfl (by kernel_rfl) ?_
          refine G_seq (G_region ?_)
          refine Gv (V_eql rfl rfl rfl) ?_
          refine Ga ?_
          refine G_end (X_then ?_)
          refine G_cond_f rfl (by kernel_rfl) ?_
          refine G_seq (G_region ?_)
          refine Gv (V_eql rfl rfl rfl) ?_
          refine Ga ?_
          refine G_end (X_then ?_)
          refine G_cond_t rfl (by kernel_rfl) ?_
          refine G_seq (G_seq (G_region ?_))
          refine Gv (V_fieldAddr rfl rfl (by decide)) ?_
          refine Gv (V_load rfl rfl (Cell.own (.tail _ (.head _)) rfl)) ?_
          refine Gv (V_len rfl rfl) ?_
          refine Gv (V_gtr rfl rfl rfl) ?_
          refine G_end (X_then ?_)
          refine G_cond_t rfl (decide_eq_true (by omega)) ?_
          refine G_seq (G_region ?_)
          refine Ga ?_
          refine G_end (X_then (G_ret (X_then_ret (X_block_ret (X_block_ret (X_then_ret (X_then_ret (X_block_ret (X_then_ret ?_)))))))))
          refine X_ng_ret ?_
          refine G_leaveS (.drop _ (.drop _ (.nil _))) (by exact (.cons (.tmp rfl) (.nil))) rfl ?_ ?_
          · exact (hE1.trans hE2)
          exact ⟨(by kernel_rfl), rfl⟩
      · rw [if_neg hm] at hst
        refine G_seq (G_region ?_)
        refine Gv (V_lss rfl rfl rfl) ?_
        refine G_end (X_then (G_seq ?_))
        refine G_cond_t rfl (by kernel_rfl) ?_
        refine G_skip (X_then (G_seq (G_block (G_seq (G_region ?_)))))
        refine Gv (V_idxAddr rfl rfl rfl (SlE.rd (by assumption)) (by omega) (by omega)) ?_
        refine Gv (V_loadS rfl rfl (SlE.rd (by assumption)) (by assumption) (by simp)) ?_
        refine Ga ?_
        refine G_end (X_then (G_seq (G_seq (G_region ?_))))
        refine Gm ?_
        refine Gm ?_
        refine G_callv (k := 35) (.mk rfl rfl rfl rfl) rfl rfl (.none rfl) (ContainsI_call _ _ _ _ _ _ (by assumption) (by omega) _) ?_
        refine Gv (V_not rfl rfl) ?_
        refine G_end (X_then ?_)
        refine G_cond_t rfl (by simp [*]; done) ?_
        refine G_exit (X_then_exit (X_block_hit (X_then (G_region ?_))))
        refine Gv (V_add_i64 rfl rfl rfl (by omega) (by omega)) ?_
        refine Gm ?_
        refine G_end (X_then ?_)
        exact G_again (5, ok, osy, opr, orc, opl, otx, oer) ⟨by omega, hst⟩ (by simp only; omega) ⟨rfl, rfl, rfl, rfl, rfl, rfl, trivial⟩ rfl rfl
    · have hx : (i64s ordF)[((5 : Nat) : Int).toNat * 1]? = some (.int .i64 4) := rfl
      have hst := hstep 4 [] rfl
      have hbad : badF e 4 = if errP (k, sy, pr, rc, pl, tx, er) = true then 0 else 11 := by rw [he]; rfl
      have hkeep : keepF e (ok, osy, opr, orc, opl, otx, oer) 4 = (ok, osy, opr, orc, opl, otx, er) := by rw [he]; rfl
      by_cases hm : (4 : Int) ∈ fieldsK k
      · rw [if_pos hm, hbad, hkeep] at hst
        by_cases hg : errP (k, sy, pr, rc, pl, tx, er) = true
        · rw [if_pos hg, if_neg (fun h => h rfl)] at hst
          refine G_seq (G_region ?_)
          refine Gv (V_lss rfl rfl rfl) ?_
          refine G_end (X_then (G_seq ?_))
          refine G_cond_t rfl (by kernel_rfl) ?_
          refine G_skip (X_then (G_seq (G_block (G_seq (G_region ?_)))))
          refine Gv (V_idxAddr rfl rfl rfl (SlE.rd (by assumption)) (by omega) (by omega)) ?_
          refine Gv (V_loadS rfl rfl (SlE.rd (by assumption)) (by assumption) (by simp)) ?_
          refine Ga ?_
          refine G_end (X_then (G_seq (G_seq (G_region ?_))))
          refine Gm ?_
          refine Gm ?_
          refine G_callv (k := 35) (.mk rfl rfl rfl rfl) rfl rfl (.none rfl) (ContainsI_call _ _ _ _ _ _ (by assumption) (by omega) _) ?_
          refine Gv (V_not rfl rfl) ?_
          refine G_end (X_then ?_)
          refine G_cond_f rfl (by simp [*]; done) ?_
          refine G_skip (X_then (G_seq (G_region ?_)))
          refine Gm ?_
          refine G_end (X_then (G_block (G_seq (G_region ?_))))
          refine Gv (V_eql rfl rfl rfl) ?_
          refine Ga ?_
          refine G_end (X_then ?_)
          refine G_cond_f rfl (by kernel_rfl) ?_
          refine G_seq (G_region ?_)
          refine Gv (V_eql rfl rfl rfl) ?_
          refine Ga ?_
          refine G_end (X_then ?_)
          refine G_cond_f rfl (by kernel_rfl) ?_
          refine G_seq (G_region ?_)
          refine Gv (V_eql rfl rfl rfl) ?_
          refine Ga ?_
          refine G_end (X_then ?_)
          refine G_cond_f rfl (by kernel_rfl) ?_
          refine G_seq (G_region ?_)
          refine Gv (V_eql rfl rfl rfl) ?_
          refine Ga ?_
          refine G_end (X_then ?_)
          refine G_cond_f rfl (by kernel_rfl) ?_
          refine G_seq (G_region ?_)
          refine Gv (V_eql rfl rfl rfl) ?_
          refine Ga ?_
          refine G_end (X_then ?_)
          refine G_cond_f rfl (by kernel_rfl) ?_
          refine G_seq (G_region ?_)
          refine Gv (V_eql rfl rfl rfl) ?_
          refine Ga ?_
          refine G_end (X_then ?_)
          refine G_cond_t rfl (by kernel_rfl) ?_
          refine G_seq (G_seq (G_region ?_))
          refine Gv (V_loadA rfl rfl (Cells.own (.tail _ (.head _))) rfl) ?_
          refine G_callv (k := 38) (.mk rfl rfl rfl rfl) rfl rfl (.none rfl) (reason_call _ _ _ _ _ _ _ _ _) ?_
          refine Gv (V_not rfl rfl) ?_
          refine G_end (X_then ?_)
          refine G_cond_f rfl (by simp [*]; done) ?_
          refine G_skip (X_then (G_region ?_))
          refine Gv (V_fieldAddr rfl rfl (by decide)) ?_
          refine Gv (V_load rfl rfl (Cell.own (.tail _ (.head _)) rfl)) ?_
          refine Gv (V_fieldAddr rfl rfl (by decide)) ?_
          refine G_storeAt rfl rfl rfl rfl rfl rfl (.none rfl) (.head _ _ _) (Nat.le_of_ble_eq_true rfl) (by simp only [putAll, Nat.zero_add, Nat.reduceAdd, List.setIfInBounds_toArray, List.set_cons_succ, List.set_cons_zero]; rfl) ?_
          refine G_end (X_block (X_block (X_then (G_region ?_))))
          refine Gv (V_add_i64 rfl rfl rfl (by omega) (by omega)) ?_
          refine Gm ?_
          refine G_end (X_then ?_)
          exact G_again (6, (ok, osy, opr, orc, opl, otx, er)) ⟨by omega, hst⟩ (by simp only; omega) ⟨rfl, rfl, rfl, rfl, rfl, rfl, trivial⟩ rfl rfl
        · rw [if_neg hg, if_pos (by decide)] at hst
          rw [hst]
          refine G_seq (G_region ?_)
          refine Gv (V_lss rfl rfl rfl) ?_
          refine G_end (X_then (G_seq ?_))
          refine G_cond_t rfl (by kernel_rfl) ?_
          refine G_skip (X_then (G_seq (G_block (G_seq (G_region ?_)))))
          refine Gv (V_idxAddr rfl rfl rfl (SlE.rd (by assumption)) (by omega) (by omega)) ?_
          refine Gv (V_loadS rfl rfl (SlE.rd (by assumption)) (by assumption) (by simp)) ?_
          refine Ga ?_
          refine G_end (X_then (G_seq (G_seq (G_region ?_))))
          refine Gm ?_
          refine Gm ?_
          refine G_callv (k := 35) (.mk rfl rfl rfl rfl) rfl rfl (.none rfl) (ContainsI_call _ _ _ _ _ _ (by assumption) (by omega) _) ?_
          refine Gv (V_not rfl rfl) ?_
          refine G_end (X_then ?_)
          refine G_cond_f rfl (by simp [*]; done) ?_
          refine G_skip (X_then (G_seq (G_region ?_)))
          refine Gm ?_
          refine G_end (X_then (G_block (G_seq (G_region ?_))))
          refine Gv (V_eql rfl rfl rfl) ?_
          refine Ga ?_
          refine G_end (X_then ?_)
          refine G_cond_f rfl (by kernel_rfl) ?_
          refine G_seq (G_region ?_)
          refine Gv (V_eql rfl rfl rfl) ?_
          refine Ga ?_
          refine G_end (X_then ?_)
          refine G_cond_f rfl (by kernel_rfl) ?_
          refine G_seq (G_region ?_)
          refine Gv (V_eql rfl rfl rfl) ?_
          refine Ga ?_
          refine G_end (X_then ?_)
          refine G_cond_f rfl (by kernel_rfl) ?_
          refine G_seq (G_region ?_)
          refine Gv (V_eql rfl rfl rfl) ?_
          refine Ga ?_
          refine G_end (X_then ?_)
          refine G_cond_f rfl (by kernel_rfl) ?_
          refine G_seq (G_region ?_)
          refine Gv (V_eql rfl rfl rfl) ?_
          refine Ga ?_
          refine G_end (X_then ?_)
          refine G_cond_f rfl (by kernel_rfl) ?_
          refine G_seq (G_region ?_)
          refine Gv (V_eql rfl rfl rfl) ?_
          refine Ga ?_
          refine G_end (X_then ?_)
          refine G_cond_t rfl (by kernel_rfl) ?_
          refine G_seq (G_seq (G_region ?_))
          refine Gv (V_loadA rfl rfl (Cells.own (.tail _ (.head _))) rfl) ?_
          refine G_callv (k := 38) (.mk rfl rfl rfl rfl) rfl rfl (.none rfl) (reason_call _ _ _ _ _ _ _ _ _) ?_
          refine Gv (V_not rfl rfl) ?_
          refine G_end (X_then ?_)
          refine G_cond_t rfl (by simp [*]; done) ?_
          refine G_seq (G_region ?_)
          refine Ga ?_
          refine G_end (X_then (G_ret (X_then_ret (X_block_ret (X_block_ret (X_then_ret (X_then_ret (X_block_ret (X_then_ret ?_)))))))))
          refine X_ng_ret ?_
          refine G_leaveS (.drop _ (.drop _ (.nil _))) (by exact (.cons (.tmp rfl) (.nil))) rfl ?_ ?_
          · exact (hE1.trans hE2)
          exact ⟨(by kernel_rfl), rfl⟩
      · rw [if_neg hm] at hst
        refine G_seq (G_region ?_)
        refine Gv (V_lss rfl rfl rfl) ?_
        refine G_end (X_then (G_seq ?_))
        refine G_cond_t rfl (by kernel_rfl) ?_
        refine G_skip (X_then (G_seq (G_block (G_seq (G_region ?_)))))
        refine Gv (V_idxAddr rfl rfl rfl (SlE.rd (by assumption)) (by omega) (by omega)) ?_
        refine Gv (V_loadS rfl rfl (SlE.rd (by assumption)) (by assumption) (by simp)) ?_
        refine Ga ?_
        refine G_end (X_then (G_seq (G_seq (G_region ?_))))
        refine Gm ?_
        refine Gm ?_
        refine G_callv (k := 35) (.mk rfl rfl rfl rfl) rfl rfl (.none rfl) (ContainsI_call _ _ _ _ _ _ (by assumption) (by omega) _) ?_
        refine Gv (V_not rfl rfl) ?_
        refine G_end (X_then ?_)
        refine G_cond_t rfl (by simp [*]; done) ?_
        refine G_exit (X_then_exit (X_block_hit (X_then (G_region ?_))))
        refine Gv (V_add_i64 rfl rfl rfl (by omega) (by omega)) ?_
        refine Gm ?_
        refine G_end (X_then ?_)
        exact G_again (6, ok, osy, opr, orc, opl, otx, oer) ⟨by omega, hst⟩ (by simp only; omega) ⟨rfl, rfl, rfl, rfl, rfl, rfl, trivial⟩ rfl rfl
  · obtain rfl : i = 6 := by omega
    have hend : chkF e (ordF.drop 6) (ok, osy, opr, orc, opl, otx, oer) = if (ok, osy, opr, orc, opl, otx, oer) = e then 0 else 3 := rfl
    rw [hend]
    by_cases ho : ok = k ∧ osy = sy ∧ opr = pr ∧ orc = rc ∧ opl = pl ∧ otx = tx ∧ oer = er
    · rw [if_pos (by rw [he]; obtain ⟨rfl, rfl, rfl, rfl, rfl, rfl, rfl⟩ := ho; rfl)]
      refine G_seq (G_region ?_)
      refine Gv (V_lss rfl rfl rfl) ?_
      refine G_end (X_then (G_seq ?_))
      refine G_cond_f rfl (by kernel_rfl) ?_
      refine G_exit (X_then_exit (X_then_exit (X_block_hit (X_then (G_seq (G_seq (G_region ?_)))))))
      refine Gv (V_loadA rfl rfl (Cells.own (.head _)) rfl) ?_
      refine Gv (V_loadA rfl rfl (Cells.own (.tail _ (.head _))) rfl) ?_
      refine Gv (V_aneq_28 rfl rfl rfl) ?_
      refine G_end (X_then ?_)
      refine G_cond_f rfl (by simp [*]; done) ?_
      refine G_skip (X_then (G_seq (G_region ?_)))
      refine Ga ?_
      refine G_end (X_then (G_ret ?_))
      refine X_ng_ret ?_
      refine G_leaveS (.drop _ (.drop _ (.nil _))) (by exact (.cons (.tmp rfl) (.nil))) rfl ?_ ?_
      · exact (hE1.trans hE2)
      exact ⟨(by kernel_rfl), rfl⟩
    · rw [if_neg (fun h => ho (by rw [he] at h; simpa only [Prod.mk.injEq] using h))]
      refine G_seq (G_region ?_)
      refine Gv (V_lss rfl rfl rfl) ?_
      refine G_end (X_then (G_seq ?_))
      refine G_cond_f rfl (by kernel_rfl) ?_
      refine G_exit (X_then_exit (X_then_exit (X_block_hit (X_then (G_seq (G_seq (G_region ?_)))))))
      refine Gv (V_loadA rfl rfl (Cells.own (.head _)) rfl) ?_
      refine Gv (V_loadA rfl rfl (Cells.own (.tail _ (.head _))) rfl) ?_
      refine Gv (V_aneq_28 rfl rfl rfl) ?_
      refine G_end (X_then ?_)
      refine G_cond_t rfl (decide_eq_true (by omega)) ?_
      refine G_seq (G_region ?_)
      refine Ga ?_
      refine G_end (X_then (G_ret (X_then_ret ?_)))
      refine X_ng_ret ?_
      refine G_leaveS (.drop _ (.drop _ (.nil _))) (by exact (.cons (.tmp rfl) (.nil))) rfl ?_ ?_
      · exact (hE1.trans hE2)
      exact ⟨(by kernel_rfl), rfl⟩
end
end Go.Proofs.YtjhehanknkonnaaGreatDoor
