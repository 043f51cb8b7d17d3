/-
  Rules and contracts, packed: J13, M2, J14, J15, J18, J20, J21, J22.
-/
import Derived.Test.YtpkingbclcalkaaDoorQ7
set_option maxHeartbeats 1000000
set_option linter.unusedSimpArgs false
set_option linter.unusedVariables false
set_option maxHeartbeats 2000000
set_option maxRecDepth 20000
namespace Go.Proofs.YtpkingbclcalkaaDoor
open Go.RowKit
def listF : List Cl → Nat → Int × Int
  | [], _ => (0, 0)
  | c :: l, i => if chk c = 0 then listF l (i + 1) else (chk c, (i : Int))
def listM (l : List Cl) : Int × Int := if 200 < l.length then (6, 0) else listF l 0
theorem listF_drop {l : List Cl} {i : Nat} (h : i < l.length) : listF (l.drop i) i = if chk l[i] = 0 then listF (l.drop (i + 1)) (i + 1) else (chk l[i], (i : Int)) := by
  rw [List.drop_eq_getElem_cons h, listF]
theorem listF_zero : ∀ (l : List Cl) (i : Nat), (listF l i).1 = 0 → ∀ c, c ∈ l → chk c = 0 := by
  intro l
  induction l with
  | nil => intro i _ c h; cases h
  | cons a l ih =>
    intro i h c hc
    unfold listF at h
    split at h
    · rename_i h1
      rcases List.mem_cons.1 hc with rfl | hc
      · exact h1
      · exact ih _ h c hc
    · rename_i h1; exact absurd h h1
theorem listF_ok : ∀ (l : List Cl) (i : Nat), (∀ c, c ∈ l → chk c = 0) → listF l i = (0, 0) := by
  intro l
  induction l with
  | nil => intros; rfl
  | cons a l ih => intro i h; rw [listF, if_pos (h a (.head _)), ih _ (fun c hc => h c (.tail _ hc))]
theorem listM_zero {l : List Cl} (h : (listM l).1 = 0) : l.length ≤ 200 ∧ ∀ c, c ∈ l → chk c = 0 := by
  unfold listM at h
  split at h
  · cases h
  · exact ⟨by omega, listF_zero _ _ h⟩
theorem listM_ok {l : List Cl} (h : l.length ≤ 200) (h2 : ∀ c, c ∈ l → chk c = 0) : listM l = (0, 0) := by
  rw [listM, if_neg (by omega), listF_ok _ _ h2]
def linesT (l : List Cl) : List UInt8 := l.flatMap lineT
def textM (l : List Cl) : List UInt8 × Int := if (listM l).1 = 0 then (if 20000 < (linesT l).length then ([], 4) else (linesT l, 0)) else ([], (listM l).1)
def chunksT (l : List Cl) : List UInt8 := l.flatMap fun c => if c.k = 1 then c.t else []
def fedM (l : List Cl) : List UInt8 × Int := if (listM l).1 = 0 then (chunksT l, 0) else ([], (listM l).1)
theorem linesT_snoc {l : List Cl} {i : Nat} (h : i < l.length) : linesT (l.take (i + 1)) = linesT (l.take i) ++ lineT l[i] := by
  rw [List.take_succ_eq_append_getElem h, linesT, List.flatMap_append]; simp [linesT]
theorem chunksT_snoc {l : List Cl} {i : Nat} (h : i < l.length) : chunksT (l.take (i + 1)) = chunksT (l.take i) ++ (if l[i].k = 1 then l[i].t else []) := by
  rw [List.take_succ_eq_append_getElem h, chunksT, List.flatMap_append]; simp [chunksT]
theorem linesT_take {l : List Cl} {i : Nat} : (linesT (l.take i)).length ≤ (linesT l).length := by
  conv => rhs; rw [← List.take_append_drop i l, linesT, List.flatMap_append, List.length_append]
  exact Nat.le_add_right _ _
theorem linesT_le {l : List Cl} (h : ∀ c, c ∈ l → chk c = 0) : (linesT l).length ≤ 2010 * l.length := by
  induction l with
  | nil => exact Nat.zero_le _
  | cons a l ih =>
    have h1 := lineT_len (h a (.head _))
    have h2 := ih fun c hc => h c (.tail _ hc)
    simp only [linesT, List.flatMap_cons, List.length_append, List.length_cons] at h2 ⊢
    omega
theorem chunksT_le {l : List Cl} (h : ∀ c, c ∈ l → chk c = 0) : (chunksT l).length ≤ 1000 * l.length := by
  induction l with
  | nil => exact Nat.zero_le _
  | cons a l ih =>
    obtain ⟨_, _, h1, _, _⟩ := chk_zero.1 (h a (.head _))
    have h2 := ih fun c hc => h c (.tail _ hc)
    simp only [chunksT, List.flatMap_cons, List.length_append, List.length_cons] at h2 ⊢
    split
    · omega
    · simp only [List.length_nil]; omega
section
variable (E : Env) (L : List Res) (p : Option Addr) (c : Nat) (l : List Cl) (hl : SlE E 3 p l.length (cls l)) (hn : l.length ≤ 9223372036854775806)
include hl hn
theorem List_call : CallV Tryd.prog 26 #[.slice p l.length c] E L (.tuple #[.int .i64 (listM l).1, .int .i64 (listM l).2]) := by
  refine CallS.toV (CallS.intro (l := [_]) _ Tryd.func26 rfl Tryd.ntmps26 rfl ?_)
  by_cases h200 : 200 < l.length
  · rw [listM, if_pos h200]
    refine G_seq (G_region ?_)
    refine G_val (V_assign rfl rfl) rfl rfl (.none rfl) ?_
    refine G_val (V_assign rfl rfl) rfl rfl (.none rfl) ?_
    refine G_end (X_then (G_seq (G_seq (G_region ?_))))
    refine G_val (V_move rfl rfl) rfl rfl (.none rfl) ?_
    refine G_val (V_lenS rfl rfl) rfl rfl (.none rfl) ?_
    refine G_val (V_gtr rfl rfl rfl) rfl rfl (.none rfl) ?_
    refine G_end (X_then ?_)
    refine G_cond_t rfl (decide_eq_true (by omega)) ?_
    refine G_seq (G_region ?_)
    refine G_val (V_assign rfl rfl) rfl rfl (.none rfl) ?_
    refine G_val (V_assign rfl rfl) rfl rfl (.none rfl) ?_
    refine G_end (X_then (G_ret (X_then_ret ?_)))
    refine G_leaveS (.nil _) (by exact (.cons (.tmp rfl) (.cons (.tmp rfl) (.nil)))) rfl ?_ ?_
    · exact (.refl _)
    exact ⟨(by kernel_rfl), rfl⟩
  rw [listM, if_neg h200]
  obtain ⟨q, hq⟩ : ∃ q, listF l 0 = q := ⟨_, rfl⟩
  rw [hq]
  refine G_seq (G_region ?_)
  refine G_val (V_assign rfl rfl) rfl rfl (.none rfl) ?_
  refine G_val (V_assign rfl rfl) rfl rfl (.none rfl) ?_
  refine G_end (X_then (G_seq (G_seq (G_region ?_))))
  refine G_val (V_move rfl rfl) rfl rfl (.none rfl) ?_
  refine G_val (V_lenS rfl rfl) rfl rfl (.none rfl) ?_
  refine G_val (V_gtr rfl rfl rfl) rfl rfl (.none rfl) ?_
  refine G_end (X_then ?_)
  refine G_cond_f rfl (decide_eq_false (by omega)) ?_
  refine G_skip (X_then (G_seq (G_seq (G_region ?_))))
  refine G_val (V_move rfl rfl) rfl rfl (.none rfl) ?_
  refine G_val (V_lenS rfl rfl) rfl rfl (.none rfl) ?_
  refine G_val (V_move rfl rfl) rfl rfl (.none rfl) ?_
  refine G_end (X_then (G_block ?_))
  refine G_loop (α := Nat) (fun i => [(10, .slice p l.length c), (11, .int .i64 l.length), (12, .int .i64 i)]) (fun _ => E) (fun _ => L)
    (fun i => i ≤ l.length ∧ q = listF (l.drop i) i) (fun i => l.length - i) 0 ⟨Nat.zero_le _, hq.symm⟩ ⟨rfl, rfl, rfl, trivial⟩ rfl rfl ?_
  rintro i ⟨hi, he⟩
  by_cases hlt : i < l.length
  · have hx := cls_get (List.getElem?_eq_getElem hlt)
    rw [listF_drop hlt] at he
    by_cases hz : chk l[i] = 0
    · rw [if_pos hz] at he
      refine G_seq (G_region ?_)
      refine G_val (V_lss rfl rfl rfl) rfl rfl (.none rfl) ?_
      refine G_end (X_then (G_seq ?_))
      refine G_cond_t rfl (decide_eq_true (by omega)) ?_
      refine G_skip (X_then (G_seq (G_block (G_seq (G_region ?_)))))
      refine G_val (V_move rfl rfl) rfl rfl (.none rfl) ?_
      refine G_val (V_idxAddr rfl rfl rfl (SlE.rd (by assumption)) (by omega) (by omega)) rfl rfl (.none rfl) ?_
      refine G_val (V_loadAS rfl rfl (SlE.rd (by assumption)) (by assumption) (by simp) (by rfl)) rfl rfl (.none rfl) ?_
      (refine G_alloc rfl rfl rfl (.none rfl) ?_; intro b5)
      refine G_val (V_assign rfl rfl) rfl rfl (.none rfl) ?_
      refine G_storeA rfl rfl rfl rfl (by simp [Value.oneCell']) rfl (.none rfl) (.head _ _ _) rfl ?_
      refine G_end (X_then (G_seq (G_region ?_)))
      refine G_val (V_loadA rfl rfl (Cells.own (.head _)) rfl) rfl rfl (.none rfl) ?_
      refine G_callv (k := 30) (.mk rfl rfl rfl rfl) rfl rfl (.none rfl) (Check_call _ _ _ _ _) ?_
      refine G_val (V_assign rfl rfl) rfl rfl (.none rfl) ?_
      refine G_end (X_then (G_seq (G_region ?_)))
      refine G_val (V_move rfl rfl) rfl rfl (.none rfl) ?_
      refine G_val (V_neq rfl rfl rfl) rfl rfl (.none rfl) ?_
      refine G_end (X_then ?_)
      refine G_cond_f rfl (by simp [*]; done) ?_
      refine G_skip (X_block (X_then (G_region ?_)))
      refine G_val (V_add_i64 rfl rfl rfl (by omega) (by omega)) rfl rfl (.none rfl) ?_
      refine G_val (V_move rfl rfl) rfl rfl (.none rfl) ?_
      refine G_end (X_then ?_)
      refine G.drop ?_
      exact G_again (i + 1) ⟨hlt, he⟩ (by omega) ⟨rfl, rfl, rfl, trivial⟩ rfl rfl
    · rw [if_neg hz] at he
      rw [he]
      refine G_seq (G_region ?_)
      refine G_val (V_lss rfl rfl rfl) rfl rfl (.none rfl) ?_
      refine G_end (X_then (G_seq ?_))
      refine G_cond_t rfl (decide_eq_true (by omega)) ?_
      refine G_skip (X_then (G_seq (G_block (G_seq (G_region ?_)))))
      refine G_val (V_move rfl rfl) rfl rfl (.none rfl) ?_
      refine G_val (V_idxAddr rfl rfl rfl (SlE.rd (by assumption)) (by omega) (by omega)) rfl rfl (.none rfl) ?_
      refine G_val (V_loadAS rfl rfl (SlE.rd (by assumption)) (by assumption) (by simp) (by rfl)) rfl rfl (.none rfl) ?_
      (refine G_alloc rfl rfl rfl (.none rfl) ?_; intro b5)
      refine G_val (V_assign rfl rfl) rfl rfl (.none rfl) ?_
      refine G_storeA rfl rfl rfl rfl (by simp [Value.oneCell']) rfl (.none rfl) (.head _ _ _) rfl ?_
      refine G_end (X_then (G_seq (G_region ?_)))
      refine G_val (V_loadA rfl rfl (Cells.own (.head _)) rfl) rfl rfl (.none rfl) ?_
      refine G_callv (k := 30) (.mk rfl rfl rfl rfl) rfl rfl (.none rfl) (Check_call _ _ _ _ _) ?_
      refine G_val (V_assign rfl rfl) rfl rfl (.none rfl) ?_
      refine G_end (X_then (G_seq (G_region ?_)))
      refine G_val (V_move rfl rfl) rfl rfl (.none rfl) ?_
      refine G_val (V_neq rfl rfl rfl) rfl rfl (.none rfl) ?_
      refine G_end (X_then ?_)
      refine G_cond_t rfl (decide_eq_true (by omega)) ?_
      refine G_seq (G_region ?_)
      refine G_val (V_move rfl rfl) rfl rfl (.none rfl) ?_
      refine G_val (V_move rfl rfl) rfl rfl (.none rfl) ?_
      refine G_val (V_assign rfl rfl) rfl rfl (.none rfl) ?_
      refine G_val (V_assign rfl rfl) rfl rfl (.none rfl) ?_
      refine G_end (X_then (G_ret (X_block_ret (X_then_ret (X_then_ret (X_block_ret (X_then_ret ?_)))))))
      refine G_leaveS (.drop _ (.nil _)) (by exact (.cons (.tmp rfl) (.cons (.tmp rfl) (.nil)))) rfl ?_ ?_
      · exact (.refl _)
      exact ⟨rfl, rfl⟩
  · rw [List.drop_eq_nil_of_le (by omega)] at he
    rw [he]
    refine G_seq (G_region ?_)
    refine G_val (V_lss rfl rfl rfl) rfl rfl (.none rfl) ?_
    refine G_end (X_then (G_seq ?_))
    refine G_cond_f rfl (decide_eq_false (by omega)) ?_
    refine G_exit (X_then_exit (X_then_exit (X_block_hit (X_then (G_seq (G_region ?_))))))
    refine G_val (V_assign rfl rfl) rfl rfl (.none rfl) ?_
    refine G_val (V_assign rfl rfl) rfl rfl (.none rfl) ?_
    refine G_end (X_then (G_ret ?_))
    refine G_leaveS (.nil _) (by exact (.cons (.tmp rfl) (.cons (.tmp rfl) (.nil)))) rfl ?_ ?_
    · exact (.refl _)
    exact ⟨rfl, rfl⟩
theorem ListR_call : CallV Tryd.prog 27 #[.slice p l.length c] E L (.tuple #[.int .i64 (listM l).1, .int .i64 (listM l).2]) := by
  refine CallS.toV (CallS.intro (l := [_]) _ Tryd.func27 rfl Tryd.ntmps27 rfl ?_)
  by_cases h200 : 200 < l.length
  · rw [listM, if_pos h200]
    refine G_seq (G_region ?_)
    refine G_val (V_assign rfl rfl) rfl rfl (.none rfl) ?_
    refine G_val (V_assign rfl rfl) rfl rfl (.none rfl) ?_
    refine G_end (X_then (G_seq (G_seq (G_region ?_))))
    refine G_val (V_move rfl rfl) rfl rfl (.none rfl) ?_
    refine G_val (V_lenS rfl rfl) rfl rfl (.none rfl) ?_
    refine G_val (V_gtr rfl rfl rfl) rfl rfl (.none rfl) ?_
    refine G_end (X_then ?_)
    refine G_cond_t rfl (decide_eq_true (by omega)) ?_
    refine G_seq (G_region ?_)
    refine G_val (V_assign rfl rfl) rfl rfl (.none rfl) ?_
    refine G_val (V_assign rfl rfl) rfl rfl (.none rfl) ?_
    refine G_end (X_then (G_ret (X_then_ret ?_)))
    refine G_leaveS (.nil _) (by exact (.cons (.tmp rfl) (.cons (.tmp rfl) (.nil)))) rfl ?_ ?_
    · exact (.refl _)
    exact ⟨(by kernel_rfl), rfl⟩
  rw [listM, if_neg h200]
  obtain ⟨q, hq⟩ : ∃ q, listF l 0 = q := ⟨_, rfl⟩
  rw [hq]
  refine G_seq (G_region ?_)
  refine G_val (V_assign rfl rfl) rfl rfl (.none rfl) ?_
  refine G_val (V_assign rfl rfl) rfl rfl (.none rfl) ?_
  refine G_end (X_then (G_seq (G_seq (G_region ?_))))
  refine G_val (V_move rfl rfl) rfl rfl (.none rfl) ?_
  refine G_val (V_lenS rfl rfl) rfl rfl (.none rfl) ?_
  refine G_val (V_gtr rfl rfl rfl) rfl rfl (.none rfl) ?_
  refine G_end (X_then ?_)
  refine G_cond_f rfl (decide_eq_false (by omega)) ?_
  refine G_skip (X_then (G_seq (G_seq (G_region ?_))))
  refine G_val (V_assign rfl rfl) rfl rfl (.none rfl) ?_
  refine G_end (X_then (G_block ?_))
  refine G_loop (α := Nat) (fun i => [(0, .slice p l.length c), (4, .int .i64 i)]) (fun _ => E) (fun _ => L)
    (fun i => i ≤ l.length ∧ q = listF (l.drop i) i) (fun i => l.length - i) 0 ⟨Nat.zero_le _, hq.symm⟩ ⟨rfl, rfl, trivial⟩ rfl rfl ?_
  rintro i ⟨hi, he⟩
  by_cases hlt : i < l.length
  · have hx := cls_get (List.getElem?_eq_getElem hlt)
    rw [listF_drop hlt] at he
    by_cases hz : chk l[i] = 0
    · rw [if_pos hz] at he
      refine G_seq (G_seq (G_region ?_))
      refine G_val (V_move rfl rfl) rfl rfl (.none rfl) ?_
      refine G_val (V_move rfl rfl) rfl rfl (.none rfl) ?_
      refine G_val (V_lenS rfl rfl) rfl rfl (.none rfl) ?_
      refine G_val (V_lss rfl rfl rfl) rfl rfl (.none rfl) ?_
      refine G_end (X_then ?_)
      refine G_cond_t rfl (decide_eq_true (by omega)) ?_
      refine G_skip (X_then (G_seq (G_block (G_seq (G_region ?_)))))
      refine G_val (V_move rfl rfl) rfl rfl (.none rfl) ?_
      refine G_val (V_move rfl rfl) rfl rfl (.none rfl) ?_
      refine G_val (V_idxAddr rfl rfl rfl (SlE.rd (by assumption)) (by omega) (by omega)) rfl rfl (.none rfl) ?_
      refine G_val (V_loadAS rfl rfl (SlE.rd (by assumption)) (by assumption) (by simp) (by rfl)) rfl rfl (.none rfl) ?_
      refine G_callv (k := 31) (.mk rfl rfl rfl rfl) rfl rfl (.none rfl) (CheckR_call _ _ _ _ _) ?_
      refine G_val (V_assign rfl rfl) rfl rfl (.none rfl) ?_
      refine G_end (X_then (G_seq (G_region ?_)))
      refine G_val (V_move rfl rfl) rfl rfl (.none rfl) ?_
      refine G_val (V_neq rfl rfl rfl) rfl rfl (.none rfl) ?_
      refine G_end (X_then ?_)
      refine G_cond_f rfl (by simp [*]; done) ?_
      refine G_skip (X_block (X_then (G_region ?_)))
      refine G_val (V_move rfl rfl) rfl rfl (.none rfl) ?_
      refine G_val (V_add_i64 rfl rfl rfl (by omega) (by omega)) rfl rfl (.none rfl) ?_
      refine G_val (V_assign rfl rfl) rfl rfl (.none rfl) ?_
      refine G_end (X_then ?_)
      exact G_again (i + 1) ⟨hlt, he⟩ (by omega) ⟨rfl, rfl, trivial⟩ rfl rfl
    · rw [if_neg hz] at he
      rw [he]
      refine G_seq (G_seq (G_region ?_))
      refine G_val (V_move rfl rfl) rfl rfl (.none rfl) ?_
      refine G_val (V_move rfl rfl) rfl rfl (.none rfl) ?_
      refine G_val (V_lenS rfl rfl) rfl rfl (.none rfl) ?_
      refine G_val (V_lss rfl rfl rfl) rfl rfl (.none rfl) ?_
      refine G_end (X_then ?_)
      refine G_cond_t rfl (decide_eq_true (by omega)) ?_
      refine G_skip (X_then (G_seq (G_block (G_seq (G_region ?_)))))
      refine G_val (V_move rfl rfl) rfl rfl (.none rfl) ?_
      refine G_val (V_move rfl rfl) rfl rfl (.none rfl) ?_
      refine G_val (V_idxAddr rfl rfl rfl (SlE.rd (by assumption)) (by omega) (by omega)) rfl rfl (.none rfl) ?_
      refine G_val (V_loadAS rfl rfl (SlE.rd (by assumption)) (by assumption) (by simp) (by rfl)) rfl rfl (.none rfl) ?_
      refine G_callv (k := 31) (.mk rfl rfl rfl rfl) rfl rfl (.none rfl) (CheckR_call _ _ _ _ _) ?_
      refine G_val (V_assign rfl rfl) rfl rfl (.none rfl) ?_
      refine G_end (X_then (G_seq (G_region ?_)))
      refine G_val (V_move rfl rfl) rfl rfl (.none rfl) ?_
      refine G_val (V_neq rfl rfl rfl) rfl rfl (.none rfl) ?_
      refine G_end (X_then ?_)
      refine G_cond_t rfl (decide_eq_true (by omega)) ?_
      refine G_seq (G_region ?_)
      refine G_val (V_move rfl rfl) rfl rfl (.none rfl) ?_
      refine G_val (V_move rfl rfl) rfl rfl (.none rfl) ?_
      refine G_val (V_assign rfl rfl) rfl rfl (.none rfl) ?_
      refine G_val (V_assign rfl rfl) rfl rfl (.none rfl) ?_
      refine G_end (X_then (G_ret (X_block_ret (X_then_ret (X_then_ret (X_block_ret (X_then_ret ?_)))))))
      refine G_leaveS (.nil _) (by exact (.cons (.tmp rfl) (.cons (.tmp rfl) (.nil)))) rfl ?_ ?_
      · exact (.refl _)
      exact ⟨rfl, rfl⟩
  · rw [List.drop_eq_nil_of_le (by omega)] at he
    rw [he]
    refine G_seq (G_seq (G_region ?_))
    refine G_val (V_move rfl rfl) rfl rfl (.none rfl) ?_
    refine G_val (V_move rfl rfl) rfl rfl (.none rfl) ?_
    refine G_val (V_lenS rfl rfl) rfl rfl (.none rfl) ?_
    refine G_val (V_lss rfl rfl rfl) rfl rfl (.none rfl) ?_
    refine G_end (X_then ?_)
    refine G_cond_f rfl (decide_eq_false (by omega)) ?_
    refine G_exit (X_then_exit (X_then_exit (X_block_hit (X_then (G_seq (G_region ?_))))))
    refine G_val (V_assign rfl rfl) rfl rfl (.none rfl) ?_
    refine G_val (V_assign rfl rfl) rfl rfl (.none rfl) ?_
    refine G_end (X_then (G_ret ?_))
    refine G_leaveS (.nil _) (by exact (.cons (.tmp rfl) (.cons (.tmp rfl) (.nil)))) rfl ?_ ?_
    · exact (.refl _)
    exact ⟨rfl, rfl⟩
theorem Text_call : CallS Tryd.prog 10 #[.slice p l.length c] E L (fun r E' L' => r = .tuple #[.string (S (textM l).1), .int .i64 (textM l).2] ∧ L' = L) := by
  refine CallS.intro (l := [_]) _ Tryd.func10 rfl Tryd.ntmps10 rfl ?_
  by_cases h : (listM l).1 = 0
  · obtain ⟨h200, hok⟩ := listM_zero h
    have hle := linesT_le hok
    rw [textM, if_pos h]
    refine G_seq (G_region ?_)
    refine G_val (V_assign rfl rfl) rfl rfl (.none rfl) ?_
    refine G_val (V_assign rfl rfl) rfl rfl (.none rfl) ?_
    refine G_end (X_then (G_seq (G_seq (G_region ?_))))
    refine G_val (V_move rfl rfl) rfl rfl (.none rfl) ?_
    refine G_callv (k := 26) (.mk rfl rfl rfl rfl) rfl rfl (.none rfl) (List_call _ _ _ _ _ (by assumption) (by assumption)) ?_
    refine G_val (V_move rfl rfl) rfl rfl (.none rfl) ?_
    refine G_val (V_extract rfl rfl rfl) rfl rfl (.none rfl) ?_
    refine G_val (V_extract rfl rfl rfl) rfl rfl (.none rfl) ?_
    refine G_val (V_assign rfl rfl) rfl rfl (.none rfl) ?_
    refine G_val (V_assign rfl rfl) rfl rfl (.none rfl) ?_
    refine G_end (X_then (G_seq (G_region ?_)))
    refine G_val (V_move rfl rfl) rfl rfl (.none rfl) ?_
    refine G_val (V_neq rfl rfl rfl) rfl rfl (.none rfl) ?_
    refine G_end (X_then ?_)
    refine G_cond_f rfl (decide_eq_false (by omega)) ?_
    refine G_skip (X_then (G_seq (G_region ?_)))
    (refine G_alloc rfl rfl rfl (.none rfl) ?_; intro b6)
    refine G_end (X_then (G_seq (G_seq (G_region ?_))))
    refine G_val (V_move rfl rfl) rfl rfl (.none rfl) ?_
    refine G_val (V_lenS rfl rfl) rfl rfl (.none rfl) ?_
    refine G_val (V_move rfl rfl) rfl rfl (.none rfl) ?_
    refine G_end (X_then (G_block ?_))
    refine G.bldNew ?_
    refine G_loop (α := Nat × Bld × Env) (fun x => [(6, .pointer (some ⟨b6, 0, none⟩)), (19, .slice p l.length c), (20, .int .i64 l.length), (21, .int .i64 x.1)]) (fun x => x.2.2) (fun x => .bld b6 x.2.1 :: L)
      (fun x => x.1 ≤ l.length ∧ x.2.1.xs = linesT (l.take x.1) ∧ E.Le x.2.2) (fun x => l.length - x.1) (0, Bld.new, E) ⟨Nat.zero_le _, rfl, .refl _⟩ ⟨rfl, rfl, rfl, rfl, trivial⟩ rfl rfl ?_
    rintro ⟨i, s, E1⟩ ⟨hi, hs, hE1⟩
    simp only at hi hs hE1 ⊢
    have hsl := congrArg List.length hs
    have htk := linesT_take (l := l) (i := i)
    replace hl := hl.mono hE1
    by_cases hlt : i < l.length
    · have hx := cls_get (List.getElem?_eq_getElem hlt)
      have hz := hok _ (List.getElem_mem hlt)
      have hll := lineT_len hz
      have e1 : lineR ⟨l[i].k, l[i].n, l[i].t⟩ = (lineT l[i], 0) := by rw [lineR, if_pos hz]
      refine G_seq (G_region ?_)
      refine G_val (V_lss rfl rfl rfl) rfl rfl (.none rfl) ?_
      refine G_end (X_then (G_seq ?_))
      refine G_cond_t rfl (decide_eq_true (by omega)) ?_
      refine G_skip (X_then (G_seq (G_block (G_seq (G_region ?_)))))
      refine G_val (V_idxAddr rfl rfl rfl (SlE.rd (by assumption)) (by omega) (by omega)) rfl rfl (.none rfl) ?_
      refine G_val (V_loadAS rfl rfl (SlE.rd (by assumption)) (by assumption) (by simp) (by rfl)) rfl rfl (.none rfl) ?_
      (refine G_alloc rfl rfl rfl (.none rfl) ?_; intro b8)
      refine G_storeA rfl rfl rfl rfl (by simp [Value.oneCell']) rfl (.none rfl) (.head _ _ _) rfl ?_
      refine G_end (X_then (G_seq (G_region ?_)))
      refine G_val (V_loadA rfl rfl (Cells.own (.head _)) rfl) rfl rfl (.none rfl) ?_
      refine G_call (k := 21) (.mk rfl rfl rfl rfl) rfl rfl (.none rfl) (Line_call _ _ _ _ _) ?_
      rintro r1 E2 L3 hE4 ⟨rfl, rfl⟩
      replace hl := hl.mono hE4
      refine G_val (V_move rfl rfl) rfl rfl (.none rfl) ?_
      refine G_val (V_extract rfl rfl rfl) rfl rfl (.none rfl) ?_
      refine G_val (V_extract rfl rfl rfl) rfl rfl (.none rfl) ?_
      refine G_val (V_assign rfl rfl) rfl rfl (.none rfl) ?_
      refine G_val (V_assign rfl rfl) rfl rfl (.none rfl) ?_
      refine G_end (X_then (G_region ?_))
      refine G_val (V_move rfl rfl) rfl rfl (.none rfl) ?_
      rw [e1]
      simp only
      refine G.front (.tail _ (.head _ _)) ?_
      refine G_call (k := 34) (.mk rfl rfl rfl rfl) rfl rfl (.none rfl) (WriteString_call _ _ _ _ _ (by omega)) ?_
      rintro r1 E3 L4 hE5 ⟨z6, ⟨rfl, ⟨rfl, ⟨Z7, ⟨Z8, rfl⟩⟩⟩⟩⟩
      replace hl := hl.mono hE5
      refine G_end (X_block (X_then (G_region ?_)))
      refine G_val (V_add_i64 rfl rfl rfl (by omega) (by omega)) rfl rfl (.none rfl) ?_
      refine G_val (V_move rfl rfl) rfl rfl (.none rfl) ?_
      refine G_end (X_then ?_)
      refine G.rm (.tail _ (.head _ _)) ?_
      exact G_again (i + 1, z6, E3) ⟨hlt, by simp only; rw [Z7, hs, linesT_snoc hlt], hE1.trans hE4⟩ (by simp only; omega) ⟨rfl, rfl, rfl, rfl, trivial⟩ rfl rfl
    · have e : l.take i = l := List.take_of_length_le (by omega)
      rw [e] at hs
      by_cases hg : 20000 < (linesT l).length
      · rw [if_pos hg]
        refine G_seq (G_region ?_)
        refine G_val (V_lss rfl rfl rfl) rfl rfl (.none rfl) ?_
        refine G_end (X_then (G_seq ?_))
        refine G_cond_f rfl (decide_eq_false (by omega)) ?_
        refine G_exit (X_then_exit (X_then_exit (X_block_hit (X_then (G_seq (G_seq (G_region ?_)))))))
        refine G_callv (k := 35) (.mk rfl rfl rfl rfl) rfl rfl (.none rfl) (BLen_call _ _ _ _ (by omega)) ?_
        refine G_val (V_gtr rfl rfl rfl) rfl rfl (.none rfl) ?_
        refine G_end (X_then ?_)
        refine G_cond rfl (fun H1 => ?_) (fun H1 => ?_)
        · simp only [Bool.and_eq_true, Bool.or_eq_true, Bool.not_eq_true', Bool.not_eq_false', Bool.and_eq_false_iff, Bool.or_eq_false_iff, Bool.not_not, decide_eq_true_eq, decide_eq_false_iff_not, ne_eq, Decidable.not_not, Bool.decide_eq_true] at H1
          refine G_seq (G_region ?_)
          refine G_val (V_assign rfl rfl) rfl rfl (.none rfl) ?_
          refine G_val (V_assign rfl rfl) rfl rfl (.none rfl) ?_
          refine G_end (X_then (G_ret (X_then_ret ?_)))
          refine G_leaveS (.drop _ (.nil _)) (by exact (.cons (.tmp rfl) (.cons (.tmp rfl) (.nil)))) rfl ?_ ?_
          · exact hE1
          exact ⟨(by kernel_rfl), rfl⟩
        simp only [Bool.and_eq_true, Bool.or_eq_true, Bool.not_eq_true', Bool.not_eq_false', Bool.and_eq_false_iff, Bool.or_eq_false_iff, Bool.not_not, decide_eq_true_eq, decide_eq_false_iff_not, ne_eq, Decidable.not_not, Bool.decide_eq_true] at H1
        refine G_skip (X_then (G_seq (G_region ?_)))
        refine G_call (k := 36) (.mk rfl rfl rfl rfl) rfl rfl (.none rfl) (BString_call _ _ _ _ (by omega)) ?_
        rintro r2 E3 L4 hE5 ⟨rfl, ⟨rfl, rfl⟩⟩
        replace hl := hl.mono hE5
        refine G_val (V_assign rfl rfl) rfl rfl (.none rfl) ?_
        refine G_val (V_assign rfl rfl) rfl rfl (.none rfl) ?_
        refine G_end (X_then (G_ret ?_))
        refine G_leaveS (.nil _) (by exact (.cons (.tmp rfl) (.cons (.tmp rfl) (.nil)))) rfl ?_ ?_
        · exact hE1
        exact ⟨(by ((try simp only [resVal]); (repeat' split) <;> first | rfl | (exfalso; omega) | (simp_all; done) | (simp_all; omega))), (by rfl)⟩
      · rw [if_neg hg]
        rw [e] at hsl
        refine G_seq (G_region ?_)
        refine G_val (V_lss rfl rfl rfl) rfl rfl (.none rfl) ?_
        refine G_end (X_then (G_seq ?_))
        refine G_cond_f rfl (decide_eq_false (by omega)) ?_
        refine G_exit (X_then_exit (X_then_exit (X_block_hit (X_then (G_seq (G_seq (G_region ?_)))))))
        refine G_callv (k := 35) (.mk rfl rfl rfl rfl) rfl rfl (.none rfl) (BLen_call _ _ _ _ (by omega)) ?_
        refine G_val (V_gtr rfl rfl rfl) rfl rfl (.none rfl) ?_
        refine G_end (X_then ?_)
        refine G_cond_f rfl (decide_eq_false (by omega)) ?_
        refine G_skip (X_then (G_seq (G_region ?_)))
        refine G_call (k := 36) (.mk rfl rfl rfl rfl) rfl rfl (.none rfl) (BString_call _ _ _ _ (by omega)) ?_
        rintro r1 E2 L3 hE4 ⟨rfl, ⟨rfl, rfl⟩⟩
        replace hl := hl.mono hE4
        refine G_val (V_assign rfl rfl) rfl rfl (.none rfl) ?_
        refine G_val (V_assign rfl rfl) rfl rfl (.none rfl) ?_
        refine G_end (X_then (G_ret ?_))
        refine G_leaveS (.nil _) (by exact (.cons (.tmp rfl) (.cons (.tmp rfl) (.nil)))) rfl ?_ ?_
        · exact hE1
        exact ⟨(by (simp [resVal, *]; done)), (by rfl)⟩
  · rw [textM, if_neg h]
    refine G_seq (G_region ?_)
    refine G_val (V_assign rfl rfl) rfl rfl (.none rfl) ?_
    refine G_val (V_assign rfl rfl) rfl rfl (.none rfl) ?_
    refine G_end (X_then (G_seq (G_seq (G_region ?_))))
    refine G_val (V_move rfl rfl) rfl rfl (.none rfl) ?_
    refine G_callv (k := 26) (.mk rfl rfl rfl rfl) rfl rfl (.none rfl) (List_call _ _ _ _ _ (by assumption) (by assumption)) ?_
    refine G_val (V_move rfl rfl) rfl rfl (.none rfl) ?_
    refine G_val (V_extract rfl rfl rfl) rfl rfl (.none rfl) ?_
    refine G_val (V_extract rfl rfl rfl) rfl rfl (.none rfl) ?_
    refine G_val (V_assign rfl rfl) rfl rfl (.none rfl) ?_
    refine G_val (V_assign rfl rfl) rfl rfl (.none rfl) ?_
    refine G_end (X_then (G_seq (G_region ?_)))
    refine G_val (V_move rfl rfl) rfl rfl (.none rfl) ?_
    refine G_val (V_neq rfl rfl rfl) rfl rfl (.none rfl) ?_
    refine G_end (X_then ?_)
    refine G_cond_t rfl (decide_eq_true (by omega)) ?_
    refine G_seq (G_region ?_)
    refine G_val (V_move rfl rfl) rfl rfl (.none rfl) ?_
    refine G_val (V_assign rfl rfl) rfl rfl (.none rfl) ?_
    refine G_val (V_assign rfl rfl) rfl rfl (.none rfl) ?_
    refine G_end (X_then (G_ret (X_then_ret ?_)))
    refine G_leaveS (.nil _) (by exact (.cons (.tmp rfl) (.cons (.tmp rfl) (.nil)))) rfl ?_ ?_
    · exact (.refl _)
    exact ⟨rfl, rfl⟩
theorem TextR_call : CallS Tryd.prog 24 #[.slice p l.length c] E L (fun r E' L' => r = .tuple #[.string (S (textM l).1), .int .i64 (textM l).2] ∧ L' = L) := by
  refine CallS.intro (l := [_]) _ Tryd.func24 rfl Tryd.ntmps24 rfl ?_
  by_cases h : (listM l).1 = 0
  · obtain ⟨h200, hok⟩ := listM_zero h
    have hle := linesT_le hok
    rw [textM, if_pos h]
    refine G_seq (G_region ?_)
    refine G_val (V_assign rfl rfl) rfl rfl (.none rfl) ?_
    refine G_val (V_assign rfl rfl) rfl rfl (.none rfl) ?_
    refine G_end (X_then (G_seq (G_seq (G_region ?_))))
    refine G_val (V_move rfl rfl) rfl rfl (.none rfl) ?_
    refine G_callv (k := 27) (.mk rfl rfl rfl rfl) rfl rfl (.none rfl) (ListR_call _ _ _ _ _ (by assumption) (by assumption)) ?_
    refine G_val (V_move rfl rfl) rfl rfl (.none rfl) ?_
    refine G_val (V_extract rfl rfl rfl) rfl rfl (.none rfl) ?_
    refine G_val (V_extract rfl rfl rfl) rfl rfl (.none rfl) ?_
    refine G_val (V_assign rfl rfl) rfl rfl (.none rfl) ?_
    refine G_val (V_assign rfl rfl) rfl rfl (.none rfl) ?_
    refine G_end (X_then (G_seq (G_region ?_)))
    refine G_val (V_move rfl rfl) rfl rfl (.none rfl) ?_
    refine G_val (V_neq rfl rfl rfl) rfl rfl (.none rfl) ?_
    refine G_end (X_then ?_)
    refine G_cond_f rfl (decide_eq_false (by omega)) ?_
    refine G_skip (X_then (G_seq (G_region ?_)))
    refine G_val (V_assign rfl rfl) rfl rfl (.none rfl) ?_
    refine G_end (X_then (G_seq (G_seq (G_region ?_))))
    refine G_val (V_assign rfl rfl) rfl rfl (.none rfl) ?_
    refine G_end (X_then (G_block ?_))
    refine G_loop (α := Nat × List UInt8 × Env) (fun x => [(0, .slice p l.length c), (6, .string (S x.2.1)), (7, .int .i64 x.1)]) (fun x => x.2.2) (fun _ => L)
      (fun x => x.1 ≤ l.length ∧ x.2.1 = linesT (l.take x.1) ∧ x.2.1.length ≤ 20000 ∧ E.Le x.2.2) (fun x => l.length - x.1) (0, [], E) ⟨Nat.zero_le _, rfl, Nat.zero_le _, .refl _⟩ ⟨rfl, rfl, rfl, trivial⟩ rfl rfl ?_
    rintro ⟨i, s, E1⟩ ⟨hi, hs, hs2, hE1⟩
    simp only at hi hs hs2 hE1 ⊢
    have hsl := congrArg List.length hs
    have htk := linesT_take (l := l) (i := i + 1)
    replace hl := hl.mono hE1
    by_cases hlt : i < l.length
    · have hx := cls_get (List.getElem?_eq_getElem hlt)
      have hz := hok _ (List.getElem_mem hlt)
      have hll := lineT_len hz
      have e1 : lineR ⟨l[i].k, l[i].n, l[i].t⟩ = (lineT l[i], 0) := by rw [lineR, if_pos hz]
      have e2 := linesT_snoc hlt
      have e3 := congrArg List.length e2
      rw [List.length_append] at e3
      rw [← hs] at e2
      have hsa : (s ++ lineT l[i]).length = s.length + (lineT l[i]).length := List.length_append
      refine G_seq (G_seq (G_region ?_))
      refine G_val (V_move rfl rfl) rfl rfl (.none rfl) ?_
      refine G_val (V_move rfl rfl) rfl rfl (.none rfl) ?_
      refine G_val (V_lenS rfl rfl) rfl rfl (.none rfl) ?_
      refine G_val (V_lss rfl rfl rfl) rfl rfl (.none rfl) ?_
      refine G_end (X_then ?_)
      refine G_cond_t rfl (decide_eq_true (by omega)) ?_
      refine G_skip (X_then (G_seq (G_block (G_seq (G_region ?_)))))
      refine G_val (V_move rfl rfl) rfl rfl (.none rfl) ?_
      refine G_val (V_move rfl rfl) rfl rfl (.none rfl) ?_
      refine G_val (V_idxAddr rfl rfl rfl (SlE.rd (by assumption)) (by omega) (by omega)) rfl rfl (.none rfl) ?_
      refine G_val (V_loadAS rfl rfl (SlE.rd (by assumption)) (by assumption) (by simp) (by rfl)) rfl rfl (.none rfl) ?_
      refine G_call (k := 29) (.mk rfl rfl rfl rfl) rfl rfl (.none rfl) (LineR_call _ _ _ _ _) ?_
      rintro r1 E2 L3 hE4 ⟨rfl, rfl⟩
      replace hl := hl.mono hE4
      refine G_val (V_move rfl rfl) rfl rfl (.none rfl) ?_
      refine G_val (V_extract rfl rfl rfl) rfl rfl (.none rfl) ?_
      refine G_val (V_extract rfl rfl rfl) rfl rfl (.none rfl) ?_
      refine G_val (V_assign rfl rfl) rfl rfl (.none rfl) ?_
      refine G_val (V_assign rfl rfl) rfl rfl (.none rfl) ?_
      refine G_end (X_then (G_seq (G_region ?_)))
      refine G_val (V_move rfl rfl) rfl rfl (.none rfl) ?_
      refine G_val (V_move rfl rfl) rfl rfl (.none rfl) ?_
      rw [e1]
      simp only
      by_cases hg : 20000 < (s ++ lineT l[i]).length
      · rw [if_pos (show 20000 < (linesT l).length by omega)]
        refine G_val (V_cat rfl rfl rfl (by omega)) rfl rfl (.none rfl) ?_
        refine G_val (V_assign rfl rfl) rfl rfl (.none rfl) ?_
        refine G_end (X_then (G_seq (G_region ?_)))
        refine G_val (V_move rfl rfl) rfl rfl (.none rfl) ?_
        refine G_val (V_len rfl rfl) rfl rfl (.none rfl) ?_
        refine G_val (V_gtr rfl rfl rfl) rfl rfl (.none rfl) ?_
        refine G_end (X_then ?_)
        refine G_cond_t rfl (decide_eq_true (by omega)) ?_
        refine G_seq (G_region ?_)
        refine G_val (V_assign rfl rfl) rfl rfl (.none rfl) ?_
        refine G_val (V_assign rfl rfl) rfl rfl (.none rfl) ?_
        refine G_end (X_then (G_ret (X_block_ret (X_then_ret (X_then_ret (X_block_ret (X_then_ret ?_)))))))
        refine G_leaveS (.nil _) (by exact (.cons (.tmp rfl) (.cons (.tmp rfl) (.nil)))) rfl ?_ ?_
        · exact (hE1.trans hE4)
        exact ⟨(by kernel_rfl), rfl⟩
      · refine G_val (V_cat rfl rfl rfl (by omega)) rfl rfl (.none rfl) ?_
        refine G_val (V_assign rfl rfl) rfl rfl (.none rfl) ?_
        refine G_end (X_then (G_seq (G_region ?_)))
        refine G_val (V_move rfl rfl) rfl rfl (.none rfl) ?_
        refine G_val (V_len rfl rfl) rfl rfl (.none rfl) ?_
        refine G_val (V_gtr rfl rfl rfl) rfl rfl (.none rfl) ?_
        refine G_end (X_then ?_)
        refine G_cond_f rfl (decide_eq_false (by omega)) ?_
        refine G_skip (X_block (X_then (G_region ?_)))
        refine G_val (V_move rfl rfl) rfl rfl (.none rfl) ?_
        refine G_val (V_add_i64 rfl rfl rfl (by omega) (by omega)) rfl rfl (.none rfl) ?_
        refine G_val (V_assign rfl rfl) rfl rfl (.none rfl) ?_
        refine G_end (X_then ?_)
        exact G_again (i + 1, s ++ lineT l[i], E2) ⟨hlt, e2.symm, by simp only; omega, hE1.trans hE4⟩ (by simp only; omega) ⟨rfl, rfl, rfl, trivial⟩ rfl rfl
    · have e : l.take i = l := List.take_of_length_le (by omega)
      rw [e] at hs hsl
      rw [if_neg (show ¬ 20000 < (linesT l).length by omega), ← hs]
      refine G_seq (G_seq (G_region ?_))
      refine G_val (V_move rfl rfl) rfl rfl (.none rfl) ?_
      refine G_val (V_move rfl rfl) rfl rfl (.none rfl) ?_
      refine G_val (V_lenS rfl rfl) rfl rfl (.none rfl) ?_
      refine G_val (V_lss rfl rfl rfl) rfl rfl (.none rfl) ?_
      refine G_end (X_then ?_)
      refine G_cond_f rfl (decide_eq_false (by omega)) ?_
      refine G_exit (X_then_exit (X_then_exit (X_block_hit (X_then (G_seq (G_region ?_))))))
      refine G_val (V_move rfl rfl) rfl rfl (.none rfl) ?_
      refine G_val (V_assign rfl rfl) rfl rfl (.none rfl) ?_
      refine G_val (V_assign rfl rfl) rfl rfl (.none rfl) ?_
      refine G_end (X_then (G_ret ?_))
      refine G_leaveS (.nil _) (by exact (.cons (.tmp rfl) (.cons (.tmp rfl) (.nil)))) rfl ?_ ?_
      · exact hE1
      exact ⟨rfl, rfl⟩
  · rw [textM, if_neg h]
    refine G_seq (G_region ?_)
    refine G_val (V_assign rfl rfl) rfl rfl (.none rfl) ?_
    refine G_val (V_assign rfl rfl) rfl rfl (.none rfl) ?_
    refine G_end (X_then (G_seq (G_seq (G_region ?_))))
    refine G_val (V_move rfl rfl) rfl rfl (.none rfl) ?_
    refine G_callv (k := 27) (.mk rfl rfl rfl rfl) rfl rfl (.none rfl) (ListR_call _ _ _ _ _ (by assumption) (by assumption)) ?_
    refine G_val (V_move rfl rfl) rfl rfl (.none rfl) ?_
    refine G_val (V_extract rfl rfl rfl) rfl rfl (.none rfl) ?_
    refine G_val (V_extract rfl rfl rfl) rfl rfl (.none rfl) ?_
    refine G_val (V_assign rfl rfl) rfl rfl (.none rfl) ?_
    refine G_val (V_assign rfl rfl) rfl rfl (.none rfl) ?_
    refine G_end (X_then (G_seq (G_region ?_)))
    refine G_val (V_move rfl rfl) rfl rfl (.none rfl) ?_
    refine G_val (V_neq rfl rfl rfl) rfl rfl (.none rfl) ?_
    refine G_end (X_then ?_)
    refine G_cond_t rfl (decide_eq_true (by omega)) ?_
    refine G_seq (G_region ?_)
    refine G_val (V_move rfl rfl) rfl rfl (.none rfl) ?_
    refine G_val (V_assign rfl rfl) rfl rfl (.none rfl) ?_
    refine G_val (V_assign rfl rfl) rfl rfl (.none rfl) ?_
    refine G_end (X_then (G_ret (X_then_ret ?_)))
    refine G_leaveS (.nil _) (by exact (.cons (.tmp rfl) (.cons (.tmp rfl) (.nil)))) rfl ?_ ?_
    · exact (.refl _)
    exact ⟨rfl, rfl⟩
theorem Fed_call : CallS Tryd.prog 22 #[.slice p l.length c] E L (fun r E' L' => r = .tuple #[.string (S (fedM l).1), .int .i64 (fedM l).2] ∧ L' = L) := by
  refine CallS.intro (l := [_]) _ Tryd.func22 rfl Tryd.ntmps22 rfl ?_
  by_cases h : (listM l).1 = 0
  · obtain ⟨h200, hok⟩ := listM_zero h
    have hle := chunksT_le hok
    rw [fedM, if_pos h]
    refine G_seq (G_region ?_)
    refine G_val (V_assign rfl rfl) rfl rfl (.none rfl) ?_
    refine G_val (V_assign rfl rfl) rfl rfl (.none rfl) ?_
    refine G_end (X_then (G_seq (G_seq (G_region ?_))))
    refine G_val (V_move rfl rfl) rfl rfl (.none rfl) ?_
    refine G_callv (k := 26) (.mk rfl rfl rfl rfl) rfl rfl (.none rfl) (List_call _ _ _ _ _ (by assumption) (by assumption)) ?_
    refine G_val (V_move rfl rfl) rfl rfl (.none rfl) ?_
    refine G_val (V_extract rfl rfl rfl) rfl rfl (.none rfl) ?_
    refine G_val (V_extract rfl rfl rfl) rfl rfl (.none rfl) ?_
    refine G_val (V_assign rfl rfl) rfl rfl (.none rfl) ?_
    refine G_val (V_assign rfl rfl) rfl rfl (.none rfl) ?_
    refine G_end (X_then (G_seq (G_region ?_)))
    refine G_val (V_move rfl rfl) rfl rfl (.none rfl) ?_
    refine G_val (V_neq rfl rfl rfl) rfl rfl (.none rfl) ?_
    refine G_end (X_then ?_)
    refine G_cond_f rfl (decide_eq_false (by omega)) ?_
    refine G_skip (X_then (G_seq (G_region ?_)))
    (refine G_alloc rfl rfl rfl (.none rfl) ?_; intro b6)
    refine G_end (X_then (G_seq (G_seq (G_region ?_))))
    refine G_val (V_move rfl rfl) rfl rfl (.none rfl) ?_
    refine G_val (V_lenS rfl rfl) rfl rfl (.none rfl) ?_
    refine G_val (V_move rfl rfl) rfl rfl (.none rfl) ?_
    refine G_end (X_then (G_block ?_))
    refine G.bldNew ?_
    refine G_loop (α := Nat × Bld) (fun x => [(6, .pointer (some ⟨b6, 0, none⟩)), (17, .slice p l.length c), (18, .int .i64 l.length), (19, .int .i64 x.1)]) (fun _ => E) (fun x => .bld b6 x.2 :: L)
      (fun x => x.1 ≤ l.length ∧ x.2.xs = chunksT (l.take x.1)) (fun x => l.length - x.1) (0, Bld.new) ⟨Nat.zero_le _, rfl⟩ ⟨rfl, rfl, rfl, rfl, trivial⟩ rfl rfl ?_
    rintro ⟨i, s⟩ ⟨hi, hs⟩
    simp only at hi hs ⊢
    have hsl := congrArg List.length hs
    have htk := chunksT_le (l := l.take i) fun c hc => hok c (List.mem_of_mem_take hc)
    rw [List.length_take] at htk
    by_cases hlt : i < l.length
    · have hx := cls_get (List.getElem?_eq_getElem hlt)
      have hz := hok _ (List.getElem_mem hlt)
      obtain ⟨q1, q2, q3, q4, q5⟩ := chk_zero.1 hz
      have e2 := chunksT_snoc hlt
      by_cases h1 : l[i].k = 1
      · rw [if_pos h1] at e2
        refine G_seq (G_region ?_)
        refine G_val (V_lss rfl rfl rfl) rfl rfl (.none rfl) ?_
        refine G_end (X_then (G_seq ?_))
        refine G_cond_t rfl (decide_eq_true (by omega)) ?_
        refine G_skip (X_then (G_seq (G_block (G_seq (G_region ?_)))))
        refine G_val (V_idxAddr rfl rfl rfl (SlE.rd (by assumption)) (by omega) (by omega)) rfl rfl (.none rfl) ?_
        refine G_val (V_loadAS rfl rfl (SlE.rd (by assumption)) (by assumption) (by simp) (by rfl)) rfl rfl (.none rfl) ?_
        (refine G_alloc rfl rfl rfl (.none rfl) ?_; intro b8)
        refine G_storeA rfl rfl rfl rfl (by simp [Value.oneCell']) rfl (.none rfl) (.head _ _ _) rfl ?_
        refine G_end (X_then (G_seq (G_region ?_)))
        refine G_val (V_fieldAddr rfl rfl (by decide)) rfl rfl (.none rfl) ?_
        refine G_val (V_load rfl rfl (Cell.own (.head _) rfl)) rfl rfl (.none rfl) ?_
        refine G_val (V_eql rfl rfl rfl) rfl rfl (.none rfl) ?_
        refine G_end (X_then ?_)
        refine G_cond_t rfl (decide_eq_true (by omega)) ?_
        refine G_region ?_
        refine G_val (V_fieldAddr rfl rfl (by decide)) rfl rfl (.none rfl) ?_
        refine G_val (V_load rfl rfl (Cell.own (.head _) rfl)) rfl rfl (.none rfl) ?_
        refine G.front (.tail _ (.head _ _)) ?_
        refine G_call (k := 34) (.mk rfl rfl rfl rfl) rfl rfl (.none rfl) (WriteString_call _ _ _ _ _ (by omega)) ?_
        rintro r1 E2 L3 hE4 ⟨z5, ⟨rfl, ⟨rfl, ⟨Z6, ⟨Z7, rfl⟩⟩⟩⟩⟩
        replace hl := hl.mono hE4
        refine G_end (X_block (X_then (G_region ?_)))
        refine G_val (V_add_i64 rfl rfl rfl (by omega) (by omega)) rfl rfl (.none rfl) ?_
        refine G_val (V_move rfl rfl) rfl rfl (.none rfl) ?_
        refine G_end (X_then ?_)
        refine G.rm (.tail _ (.head _ _)) ?_
        refine G_again (i + 1, z5) ⟨hlt, by simp only; rw [Z6, hs, e2]⟩ (by simp only; omega) ⟨rfl, rfl, rfl, rfl, trivial⟩ rfl rfl
      · rw [if_neg h1, List.append_nil] at e2
        refine G_seq (G_region ?_)
        refine G_val (V_lss rfl rfl rfl) rfl rfl (.none rfl) ?_
        refine G_end (X_then (G_seq ?_))
        refine G_cond_t rfl (decide_eq_true (by omega)) ?_
        refine G_skip (X_then (G_seq (G_block (G_seq (G_region ?_)))))
        refine G_val (V_idxAddr rfl rfl rfl (SlE.rd (by assumption)) (by omega) (by omega)) rfl rfl (.none rfl) ?_
        refine G_val (V_loadAS rfl rfl (SlE.rd (by assumption)) (by assumption) (by simp) (by rfl)) rfl rfl (.none rfl) ?_
        (refine G_alloc rfl rfl rfl (.none rfl) ?_; intro b8)
        refine G_storeA rfl rfl rfl rfl (by simp [Value.oneCell']) rfl (.none rfl) (.head _ _ _) rfl ?_
        refine G_end (X_then (G_seq (G_region ?_)))
        refine G_val (V_fieldAddr rfl rfl (by decide)) rfl rfl (.none rfl) ?_
        refine G_val (V_load rfl rfl (Cell.own (.head _) rfl)) rfl rfl (.none rfl) ?_
        refine G_val (V_eql rfl rfl rfl) rfl rfl (.none rfl) ?_
        refine G_end (X_then ?_)
        refine G_cond_f rfl (decide_eq_false (by omega)) ?_
        refine G_skip (X_block (X_then (G_region ?_)))
        refine G_val (V_add_i64 rfl rfl rfl (by omega) (by omega)) rfl rfl (.none rfl) ?_
        refine G_val (V_move rfl rfl) rfl rfl (.none rfl) ?_
        refine G_end (X_then ?_)
        refine G.drop ?_
        exact G_again (i + 1, s) ⟨hlt, by simp only; rw [hs, e2]⟩ (by simp only; omega) ⟨rfl, rfl, rfl, rfl, trivial⟩ rfl rfl
    · have e : l.take i = l := List.take_of_length_le (by omega)
      rw [e] at hs
      refine G_seq (G_region ?_)
      refine G_val (V_lss rfl rfl rfl) rfl rfl (.none rfl) ?_
      refine G_end (X_then (G_seq ?_))
      refine G_cond_f rfl (decide_eq_false (by omega)) ?_
      refine G_exit (X_then_exit (X_then_exit (X_block_hit (X_then (G_seq (G_region ?_))))))
      refine G_call (k := 36) (.mk rfl rfl rfl rfl) rfl rfl (.none rfl) (BString_call _ _ _ _ (by omega)) ?_
      rintro r1 E2 L3 hE4 ⟨rfl, ⟨rfl, rfl⟩⟩
      replace hl := hl.mono hE4
      refine G_val (V_assign rfl rfl) rfl rfl (.none rfl) ?_
      refine G_val (V_assign rfl rfl) rfl rfl (.none rfl) ?_
      refine G_end (X_then (G_ret ?_))
      refine G_leaveS (.nil _) (by exact (.cons (.tmp rfl) (.cons (.tmp rfl) (.nil)))) rfl ?_ ?_
      · exact (.refl _)
      exact ⟨(by (simp [resVal, *]; done)), (by rfl)⟩
  · rw [fedM, if_neg h]
    refine G_seq (G_region ?_)
    refine G_val (V_assign rfl rfl) rfl rfl (.none rfl) ?_
    refine G_val (V_assign rfl rfl) rfl rfl (.none rfl) ?_
    refine G_end (X_then (G_seq (G_seq (G_region ?_))))
    refine G_val (V_move rfl rfl) rfl rfl (.none rfl) ?_
    refine G_callv (k := 26) (.mk rfl rfl rfl rfl) rfl rfl (.none rfl) (List_call _ _ _ _ _ (by assumption) (by assumption)) ?_
    refine G_val (V_move rfl rfl) rfl rfl (.none rfl) ?_
    refine G_val (V_extract rfl rfl rfl) rfl rfl (.none rfl) ?_
    refine G_val (V_extract rfl rfl rfl) rfl rfl (.none rfl) ?_
    refine G_val (V_assign rfl rfl) rfl rfl (.none rfl) ?_
    refine G_val (V_assign rfl rfl) rfl rfl (.none rfl) ?_
    refine G_end (X_then (G_seq (G_region ?_)))
    refine G_val (V_move rfl rfl) rfl rfl (.none rfl) ?_
    refine G_val (V_neq rfl rfl rfl) rfl rfl (.none rfl) ?_
    refine G_end (X_then ?_)
    refine G_cond_t rfl (decide_eq_true (by omega)) ?_
    refine G_seq (G_region ?_)
    refine G_val (V_move rfl rfl) rfl rfl (.none rfl) ?_
    refine G_val (V_assign rfl rfl) rfl rfl (.none rfl) ?_
    refine G_val (V_assign rfl rfl) rfl rfl (.none rfl) ?_
    refine G_end (X_then (G_ret (X_then_ret ?_)))
    refine G_leaveS (.nil _) (by exact (.cons (.tmp rfl) (.cons (.tmp rfl) (.nil)))) rfl ?_ ?_
    · exact (.refl _)
    exact ⟨rfl, rfl⟩
theorem FedR_call : CallS Tryd.prog 25 #[.slice p l.length c] E L (fun r E' L' => r = .tuple #[.string (S (fedM l).1), .int .i64 (fedM l).2] ∧ L' = L) := by
  refine CallS.intro (l := [_]) _ Tryd.func25 rfl Tryd.ntmps25 rfl ?_
  by_cases h : (listM l).1 = 0
  · obtain ⟨h200, hok⟩ := listM_zero h
    have hle := chunksT_le hok
    rw [fedM, if_pos h]
    refine G_seq (G_region ?_)
    refine G_val (V_assign rfl rfl) rfl rfl (.none rfl) ?_
    refine G_val (V_assign rfl rfl) rfl rfl (.none rfl) ?_
    refine G_end (X_then (G_seq (G_seq (G_region ?_))))
    refine G_val (V_move rfl rfl) rfl rfl (.none rfl) ?_
    refine G_callv (k := 27) (.mk rfl rfl rfl rfl) rfl rfl (.none rfl) (ListR_call _ _ _ _ _ (by assumption) (by assumption)) ?_
    refine G_val (V_move rfl rfl) rfl rfl (.none rfl) ?_
    refine G_val (V_extract rfl rfl rfl) rfl rfl (.none rfl) ?_
    refine G_val (V_extract rfl rfl rfl) rfl rfl (.none rfl) ?_
    refine G_val (V_assign rfl rfl) rfl rfl (.none rfl) ?_
    refine G_val (V_assign rfl rfl) rfl rfl (.none rfl) ?_
    refine G_end (X_then (G_seq (G_region ?_)))
    refine G_val (V_move rfl rfl) rfl rfl (.none rfl) ?_
    refine G_val (V_neq rfl rfl rfl) rfl rfl (.none rfl) ?_
    refine G_end (X_then ?_)
    refine G_cond_f rfl (decide_eq_false (by omega)) ?_
    refine G_skip (X_then (G_seq (G_region ?_)))
    refine G_val (V_assign rfl rfl) rfl rfl (.none rfl) ?_
    refine G_end (X_then (G_seq (G_seq (G_region ?_))))
    refine G_val (V_assign rfl rfl) rfl rfl (.none rfl) ?_
    refine G_end (X_then (G_block ?_))
    refine G_loop (α := Nat × List UInt8) (fun x => [(0, .slice p l.length c), (6, .string (S x.2)), (7, .int .i64 x.1)]) (fun _ => E) (fun _ => L)
      (fun x => x.1 ≤ l.length ∧ x.2 = chunksT (l.take x.1)) (fun x => l.length - x.1) (0, []) ⟨Nat.zero_le _, rfl⟩ ⟨rfl, rfl, rfl, trivial⟩ rfl rfl ?_
    rintro ⟨i, s⟩ ⟨hi, hs⟩
    simp only at hi hs ⊢
    have hsl := congrArg List.length hs
    have htk := chunksT_le (l := l.take i) fun c hc => hok c (List.mem_of_mem_take hc)
    rw [List.length_take] at htk
    by_cases hlt : i < l.length
    · have hx := cls_get (List.getElem?_eq_getElem hlt)
      have hx0 := cls_at hlt 0 (v := .int .i64 l[i].k) rfl
      have hx2 := cls_at hlt 2 (v := .string (S l[i].t)) rfl
      have hz := hok _ (List.getElem_mem hlt)
      obtain ⟨q1, q2, q3, q4, q5⟩ := chk_zero.1 hz
      have e2 := chunksT_snoc hlt
      by_cases h1 : l[i].k = 1
      · rw [if_pos h1] at e2
        refine G_seq (G_seq (G_region ?_))
        refine G_val (V_move rfl rfl) rfl rfl (.none rfl) ?_
        refine G_val (V_move rfl rfl) rfl rfl (.none rfl) ?_
        refine G_val (V_lenS rfl rfl) rfl rfl (.none rfl) ?_
        refine G_val (V_lss rfl rfl rfl) rfl rfl (.none rfl) ?_
        refine G_end (X_then ?_)
        refine G_cond_t rfl (decide_eq_true (by omega)) ?_
        refine G_skip (X_then (G_seq (G_block (G_seq (G_region ?_)))))
        refine G_val (V_move rfl rfl) rfl rfl (.none rfl) ?_
        refine G_val (V_move rfl rfl) rfl rfl (.none rfl) ?_
        refine G_val (V_idxAddr rfl rfl rfl (SlE.rd (by assumption)) (by omega) (by omega)) rfl rfl (.none rfl) ?_
        refine G_val (V_fieldAddrE rfl rfl (by assumption) (by omega) (by decide)) rfl rfl (.none rfl) ?_
        refine G_val (V_loadS rfl rfl (SlE.rd (by assumption)) hx0 (by simp)) rfl rfl (.none rfl) ?_
        refine G_val (V_eql rfl rfl rfl) rfl rfl (.none rfl) ?_
        refine G_end (X_then ?_)
        refine G_cond_t rfl (decide_eq_true (by omega)) ?_
        refine G_region ?_
        refine G_val (V_move rfl rfl) rfl rfl (.none rfl) ?_
        refine G_val (V_move rfl rfl) rfl rfl (.none rfl) ?_
        refine G_val (V_move rfl rfl) rfl rfl (.none rfl) ?_
        refine G_val (V_idxAddr rfl rfl rfl (SlE.rd (by assumption)) (by omega) (by omega)) rfl rfl (.none rfl) ?_
        refine G_val (V_fieldAddrE rfl rfl (by assumption) (by omega) (by decide)) rfl rfl (.none rfl) ?_
        refine G_val (V_loadS rfl rfl (SlE.rd (by assumption)) (by assumption) (by simp)) rfl rfl (.none rfl) ?_
        refine G_val (V_cat rfl rfl rfl (by omega)) rfl rfl (.none rfl) ?_
        refine G_val (V_assign rfl rfl) rfl rfl (.none rfl) ?_
        refine G_end (X_block (X_then (G_region ?_)))
        refine G_val (V_move rfl rfl) rfl rfl (.none rfl) ?_
        refine G_val (V_add_i64 rfl rfl rfl (by omega) (by omega)) rfl rfl (.none rfl) ?_
        refine G_val (V_assign rfl rfl) rfl rfl (.none rfl) ?_
        refine G_end (X_then ?_)
        refine G_again (i + 1, s ++ l[i].t) ⟨hlt, by simp only; rw [hs, e2]⟩ (by simp only; omega) ⟨rfl, rfl, rfl, trivial⟩ rfl rfl
      · rw [if_neg h1, List.append_nil] at e2
        refine G_seq (G_seq (G_region ?_))
        refine G_val (V_move rfl rfl) rfl rfl (.none rfl) ?_
        refine G_val (V_move rfl rfl) rfl rfl (.none rfl) ?_
        refine G_val (V_lenS rfl rfl) rfl rfl (.none rfl) ?_
        refine G_val (V_lss rfl rfl rfl) rfl rfl (.none rfl) ?_
        refine G_end (X_then ?_)
        refine G_cond_t rfl (decide_eq_true (by omega)) ?_
        refine G_skip (X_then (G_seq (G_block (G_seq (G_region ?_)))))
        refine G_val (V_move rfl rfl) rfl rfl (.none rfl) ?_
        refine G_val (V_move rfl rfl) rfl rfl (.none rfl) ?_
        refine G_val (V_idxAddr rfl rfl rfl (SlE.rd (by assumption)) (by omega) (by omega)) rfl rfl (.none rfl) ?_
        refine G_val (V_fieldAddrE rfl rfl (by assumption) (by omega) (by decide)) rfl rfl (.none rfl) ?_
        refine G_val (V_loadS rfl rfl (SlE.rd (by assumption)) hx0 (by simp)) rfl rfl (.none rfl) ?_
        refine G_val (V_eql rfl rfl rfl) rfl rfl (.none rfl) ?_
        refine G_end (X_then ?_)
        refine G_cond_f rfl (decide_eq_false (by omega)) ?_
        refine G_skip (X_block (X_then (G_region ?_)))
        refine G_val (V_move rfl rfl) rfl rfl (.none rfl) ?_
        refine G_val (V_add_i64 rfl rfl rfl (by omega) (by omega)) rfl rfl (.none rfl) ?_
        refine G_val (V_assign rfl rfl) rfl rfl (.none rfl) ?_
        refine G_end (X_then ?_)
        exact G_again (i + 1, s) ⟨hlt, by simp only; rw [hs, e2]⟩ (by simp only; omega) ⟨rfl, rfl, rfl, trivial⟩ rfl rfl
    · have e : l.take i = l := List.take_of_length_le (by omega)
      rw [e] at hs
      rw [← hs]
      refine G_seq (G_seq (G_region ?_))
      refine G_val (V_move rfl rfl) rfl rfl (.none rfl) ?_
      refine G_val (V_move rfl rfl) rfl rfl (.none rfl) ?_
      refine G_val (V_lenS rfl rfl) rfl rfl (.none rfl) ?_
      refine G_val (V_lss rfl rfl rfl) rfl rfl (.none rfl) ?_
      refine G_end (X_then ?_)
      refine G_cond_f rfl (decide_eq_false (by omega)) ?_
      refine G_exit (X_then_exit (X_then_exit (X_block_hit (X_then (G_seq (G_region ?_))))))
      refine G_val (V_move rfl rfl) rfl rfl (.none rfl) ?_
      refine G_val (V_assign rfl rfl) rfl rfl (.none rfl) ?_
      refine G_val (V_assign rfl rfl) rfl rfl (.none rfl) ?_
      refine G_end (X_then (G_ret ?_))
      refine G_leaveS (.nil _) (by exact (.cons (.tmp rfl) (.cons (.tmp rfl) (.nil)))) rfl ?_ ?_
      · exact (.refl _)
      exact ⟨rfl, rfl⟩
  · rw [fedM, if_neg h]
    refine G_seq (G_region ?_)
    refine G_val (V_assign rfl rfl) rfl rfl (.none rfl) ?_
    refine G_val (V_assign rfl rfl) rfl rfl (.none rfl) ?_
    refine G_end (X_then (G_seq (G_seq (G_region ?_))))
    refine G_val (V_move rfl rfl) rfl rfl (.none rfl) ?_
    refine G_callv (k := 27) (.mk rfl rfl rfl rfl) rfl rfl (.none rfl) (ListR_call _ _ _ _ _ (by assumption) (by assumption)) ?_
    refine G_val (V_move rfl rfl) rfl rfl (.none rfl) ?_
    refine G_val (V_extract rfl rfl rfl) rfl rfl (.none rfl) ?_
    refine G_val (V_extract rfl rfl rfl) rfl rfl (.none rfl) ?_
    refine G_val (V_assign rfl rfl) rfl rfl (.none rfl) ?_
    refine G_val (V_assign rfl rfl) rfl rfl (.none rfl) ?_
    refine G_end (X_then (G_seq (G_region ?_)))
    refine G_val (V_move rfl rfl) rfl rfl (.none rfl) ?_
    refine G_val (V_neq rfl rfl rfl) rfl rfl (.none rfl) ?_
    refine G_end (X_then ?_)
    refine G_cond_t rfl (decide_eq_true (by omega)) ?_
    refine G_seq (G_region ?_)
    refine G_val (V_move rfl rfl) rfl rfl (.none rfl) ?_
    refine G_val (V_assign rfl rfl) rfl rfl (.none rfl) ?_
    refine G_val (V_assign rfl rfl) rfl rfl (.none rfl) ?_
    refine G_end (X_then (G_ret (X_then_ret ?_)))
    refine G_leaveS (.nil _) (by exact (.cons (.tmp rfl) (.cons (.tmp rfl) (.nil)))) rfl ?_ ?_
    · exact (.refl _)
    exact ⟨rfl, rfl⟩
end
end Go.Proofs.YtpkingbclcalkaaDoor
set_option linter.unusedSimpArgs false
set_option linter.unusedVariables false
set_option maxHeartbeats 2000000
set_option maxRecDepth 20000
namespace Go.Proofs.YtpkingbclcalkaaDoor
open Go.RowKit

def kbyte (k : Int) : UInt8 := UInt8.ofNat (k % 256).toNat
theorem kbyte_wrap (k : Int) : IntKind.u8.wrap k = ((kbyte k).toNat : Int) := by
  have h1 : 0 ≤ k % 256 := by omega
  have h2 : k % 256 < 256 := by omega
  have e : (kbyte k).toNat = (k % 256).toNat := by
    simp only [kbyte, UInt8.toNat_ofNat']
    omega
  rw [e]
  simp [IntKind.wrap, IntKind.bits, IntKind.signed]
  omega
/-- n bytes made of a number. -/
def fillB : Nat → Int → List UInt8
  | 0, _ => []
  | n + 1, k => kbyte ((k * 75 + 74) % 65537) :: fillB n ((k * 75 + 74) % 65537)
theorem fillB_len (n : Nat) : ∀ k, (fillB n k).length = n := by
  induction n with
  | zero => intro k; rfl
  | succ n ih => intro k; simp [fillB, ih]
section
variable (E : Env) (L : List Res)
theorem Fill_call (k : Int) (hk0 : 0 ≤ k) (hk1 : k ≤ 100000000000000000) (n : Nat) (hn : n ≤ 1000) : CallV Tryd.prog 33 #[.int .i64 k, .int .i64 n] E L (.string (S (fillB n k))) := by
  refine CallS.toV (CallS.intro (l := [.int .i64 k, .int .i64 n]) _ Tryd.func33 rfl Tryd.ntmps33 rfl ?_)
  refine G_seq (G_region ?_)
  refine G_val (V_assign rfl rfl) rfl rfl (.none rfl) ?_
  refine G_end (X_then (G_seq (G_region ?_)))
  refine G_val (V_assign rfl rfl) rfl rfl (.none rfl) ?_
  refine G_end (X_then (G_seq (G_seq (G_region ?_))))
  refine G_val (V_assign rfl rfl) rfl rfl (.none rfl) ?_
  refine G_end (X_then (G_block ?_))
  refine G_loop (α := Nat × Int × List UInt8) (fun x => [(0, .int .i64 x.2.1), (1, .int .i64 n), (5, .string (S x.2.2)), (6, .int .i64 x.1)]) (fun _ => E) (fun _ => L)
    (fun x => x.1 ≤ n ∧ x.2.2 ++ fillB (n - x.1) x.2.1 = fillB n k ∧ x.2.2.length = x.1 ∧ 0 ≤ x.2.1 ∧ x.2.1 ≤ 100000000000000000) (fun x => n - x.1) (0, k, []) ⟨Nat.zero_le _, rfl, rfl, hk0, hk1⟩ ⟨rfl, rfl, rfl, rfl, trivial⟩ rfl rfl ?_
  rintro ⟨i, j, o⟩ ⟨hi, ho, hl, hj0, hj1⟩
  simp only at hi ho hl hj0 hj1 ⊢
  by_cases hlt : i < n
  · have e := kbyte_wrap ((j * 75 + 74) % 65537)
    have h1 : 0 ≤ (j * 75 + 74) % 65537 := by omega
    have h2 : (j * 75 + 74) % 65537 < 65537 := by omega
    refine G_seq (G_seq (G_region ?_))
    refine G_val (V_move rfl rfl) rfl rfl (.none rfl) ?_
    refine G_val (V_move rfl rfl) rfl rfl (.none rfl) ?_
    refine G_val (V_lss rfl rfl rfl) rfl rfl (.none rfl) ?_
    refine G_end (X_then ?_)
    refine G_cond_t rfl (decide_eq_true (by omega)) ?_
    refine G_skip (X_then (G_seq (G_block (G_seq (G_region ?_)))))
    refine G_val (V_move rfl rfl) rfl rfl (.none rfl) ?_
    refine G_val (V_mul_i64 rfl rfl rfl (by omega) (by omega)) rfl rfl (.none rfl) ?_
    refine G_val (V_add_i64 rfl rfl rfl (by omega) (by omega)) rfl rfl (.none rfl) ?_
    refine G_callv (k := 11) (.mk rfl rfl rfl rfl) rfl rfl (.none rfl) (Mod_call' _ _ _ _ (by omega) (by omega)) ?_
    refine G_val (V_assign rfl rfl) rfl rfl (.none rfl) ?_
    refine G_end (X_then (G_region ?_))
    refine G_val (V_move rfl rfl) rfl rfl (.none rfl) ?_
    refine G_val (V_move rfl rfl) rfl rfl (.none rfl) ?_
    refine G_val (V_conv rfl rfl) rfl rfl (.none rfl) ?_
    (refine G_lit1 rfl rfl rfl rfl rfl (.none rfl) ?_; intro b19)
    rw [e]
    refine G_val (V_b2s (l := [_]) rfl rfl (Rd.lit (.head _) rfl)) rfl rfl (.none rfl) ?_
    refine G_val (V_cat rfl rfl rfl (by simp; omega)) rfl rfl (.none rfl) ?_
    refine G_val (V_assign rfl rfl) rfl rfl (.none rfl) ?_
    refine G_end (X_block (X_then (G_region ?_)))
    refine G_val (V_move rfl rfl) rfl rfl (.none rfl) ?_
    refine G_val (V_add_i64 rfl rfl rfl (by omega) (by omega)) rfl rfl (.none rfl) ?_
    refine G_val (V_assign rfl rfl) rfl rfl (.none rfl) ?_
    refine G_end (X_then ?_)
    refine G.drop ?_
    generalize hj' : (j * 75 + 74) % 65537 = j' at *
    refine G_again (i + 1, j', o ++ [kbyte j']) ⟨hlt, ?_, by simp [hl], h1, by simp only; omega⟩ (by simp only; omega) ⟨rfl, rfl, rfl, rfl, trivial⟩ rfl rfl
    simp only
    rw [← ho, show n - i = (n - (i + 1)) + 1 by omega, fillB, List.append_assoc, hj']
    rfl
  · have hin : i = n := by omega
    subst hin
    rw [Nat.sub_self, fillB, List.append_nil] at ho
    rw [← ho]
    refine G_seq (G_seq (G_region ?_))
    refine G_val (V_move rfl rfl) rfl rfl (.none rfl) ?_
    refine G_val (V_move rfl rfl) rfl rfl (.none rfl) ?_
    refine G_val (V_lss rfl rfl rfl) rfl rfl (.none rfl) ?_
    refine G_end (X_then ?_)
    refine G_cond_f rfl (decide_eq_false (by omega)) ?_
    refine G_exit (X_then_exit (X_then_exit (X_block_hit (X_then (G_seq (G_region ?_))))))
    refine G_val (V_move rfl rfl) rfl rfl (.none rfl) ?_
    refine G_val (V_assign rfl rfl) rfl rfl (.none rfl) ?_
    refine G_end (X_then (G_ret ?_))
    refine G_leaveS (.nil _) (by exact (.cons (.tmp rfl) (.nil))) rfl ?_ ?_
    · exact (.refl _)
    exact ⟨rfl, rfl⟩
end
end Go.Proofs.YtpkingbclcalkaaDoor
set_option linter.unusedSimpArgs false
set_option linter.unusedVariables false
set_option maxHeartbeats 2000000
set_option maxRecDepth 20000
namespace Go.Proofs.YtpkingbclcalkaaDoor
open Go.RowKit
section
variable (E : Env) (L : List Res)
theorem SameCalls_call' (p q : Option Addr) (n m c d : Nat) (xs ys : List Cl) (hx : SlE E 3 p n (cls xs)) (hy : SlE E 3 q m (cls ys)) (hn : n ≤ 9223372036854775806) (hm : m ≤ 9223372036854775806) :
    CallV Tryd.prog 14 #[.slice p n c, .slice q m d] E L (.bool (decide (xs = ys))) := by
  have e1 := hx.nC
  have e2 := hy.nC
  subst e1 e2
  refine CallS.toV (CallS.intro (l := [_, _]) _ Tryd.func14 rfl Tryd.ntmps14 rfl ?_)
  by_cases hl : xs.length = ys.length
  · refine G_seq ?_
    refine G_region ?_
    refine G_val (V_assign rfl rfl) rfl rfl (.none rfl) ?_
    refine G_end (X_then (G_seq (G_seq (G_region ?_))))
    refine G_val (V_move rfl rfl) rfl rfl (.none rfl) ?_
    refine G_val (V_lenS rfl rfl) rfl rfl (.none rfl) ?_
    refine G_val (V_move rfl rfl) rfl rfl (.none rfl) ?_
    refine G_val (V_lenS rfl rfl) rfl rfl (.none rfl) ?_
    refine G_val (V_neq rfl rfl rfl) rfl rfl (.none rfl) ?_
    refine G_end (X_then ?_)
    refine G_cond_f rfl (decide_eq_false (by omega)) ?_
    refine G_skip (X_then (G_seq (G_seq (G_region ?_))))
    refine G_val (V_assign rfl rfl) rfl rfl (.none rfl) ?_
    refine G_end (X_then (G_block ?_))
    refine G_loop (α := Nat) (fun i => [(0, .slice p xs.length c), (1, .slice q ys.length d), (5, .int .i64 i)]) (fun _ => E) (fun _ => L)
      (fun i => i ≤ xs.length ∧ xs.take i = ys.take i) (fun i => xs.length - i) 0 ⟨Nat.zero_le _, rfl⟩ ⟨rfl, rfl, rfl, trivial⟩ rfl rfl ?_
    rintro i ⟨hi, he⟩
    by_cases hlt : i < xs.length
    · have hx1 := cls_get (List.getElem?_eq_getElem hlt)
      have hy1 := cls_get (List.getElem?_eq_getElem (show i < ys.length by omega))
      by_cases hc : xs[i] = ys[i]
      · have hc2 : xs[i].k = ys[i].k ∧ xs[i].n = ys[i].n ∧ xs[i].t = ys[i].t := by rw [hc]; exact ⟨rfl, rfl, rfl⟩
        refine G_seq (G_seq (G_region ?_))
        refine G_val (V_move rfl rfl) rfl rfl (.none rfl) ?_
        refine G_val (V_move rfl rfl) rfl rfl (.none rfl) ?_
        refine G_val (V_lenS rfl rfl) rfl rfl (.none rfl) ?_
        refine G_val (V_lss rfl rfl rfl) rfl rfl (.none rfl) ?_
        refine G_end (X_then ?_)
        refine G_cond_t rfl (decide_eq_true (by omega)) ?_
        refine G_skip (X_then (G_seq (G_block (G_seq ?_))))
        refine G_draw mixed (by kernel_rfl) ?_
        refine Q_val (V_move rfl rfl) rfl rfl (.none rfl) ?_
        refine Q_val (V_move rfl rfl) rfl rfl (.none rfl) ?_
        refine Q_val (V_idxAddr rfl rfl rfl (SlE.rd (by assumption)) (by omega) (by omega)) rfl rfl (.none rfl) ?_
        refine Q_val (V_loadAS rfl rfl (SlE.rd (by assumption)) (by assumption) (by simp) (by rfl)) rfl rfl (.none rfl) ?_
        refine Q_val (V_move rfl rfl) rfl rfl (.none rfl) ?_
        refine Q_val (V_move rfl rfl) rfl rfl (.none rfl) ?_
        refine Q_val (V_idxAddr rfl rfl rfl (SlE.rd (by assumption)) (by omega) (by omega)) rfl rfl (.none rfl) ?_
        refine Q_val (V_loadAS rfl rfl (SlE.rd (by assumption)) (by assumption) (by simp) (by rfl)) rfl rfl (.none rfl) ?_
        refine Q_val (V_aneq_41 rfl rfl rfl) rfl rfl (.none rfl) ?_
        refine Q_end ?_
        refine X_then ?_
        refine G_cond_f rfl (by simp [*]; done) ?_
        refine G_skip (X_block (X_then (G_region ?_)))
        refine G_val (V_move rfl rfl) rfl rfl (.none rfl) ?_
        refine G_val (V_add_i64 rfl rfl rfl (by omega) (by omega)) rfl rfl (.none rfl) ?_
        refine G_val (V_assign rfl rfl) rfl rfl (.none rfl) ?_
        refine G_end (X_then ?_)
        exact G_again (i + 1) ⟨hlt, take_next he hlt (by omega) hc⟩ (by omega) ⟨rfl, rfl, rfl, trivial⟩ rfl rfl
      · have hc2 : ¬ (xs[i].k = ys[i].k ∧ xs[i].n = ys[i].n ∧ xs[i].t = ys[i].t) := fun ⟨h1, h2, h3⟩ => hc (by
          generalize xs[i] = a at *
          generalize ys[i] = b at *
          cases a; cases b
          simp only at h1 h2 h3
          subst h1 h2 h3; rfl)
        have hne : ¬ xs = ys := fun h => hc (by simp only [h])
        refine G_seq (G_seq (G_region ?_))
        refine G_val (V_move rfl rfl) rfl rfl (.none rfl) ?_
        refine G_val (V_move rfl rfl) rfl rfl (.none rfl) ?_
        refine G_val (V_lenS rfl rfl) rfl rfl (.none rfl) ?_
        refine G_val (V_lss rfl rfl rfl) rfl rfl (.none rfl) ?_
        refine G_end (X_then ?_)
        refine G_cond_t rfl (decide_eq_true (by omega)) ?_
        refine G_skip (X_then (G_seq (G_block (G_seq ?_))))
        refine G_draw mixed (by kernel_rfl) ?_
        refine Q_val (V_move rfl rfl) rfl rfl (.none rfl) ?_
        refine Q_val (V_move rfl rfl) rfl rfl (.none rfl) ?_
        refine Q_val (V_idxAddr rfl rfl rfl (SlE.rd (by assumption)) (by omega) (by omega)) rfl rfl (.none rfl) ?_
        refine Q_val (V_loadAS rfl rfl (SlE.rd (by assumption)) (by assumption) (by simp) (by rfl)) rfl rfl (.none rfl) ?_
        refine Q_val (V_move rfl rfl) rfl rfl (.none rfl) ?_
        refine Q_val (V_move rfl rfl) rfl rfl (.none rfl) ?_
        refine Q_val (V_idxAddr rfl rfl rfl (SlE.rd (by assumption)) (by omega) (by omega)) rfl rfl (.none rfl) ?_
        refine Q_val (V_loadAS rfl rfl (SlE.rd (by assumption)) (by assumption) (by simp) (by rfl)) rfl rfl (.none rfl) ?_
        refine Q_val (V_aneq_41 rfl rfl rfl) rfl rfl (.none rfl) ?_
        refine Q_end ?_
        refine X_then ?_
        refine G_cond_t rfl (decide_eq_true (by omega)) ?_
        refine G_seq (G_region ?_)
        refine G_val (V_assign rfl rfl) rfl rfl (.none rfl) ?_
        refine G_end (X_then (G_ret (X_block_ret (X_then_ret (X_then_ret (X_block_ret (X_then_ret ?_)))))))
        refine G_leaveS (.nil _) (by exact (.cons (.tmp rfl) (.nil))) rfl ?_ ?_
        · exact (.refl _)
        exact ⟨(by (simp [resVal, *]; done)), (by rfl)⟩
    · rw [List.take_of_length_le (by omega), List.take_of_length_le (by omega)] at he
      refine G_seq (G_seq (G_region ?_))
      refine G_val (V_move rfl rfl) rfl rfl (.none rfl) ?_
      refine G_val (V_move rfl rfl) rfl rfl (.none rfl) ?_
      refine G_val (V_lenS rfl rfl) rfl rfl (.none rfl) ?_
      refine G_val (V_lss rfl rfl rfl) rfl rfl (.none rfl) ?_
      refine G_end (X_then ?_)
      refine G_cond_f rfl (decide_eq_false (by omega)) ?_
      refine G_exit (X_then_exit (X_then_exit (X_block_hit (X_then (G_seq (G_region ?_))))))
      refine G_val (V_assign rfl rfl) rfl rfl (.none rfl) ?_
      refine G_end (X_then (G_ret ?_))
      refine G_leaveS (.nil _) (by exact (.cons (.tmp rfl) (.nil))) rfl ?_ ?_
      · exact (.refl _)
      exact ⟨(by (simp [resVal, *]; done)), (by rfl)⟩
  · have hne : ¬ xs = ys := fun h => hl (by rw [h])
    refine G_seq (G_region ?_)
    refine G_val (V_assign rfl rfl) rfl rfl (.none rfl) ?_
    refine G_end (X_then (G_seq (G_seq (G_region ?_))))
    refine G_val (V_move rfl rfl) rfl rfl (.none rfl) ?_
    refine G_val (V_lenS rfl rfl) rfl rfl (.none rfl) ?_
    refine G_val (V_move rfl rfl) rfl rfl (.none rfl) ?_
    refine G_val (V_lenS rfl rfl) rfl rfl (.none rfl) ?_
    refine G_val (V_neq rfl rfl rfl) rfl rfl (.none rfl) ?_
    refine G_end (X_then ?_)
    refine G_cond_t rfl (decide_eq_true (by omega)) ?_
    refine G_seq (G_region ?_)
    refine G_val (V_assign rfl rfl) rfl rfl (.none rfl) ?_
    refine G_end (X_then (G_ret (X_then_ret ?_)))
    refine G_leaveS (.nil _) (by exact (.cons (.tmp rfl) (.nil))) rfl ?_ ?_
    · exact (.refl _)
    exact ⟨(by (simp [resVal, *]; done)), (by rfl)⟩
end
end Go.Proofs.YtpkingbclcalkaaDoor
set_option linter.unusedSimpArgs false
set_option linter.unusedVariables false
set_option maxHeartbeats 2000000
set_option maxRecDepth 20000
namespace Go.Proofs.YtpkingbclcalkaaDoor
open Go.RowKit
theorem comb_len (out : List Cl) (q : PR) : (comb out q).1.length ≤ out.length + q.1.length := by
  unfold comb
  split
  · exact Nat.zero_le _
  · simp
theorem parseF_len : ∀ (f : Nat) (s : List UInt8) (a c : Nat), c ≤ 200 → (parseF f s a c).1.length + c ≤ 200 := by
  intro f
  induction f with
  | zero => intro s a c h; show 0 + c ≤ 200; omega
  | succ f ih =>
    intro s a c h
    by_cases h0 : s = []
    · subst h0; show 0 + c ≤ 200; omega
    · cases h2 : (cutB 10 s).2.2 with
      | false => rw [parseF_cut h0 h2]; show 0 + c ≤ 200; omega
      | true =>
        by_cases h3 : lerr (cutB 10 s).1 c = 0
        · have hz := lerr_zero h3
          rw [parseF_ok h0 h2 h3]
          have h4 := ih (cutB 10 s).2.1 (a + (cutB 10 s).1.length + 1) (c + 1) (by omega)
          have h5 := comb_len [(lineM (cutB 10 s).1).1] (parseF f (cutB 10 s).2.1 (a + (cutB 10 s).1.length + 1) (c + 1))
          rw [List.length_singleton] at h5
          omega
        · rw [parseF_err h0 h2 h3]; show 0 + c ≤ 200; omega
theorem parseM_len (s : List UInt8) : (parseM s).1.length ≤ 200 := by
  unfold parseM
  split
  · exact Nat.zero_le _
  · have := parseF_len (s.length + 1) s 0 0 (by omega)
    omega
section
variable (E : Env) (L : List Res) (p : Option Addr) (n c : Nat) (l : List Cl) (hl : SlE E 3 p n (cls l)) (hn : n ≤ 9223372036854775806)
include hl hn
theorem Text_call' : CallS Tryd.prog 10 #[.slice p n c] E L (fun r E' L' => r = .tuple #[.string (S (textM l).1), .int .i64 (textM l).2] ∧ L' = L) := by
  have e := hl.nC
  subst e
  exact Text_call E L p c l hl hn
theorem TextR_call' : CallS Tryd.prog 24 #[.slice p n c] E L (fun r E' L' => r = .tuple #[.string (S (textM l).1), .int .i64 (textM l).2] ∧ L' = L) := by
  have e := hl.nC
  subst e
  exact TextR_call E L p c l hl hn
theorem Fed_call' : CallS Tryd.prog 22 #[.slice p n c] E L (fun r E' L' => r = .tuple #[.string (S (fedM l).1), .int .i64 (fedM l).2] ∧ L' = L) := by
  have e := hl.nC
  subst e
  exact Fed_call E L p c l hl hn
theorem FedR_call' : CallS Tryd.prog 25 #[.slice p n c] E L (fun r E' L' => r = .tuple #[.string (S (fedM l).1), .int .i64 (fedM l).2] ∧ L' = L) := by
  have e := hl.nC
  subst e
  exact FedR_call E L p c l hl hn
theorem List_call' : CallV Tryd.prog 26 #[.slice p n c] E L (.tuple #[.int .i64 (listM l).1, .int .i64 (listM l).2]) := by
  have e := hl.nC
  subst e
  exact List_call E L p c l hl hn
theorem ListR_call' : CallV Tryd.prog 27 #[.slice p n c] E L (.tuple #[.int .i64 (listM l).1, .int .i64 (listM l).2]) := by
  have e := hl.nC
  subst e
  exact ListR_call E L p c l hl hn
end
theorem Parse_call' (E : Env) (L : List Res) (s : List UInt8) (hs : s.length ≤ 1000000000) : CallS Tryd.prog 12 #[.string (S s)] E L (fun r E' L' => ∃ p c, r = .tuple #[.slice p (parseM s).1.length c, .agg #[.int .i64 (parseM s).2.1, .int .i64 (parseM s).2.2]] ∧ SlE E' 3 p (parseM s).1.length (cls (parseM s).1) ∧ (parseM s).1.length ≤ 200 ∧ (parseM s).1.length ≤ c ∧ L' = L) :=
  (Parse_call E L s hs).mono fun r E' L' hE ⟨p, c, h1, h2, h4, h3⟩ => ⟨p, c, h1, h2, parseM_len s, h4, h3⟩
theorem ParseR_call' (E : Env) (L : List Res) (s : List UInt8) (hs : s.length ≤ 1000000000) : CallS Tryd.prog 15 #[.string (S s)] E L (fun r E' L' => ∃ p c, r = .tuple #[.slice p (parseM s).1.length c, .agg #[.int .i64 (parseM s).2.1, .int .i64 (parseM s).2.2]] ∧ SlE E' 3 p (parseM s).1.length (cls (parseM s).1) ∧ (parseM s).1.length ≤ 200 ∧ L' = L) :=
  (ParseR_call E L s hs).mono fun r E' L' hE ⟨p, c, h1, h2, h3⟩ => ⟨p, c, h1, h2, parseM_len s, h3⟩
abbrev exL : List Cl := [⟨1, 0, [0, 255]⟩, ⟨2, 0, []⟩, ⟨3, 9, []⟩, ⟨4, 0, []⟩, ⟨5, 0, []⟩, ⟨1, 0, []⟩]
section
variable (E : Env) (L : List Res)
theorem example_call : CallS Tryd.prog 40 #[] E L (fun r E' L' => ∃ b, r = .slice (some ⟨b, 0, none⟩) 6 6 ∧ SlE E' 3 (some ⟨b, 0, none⟩) 6 (cls exL) ∧ L' = L) := by
  refine CallS.intro (l := []) _ Tryd.func40 rfl Tryd.ntmps40 rfl ?_
  refine G_seq (G_region ?_)
  refine G_val (V_assign rfl rfl) rfl rfl (.none rfl) ?_
  refine G_end (X_then (G_seq (G_region ?_)))
  refine G_val (V_build rfl rfl (by simp [fillV, setLs, setL, Value.cells]; rfl)) rfl rfl (.none rfl) ?_
  refine G_val (V_build rfl rfl (by simp [fillV, setLs, setL, Value.cells]; rfl)) rfl rfl (.none rfl) ?_
  refine G_val (V_build rfl rfl (by simp [fillV, setLs, setL, Value.cells]; rfl)) rfl rfl (.none rfl) ?_
  refine G_val (V_build rfl rfl (by simp [fillV, setLs, setL, Value.cells]; rfl)) rfl rfl (.none rfl) ?_
  refine G_val (V_build rfl rfl (by simp [fillV, setLs, setL, Value.cells]; rfl)) rfl rfl (.none rfl) ?_
  refine G_val (V_build rfl rfl (by simp [fillV, setLs, setL, Value.cells]; rfl)) rfl rfl (.none rfl) ?_
  (refine G_lit rfl rfl (by decide) (by simp [fillS, zeros, setLs, setL, Value.cells, List.range, List.range.loop]; rfl) rfl rfl (.none rfl) ?_; intro b7)
  refine G_val (V_assign rfl rfl) rfl rfl (.none rfl) ?_
  refine G_end (X_then (G_ret ?_))
  refine G.freeze (.head _ _) ?_
  intro E1 hE1 hok
  have hs : SlE E1 3 (some ⟨b7, 0, none⟩) 6 (cls exL) := SlE.lit hok rfl
  refine G_leaveS (.nil _) (by exact (.cons (.tmp rfl) (.nil))) rfl ?_ ?_
  · exact hE1
  exact ⟨_, ⟨rfl, ⟨(by assumption), rfl⟩⟩⟩
theorem awake39_call : CallS Tryd.prog 13 #[] E L (fun r E' L' => r = .bool true ∧ L' = L) := by
  refine CallS.intro (l := []) _ Tryd.func13 rfl Tryd.ntmps13 rfl ?_
  refine G_seq (G_region ?_)
  refine G_val (V_assign rfl rfl) rfl rfl (.none rfl) ?_
  refine G_end (X_then (G_seq (G_region ?_)))
  refine G_call (k := 40) (.mk rfl rfl rfl rfl) rfl rfl (.none rfl) (example_call _ _) ?_
  rintro r1 E2 L3 hE4 ⟨z5, ⟨rfl, ⟨Z6, rfl⟩⟩⟩
  refine G_call (k := 10) (.mk rfl rfl rfl rfl) rfl rfl (.none rfl) (Text_call' _ _ _ _ _ _ (by assumption) (by omega)) ?_
  rintro r7 E8 L9 hE10 ⟨rfl, rfl⟩
  replace Z6 := Z6.mono hE10
  refine G_val (V_move rfl rfl) rfl rfl (.none rfl) ?_
  refine G_val (V_extract rfl rfl rfl) rfl rfl (.none rfl) ?_
  refine G_val (V_extract rfl rfl rfl) rfl rfl (.none rfl) ?_
  refine G_val (V_assign rfl rfl) rfl rfl (.none rfl) ?_
  refine G_val (V_assign rfl rfl) rfl rfl (.none rfl) ?_
  refine G_end (X_then (G_seq (G_region ?_)))
  refine G_call (k := 12) (.mk rfl rfl rfl rfl) rfl rfl (.none rfl) (Parse_call' _ _ _ (by (simp; done))) ?_
  rintro r11 E12 L13 hE14 ⟨z15, ⟨z16, ⟨rfl, ⟨Z17, ⟨Z18, ⟨Z19, rfl⟩⟩⟩⟩⟩⟩
  replace Z6 := Z6.mono hE14
  refine G_val (V_move rfl rfl) rfl rfl (.none rfl) ?_
  refine G_val (V_extract rfl rfl rfl) rfl rfl (.none rfl) ?_
  refine G_val (V_extract rfl rfl rfl) rfl rfl (.none rfl) ?_
  (refine G_alloc rfl rfl rfl (.none rfl) ?_; intro b4)
  refine G_val (V_assign rfl rfl) rfl rfl (.none rfl) ?_
  refine G_storeA rfl rfl rfl rfl (by simp [Value.oneCell']) rfl (.none rfl) (.head _ _ _) rfl ?_
  refine G_end (X_then (G_seq (G_region ?_)))
  refine G_val (V_move rfl rfl) rfl rfl (.none rfl) ?_
  refine G_val (V_seql rfl rfl rfl) rfl rfl (.none rfl) ?_
  refine G_val (V_move rfl rfl) rfl rfl (.none rfl) ?_
  refine G.bool_t 16 rfl (by kernel_rfl) ?_
  refine G_val (V_move rfl rfl) rfl rfl (.yes rfl rfl rfl rfl) ?_
  refine G_val (V_eql rfl rfl rfl) rfl rfl (.yes rfl rfl rfl rfl) ?_
  refine G_val (V_pick_t rfl rfl rfl) rfl rfl (.none rfl) ?_
  refine G_val (V_move rfl rfl) rfl rfl (.none rfl) ?_
  refine G.bool_t 20 rfl (by kernel_rfl) ?_
  refine G_val (V_move rfl rfl) rfl rfl (.yes rfl rfl rfl rfl) ?_
  refine G_call (k := 40) (.mk rfl rfl rfl rfl) rfl rfl (.yes rfl rfl rfl rfl) (example_call _ _) ?_
  rintro r20 E21 L22 hE23 ⟨z24, ⟨rfl, ⟨Z25, rfl⟩⟩⟩
  replace Z17 := Z17.mono hE23
  replace Z6 := Z6.mono hE23
  refine G_callv (k := 14) (.mk rfl rfl rfl rfl) rfl rfl (.yes rfl rfl rfl rfl) (SameCalls_call' _ _ _ _ _ _ _ _ _ _ (by assumption) (by assumption) (by omega) (by omega)) ?_
  refine G_val (V_pick_t rfl rfl rfl) rfl rfl (.none rfl) ?_
  refine G_val (V_move rfl rfl) rfl rfl (.none rfl) ?_
  refine G.bool_t 25 rfl (by kernel_rfl) ?_
  refine G_val (V_loadA rfl rfl (Cells.own (.head _)) rfl) rfl rfl (.yes rfl rfl rfl rfl) ?_
  refine G_val (V_build rfl rfl (by simp [fillV, setLs, setL, Value.cells]; rfl)) rfl rfl (.yes rfl rfl rfl rfl) ?_
  refine G_val (V_aeql_30 rfl rfl rfl) rfl rfl (.yes rfl rfl rfl rfl) ?_
  refine G_val (V_pick_t rfl rfl rfl) rfl rfl (.none rfl) ?_
  refine G_val (V_assign rfl rfl) rfl rfl (.none rfl) ?_
  refine G_end (X_then (G_ret ?_))
  refine G_leaveS (.drop _ (.nil _)) (by exact (.cons (.tmp rfl) (.nil))) rfl ?_ ?_
  · exact (((hE4.trans hE10).trans hE14).trans hE23)
  exact ⟨(by kernel_rfl), rfl⟩
theorem faulty_call (s : List UInt8) (hs : s.length ≤ 1000000000) (e a : Int) : CallS Tryd.prog 32 #[.string (S s), .int .i64 e, .int .i64 a] E L (fun r E' L' => r = .bool (decide (((parseM s).1.length : Int) = 0) && decide ((parseM s).2.1 = e ∧ (parseM s).2.2 = a)) ∧ L' = L) := by
  refine CallS.intro (l := [_, _, _]) _ Tryd.func32 rfl Tryd.ntmps32 rfl ?_
  refine G_seq (G_region ?_)
  refine G_val (V_assign rfl rfl) rfl rfl (.none rfl) ?_
  refine G_end (X_then (G_seq (G_region ?_)))
  refine G_val (V_move rfl rfl) rfl rfl (.none rfl) ?_
  refine G_call (k := 12) (.mk rfl rfl rfl rfl) rfl rfl (.none rfl) (Parse_call' _ _ _ (by assumption)) ?_
  rintro r1 E2 L3 hE4 ⟨z5, ⟨z6, ⟨rfl, ⟨Z7, ⟨Z8, ⟨Z9, rfl⟩⟩⟩⟩⟩⟩
  refine G_val (V_move rfl rfl) rfl rfl (.none rfl) ?_
  refine G_val (V_extract rfl rfl rfl) rfl rfl (.none rfl) ?_
  refine G_val (V_extract rfl rfl rfl) rfl rfl (.none rfl) ?_
  (refine G_alloc rfl rfl rfl (.none rfl) ?_; intro b8)
  refine G_val (V_assign rfl rfl) rfl rfl (.none rfl) ?_
  refine G_storeA rfl rfl rfl rfl (by simp [Value.oneCell']) rfl (.none rfl) (.head _ _ _) rfl ?_
  refine G_end (X_then (G_seq (G_region ?_)))
  refine G_val (V_move rfl rfl) rfl rfl (.none rfl) ?_
  refine G_val (V_lenS rfl rfl) rfl rfl (.none rfl) ?_
  refine G_val (V_eql rfl rfl rfl) rfl rfl (.none rfl) ?_
  refine G_val (V_move rfl rfl) rfl rfl (.none rfl) ?_
  apply G_joinAnd 6 17 23 rfl
  · intro H10
    dsimp only [List.take]
    simp only [Bool.and_eq_true, Bool.or_eq_true, Bool.not_eq_true', Bool.not_eq_false', Bool.and_eq_false_iff, Bool.or_eq_false_iff, Bool.not_not, decide_eq_true_eq, decide_eq_false_iff_not, ne_eq, Decidable.not_not, Bool.decide_eq_true] at H10
    refine G_val (V_loadA rfl rfl (Cells.own (.head _)) rfl) rfl rfl (.yes rfl rfl rfl rfl) ?_
    refine G_val (V_move rfl rfl) rfl rfl (.yes rfl rfl rfl rfl) ?_
    refine G_val (V_move rfl rfl) rfl rfl (.yes rfl rfl rfl rfl) ?_
    refine G_val (V_build rfl rfl (by simp [fillV, setLs, setL, Value.cells]; rfl)) rfl rfl (.yes rfl rfl rfl rfl) ?_
    refine G_val (V_aeql_30 rfl rfl rfl) rfl rfl (.yes rfl rfl rfl rfl) ?_
    refine G_val (V_pick_t rfl rfl rfl) rfl rfl (.none rfl) ?_
    refine G_end ?_
    exact JQ_end 6 rfl rfl (by kernel_rfl)
  · intro H11
    dsimp only [List.take]
    simp only [Bool.and_eq_true, Bool.or_eq_true, Bool.not_eq_true', Bool.not_eq_false', Bool.and_eq_false_iff, Bool.or_eq_false_iff, Bool.not_not, decide_eq_true_eq, decide_eq_false_iff_not, ne_eq, Decidable.not_not, Bool.decide_eq_true] at H11
    refine G_stay (.no rfl rfl rfl rfl) rfl rfl ?_
    refine G_stay (.no rfl rfl rfl rfl) rfl rfl ?_
    refine G_stay (.no rfl rfl rfl rfl) rfl rfl ?_
    refine G_stay (.no rfl rfl rfl rfl) rfl rfl ?_
    refine G_stay (.no rfl rfl rfl rfl) rfl rfl ?_
    refine G_val (V_pick_f rfl rfl rfl) rfl rfl (.none rfl) ?_
    refine G_end ?_
    exact JQ_end 6 rfl rfl (by kernel_rfl)
  dsimp only [List.drop]
  refine G_val (V_assign rfl rfl) rfl rfl (.none rfl) ?_
  refine G_end (X_then (G_ret ?_))
  refine G_leaveS (.drop _ (.nil _)) (by exact (.cons (.tmp rfl) (.nil))) rfl ?_ ?_
  · exact hE4
  exact ⟨rfl, rfl⟩
end
end Go.Proofs.YtpkingbclcalkaaDoor
set_option linter.unusedSimpArgs false
set_option linter.unusedVariables false
set_option maxHeartbeats 2000000
set_option maxRecDepth 20000
namespace Go.Proofs.YtpkingbclcalkaaDoor
open Go.RowKit
/-- A call made of a number. -/
def mkCl (k : Int) : Cl := ⟨1 + k % 5, k / 5 % 1000, fillB (k / 5 % 9).toNat k⟩
def madeL (xs : List Int) : List Cl := (xs.take 12).map fun n => mkCl (n % 1073741824)
theorem mkCl_ok {k : Int} (h0 : 0 ≤ k) : chk (mkCl k) = 0 := by
  refine chk_zero.2 ⟨by simp only [mkCl]; omega, by simp only [mkCl]; omega, ?_, by simp only [mkCl]; omega, by simp only [mkCl]; omega⟩
  simp only [mkCl, fillB_len]
  omega
theorem madeL_len (xs : List Int) : (madeL xs).length ≤ 12 := by simp [madeL]; omega
theorem madeL_ok (xs : List Int) : ∀ c, c ∈ madeL xs → chk c = 0 := by
  intro c hc
  simp only [madeL, List.mem_map] at hc
  obtain ⟨n, _, rfl⟩ := hc
  exact mkCl_ok (by omega)
theorem madeL_text (xs : List Int) : ∀ c, c ∈ madeL xs → c.t.length ≤ 8 := by
  intro c hc
  simp only [madeL, List.mem_map] at hc
  obtain ⟨n, _, rfl⟩ := hc
  simp only [mkCl, fillB_len]
  omega
theorem lineT_len2 (c : Cl) : (lineT c).length ≤ 13 + 2 * c.t.length := by
  have h1 := nameM_len c.k
  have h2 := hexD_len c.t
  have h4 := decM_len c.n.toNat
  unfold lineT
  simp only [List.length_append]
  split
  · simp only [List.length_append, List.length_singleton]; omega
  · split
    · simp only [List.length_append, List.length_singleton]; omega
    · simp only [List.length_nil, List.length_singleton]; omega
theorem linesT_le2 {l : List Cl} (h : ∀ c, c ∈ l → c.t.length ≤ 8) : (linesT l).length ≤ 29 * l.length := by
  induction l with
  | nil => exact Nat.zero_le _
  | cons a l ih =>
    have h1 := lineT_len2 a
    have h3 := h a (.head _)
    have h2 := ih fun c hc => h c (.tail _ hc)
    simp only [linesT, List.flatMap_cons, List.length_append, List.length_cons] at h2 ⊢
    omega
theorem textM_ok {l : List Cl} (hlen : l.length ≤ 200) (hok : ∀ c, c ∈ l → chk c = 0) (ht : ∀ c, c ∈ l → c.t.length ≤ 8) : textM l = (linesT l, 0) := by
  have h := linesT_le2 ht
  rw [textM, listM_ok hlen hok]
  simp only [if_true]
  rw [if_neg (by omega)]
theorem fedM_ok {l : List Cl} (hlen : l.length ≤ 200) (hok : ∀ c, c ∈ l → chk c = 0) : fedM l = (chunksT l, 0) := by
  rw [fedM, listM_ok hlen hok]
  simp
theorem linesT_app (a b : List Cl) : linesT (a ++ b) = linesT a ++ linesT b := List.flatMap_append
theorem chunksT_app (a b : List Cl) : chunksT (a ++ b) = chunksT a ++ chunksT b := List.flatMap_append
section
variable (E : Env) (L : List Res)
theorem made_call (p : Option Addr) (c : Nat) (xs : List Int) (hl : SlE E 1 p xs.length (i64s xs)) (hn : xs.length ≤ 9223372036854775807) (hb : ∀ n, n ∈ xs → -9223372036854775808 ≤ n ∧ n ≤ 9223372036854775807) :
    CallS Tryd.prog 9 #[.slice p xs.length c] E L (fun r E' L' => ∃ q d, r = .slice q (madeL xs).length d ∧ SlE E' 3 q (madeL xs).length (cls (madeL xs)) ∧ (madeL xs).length ≤ 12 ∧ (madeL xs).length ≤ d ∧ L' = L) := by
  refine CallS.intro (l := [_]) _ Tryd.func9 rfl Tryd.ntmps9 rfl ?_
  refine G_seq (G_region ?_)
  refine G_val (V_assign rfl rfl) rfl rfl (.none rfl) ?_
  refine G_end (X_then (G_seq (G_region ?_)))
  refine G_val (V_assign rfl rfl) rfl rfl (.none rfl) ?_
  refine G_end (X_then (G_seq (G_seq (G_region ?_))))
  refine G_val (V_assign rfl rfl) rfl rfl (.none rfl) ?_
  refine G_end (X_then (G_block ?_))
  refine G.nilSl 41 3 ?_
  refine G_loop (α := Nat × Option Addr × Nat × List Cl) (fun x => [(0, .slice p xs.length c), (3, .slice x.2.1 x.2.2.2.length x.2.2.1), (4, .int .i64 x.1)]) (fun _ => E) (fun x => .sl 41 3 x.2.1 x.2.2.2.length x.2.2.1 (cls x.2.2.2) :: L)
    (fun x => x.1 ≤ xs.length ∧ x.1 ≤ 12 ∧ x.2.2.2 = (xs.take x.1).map fun n => mkCl (n % 1073741824)) (fun x => 12 - x.1) (0, none, 0, []) ⟨Nat.zero_le _, Nat.zero_le _, rfl⟩ ⟨rfl, rfl, rfl, trivial⟩ rfl rfl ?_
  rintro ⟨i, a, d, out⟩ ⟨hi, hi2, ho⟩
  simp only at hi hi2 ho ⊢
  have hol := congrArg List.length ho
  rw [List.length_map, List.length_take] at hol
  have hcl := cls_len out
  by_cases hlt : i < xs.length ∧ i < 12
  · obtain ⟨q1, q2⟩ := hlt
    have hx := i64s_get (List.getElem?_eq_getElem q1)
    have hbb := hb _ (List.getElem_mem q1)
    obtain ⟨k, hk⟩ : ∃ k, xs[i] % 1073741824 = k := ⟨_, rfl⟩
    have k0 : 0 ≤ k := by omega
    have k1 : k < 1073741824 := by omega
    obtain ⟨m, hm⟩ : ∃ m : Nat, k / 5 % 9 = (m : Int) := ⟨(k / 5 % 9).toNat, by omega⟩
    have m9 : m ≤ 8 := by omega
    refine G_seq (G_seq (G_region ?_))
    refine G_val (V_move rfl rfl) rfl rfl (.none rfl) ?_
    refine G_val (V_move rfl rfl) rfl rfl (.none rfl) ?_
    refine G_val (V_lenS rfl rfl) rfl rfl (.none rfl) ?_
    refine G_val (V_lss rfl rfl rfl) rfl rfl (.none rfl) ?_
    refine G_val (V_move rfl rfl) rfl rfl (.none rfl) ?_
    refine G.bool_t 10 rfl (decide_eq_true (by omega)) ?_
    refine G_val (V_move rfl rfl) rfl rfl (.yes rfl rfl rfl rfl) ?_
    refine G_val (V_lss rfl rfl rfl) rfl rfl (.yes rfl rfl rfl rfl) ?_
    refine G_val (V_pick_t rfl rfl rfl) rfl rfl (.none rfl) ?_
    refine G_end (X_then ?_)
    refine G_cond_t rfl (decide_eq_true (by omega)) ?_
    refine G_skip (X_then (G_seq (G_block (G_seq (G_region ?_)))))
    refine G_val (V_move rfl rfl) rfl rfl (.none rfl) ?_
    refine G_val (V_move rfl rfl) rfl rfl (.none rfl) ?_
    refine G_val (V_idxAddr rfl rfl rfl (SlE.rd (by assumption)) (by omega) (by omega)) rfl rfl (.none rfl) ?_
    refine G_val (V_loadS rfl rfl (SlE.rd (by assumption)) (by assumption) (by simp)) rfl rfl (.none rfl) ?_
    refine G_callv (.mk rfl rfl rfl rfl) rfl rfl (.none rfl) (Mod_call' E _ xs[i] 1073741824 hbb (by omega)) ?_
    rw [hk]
    refine G_val (V_assign rfl rfl) rfl rfl (.none rfl) ?_
    refine G_end (X_then (G_region ?_))
    refine G_val (V_move rfl rfl) rfl rfl (.none rfl) ?_
    refine G_val (V_move rfl rfl) rfl rfl (.none rfl) ?_
    refine G_val (V_rem_n rfl rfl rfl (by omega) (by omega)) rfl rfl (.none rfl) ?_
    refine G_val (V_add_i64 rfl rfl rfl (by omega) (by omega)) rfl rfl (.none rfl) ?_
    refine G_val (V_move rfl rfl) rfl rfl (.none rfl) ?_
    refine G_val (V_quo_n rfl rfl rfl (by omega) (by omega) (by simp [IntKind.max, IntKind.signed, IntKind.bits]; omega)) rfl rfl (.none rfl) ?_
    refine G_val (V_rem_n rfl rfl rfl (by omega) (by omega)) rfl rfl (.none rfl) ?_
    refine G_val (V_move rfl rfl) rfl rfl (.none rfl) ?_
    refine G_val (V_move rfl rfl) rfl rfl (.none rfl) ?_
    refine G_val (V_quo_n rfl rfl rfl (by omega) (by omega) (by simp [IntKind.max, IntKind.signed, IntKind.bits]; omega)) rfl rfl (.none rfl) ?_
    refine G_val (V_rem_n rfl rfl rfl (by omega) (by omega)) rfl rfl (.none rfl) ?_
    rw [hm]
    refine G_callv (.mk rfl rfl rfl rfl) rfl rfl (.none rfl) (Fill_call E _ k k0 (by omega) m (by omega)) ?_
    have e : mkCl k = ⟨1 + k % 5, k / 5 % 1000, fillB m k⟩ := by rw [mkCl, hm]; rfl
    refine G_val (V_build rfl rfl (by simp [fillV, setLs, setL, Value.cells]; rfl)) rfl rfl (.none rfl) ?_
    (refine G_lit rfl rfl (by decide) (by simp [fillS, zeros, setLs, setL, Value.cells, List.range, List.range.loop]; rfl) rfl rfl (.none rfl) ?_; intro b34)
    (refine G_append rfl rfl rfl (Rd.lit (.head _) rfl) (by simp [Value.oneCell']) (by omega) (by omega) rfl rfl (.none rfl) (fun _ _ => (.tail _ (.head _ _ _))) ?_; intro a35 c35; refine G.rm (.head _ _) ?_)
    refine G_val (V_assign rfl rfl) rfl rfl (.none rfl) ?_
    refine G_end (X_block (X_then (G_region ?_)))
    refine G_val (V_move rfl rfl) rfl rfl (.none rfl) ?_
    refine G_val (V_add_i64 rfl rfl rfl (by omega) (by omega)) rfl rfl (.none rfl) ?_
    refine G_val (V_assign rfl rfl) rfl rfl (.none rfl) ?_
    refine G_end (X_then ?_)
    refine G_again (i + 1, a35, c35, out ++ [mkCl k]) ⟨q1, q2, ?_⟩ (by simp only; omega) ⟨rfl, by rw [show (out ++ [mkCl k]).length = out.length + 1 by simp]; rfl, rfl, trivial⟩ rfl ?_
    · simp only
      rw [ho, List.take_succ_eq_append_getElem q1, List.map_append, List.map_cons, List.map_nil, hk]
    · simp only
      rw [cls_append, show (out ++ [mkCl k]).length = out.length + 1 by simp, e]
      rfl
  · have he : madeL xs = out := by
      rw [ho, madeL]
      by_cases h : i < 12
      · rw [List.take_of_length_le (show xs.length ≤ 12 by omega), List.take_of_length_le (show xs.length ≤ i by omega)]
      · rw [show i = 12 by omega]
    rw [he]
    refine G.freezeSl (.head _ _) ?_
    intro E2 hE2 hs2 hc2
    have hlen : out.length ≤ 12 := by omega
    refine G_seq (G_seq (G_region ?_))
    refine G_val (V_move rfl rfl) rfl rfl (.none rfl) ?_
    refine G_val (V_move rfl rfl) rfl rfl (.none rfl) ?_
    refine G_val (V_lenS rfl rfl) rfl rfl (.none rfl) ?_
    refine G_val (V_lss rfl rfl rfl) rfl rfl (.none rfl) ?_
    refine G_val (V_move rfl rfl) rfl rfl (.none rfl) ?_
    apply G_joinAnd 3 10 13 rfl
    · intro H1
      dsimp only [List.take]
      simp only [Bool.and_eq_true, Bool.or_eq_true, Bool.not_eq_true', Bool.not_eq_false', Bool.and_eq_false_iff, Bool.or_eq_false_iff, Bool.not_not, decide_eq_true_eq, decide_eq_false_iff_not, ne_eq, Decidable.not_not, Bool.decide_eq_true] at H1
      refine G_val (V_move rfl rfl) rfl rfl (.yes rfl rfl rfl rfl) ?_
      refine G_val (V_lss rfl rfl rfl) rfl rfl (.yes rfl rfl rfl rfl) ?_
      refine G_val (V_pick_t rfl rfl rfl) rfl rfl (.none rfl) ?_
      refine G_end ?_
      exact JQ_end 3 rfl rfl (by kernel_rfl)
    · intro H2
      dsimp only [List.take]
      simp only [Bool.and_eq_true, Bool.or_eq_true, Bool.not_eq_true', Bool.not_eq_false', Bool.and_eq_false_iff, Bool.or_eq_false_iff, Bool.not_not, decide_eq_true_eq, decide_eq_false_iff_not, ne_eq, Decidable.not_not, Bool.decide_eq_true] at H2
      refine G_stay (.no rfl rfl rfl rfl) rfl rfl ?_
      refine G_stay (.no rfl rfl rfl rfl) rfl rfl ?_
      refine G_val (V_pick_f rfl rfl rfl) rfl rfl (.none rfl) ?_
      refine G_end ?_
      exact JQ_end 3 rfl rfl (by kernel_rfl)
    dsimp only [List.drop]
    refine G_end (X_then ?_)
    refine G_cond rfl (fun H3 => ?_) (fun H3 => ?_)
    · simp only [Bool.and_eq_true, Bool.or_eq_true, Bool.not_eq_true', Bool.not_eq_false', Bool.and_eq_false_iff, Bool.or_eq_false_iff, Bool.not_not, decide_eq_true_eq, decide_eq_false_iff_not, ne_eq, Decidable.not_not, Bool.decide_eq_true] at H3
      (exfalso; omega)
    simp only [Bool.and_eq_true, Bool.or_eq_true, Bool.not_eq_true', Bool.not_eq_false', Bool.and_eq_false_iff, Bool.or_eq_false_iff, Bool.not_not, decide_eq_true_eq, decide_eq_false_iff_not, ne_eq, Decidable.not_not, Bool.decide_eq_true] at H3
    refine G_exit (X_then_exit (X_then_exit (X_block_hit (X_then (G_seq (G_region ?_))))))
    refine G_val (V_move rfl rfl) rfl rfl (.none rfl) ?_
    refine G_val (V_assign rfl rfl) rfl rfl (.none rfl) ?_
    refine G_end (X_then (G_ret ?_))
    refine G_leaveS (.nil _) (by exact (.cons (.tmp rfl) (.nil))) rfl ?_ ?_
    · exact hE2
    exact ⟨_, ⟨_, ⟨rfl, ⟨(by assumption), ⟨(by assumption), ⟨(by assumption), rfl⟩⟩⟩⟩⟩⟩
end
end Go.Proofs.YtpkingbclcalkaaDoor
namespace Go.Proofs.YtpkingbclcalkaaDoor
open Go.RowKit
/-- A call's line without its line feed. -/
def lineB (c : Cl) : List UInt8 := nameM c.k ++ (if c.k = 1 then [32] ++ hexD c.t else if c.k = 3 then [32] ++ decM c.n.toNat else [])
theorem lineT_eq (c : Cl) : lineT c = lineB c ++ [10] := rfl
theorem nameM_no {k : Int} : ∀ x, x ∈ nameM k → x ≠ 10 ∧ x ≠ 32 := by
  have h : ∀ i : Nat, ((names6.getD i []).all fun x => decide (x ≠ 10 ∧ x ≠ 32)) = true := fun i => by
    by_cases h : i < 6
    · have : i = 0 ∨ i = 1 ∨ i = 2 ∨ i = 3 ∨ i = 4 ∨ i = 5 := by omega
      rcases this with rfl | rfl | rfl | rfl | rfl | rfl <;> rfl
    · rw [List.getD_eq_getElem?_getD, List.getElem?_eq_none (by show 6 ≤ i; omega)]; rfl
  intro x hx
  exact of_decide_eq_true (List.all_eq_true.1 (h k.toNat) x hx)
theorem hx_no (n : Nat) (h : n < 16) : hx n ≠ 10 := by
  have : ((List.range 16).all fun n => decide (hx n ≠ 10)) = true := by kernel_rfl
  exact of_decide_eq_true (List.all_eq_true.1 this n (List.mem_range.2 h))
theorem hexM_no : ∀ (l : List UInt8), (10 : UInt8) ∉ hexM l := by
  intro l
  induction l with
  | nil => intro h; cases h
  | cons b l ih =>
    have hb := b.toNat_lt
    intro h
    rcases List.mem_cons.1 h with h | h
    · exact hx_no _ (by omega) h.symm
    · rcases List.mem_cons.1 h with h | h
      · exact hx_no _ (by omega) h.symm
      · exact ih h
theorem decM_facts : ∀ n, n < 1000 → (10 : UInt8) ∉ decM n ∧ numM (decM n) = ((n : Int), 0) := by
  intro n hn
  have h : ((List.range 1000).all fun n => decide ((10 : UInt8) ∉ decM n) && decide (numM (decM n) = ((n : Int), 0))) = true := by kernel_rfl
  have := List.all_eq_true.1 h n (List.mem_range.2 hn)
  rw [Bool.and_eq_true, decide_eq_true_eq, decide_eq_true_eq] at this
  exact this
theorem hexD_no (l : List UInt8) : (10 : UInt8) ∉ hexD l := by
  unfold hexD
  split
  · decide
  · exact hexM_no l
theorem lineB_no {c : Cl} (h : chk c = 0) : (10 : UInt8) ∉ lineB c := by
  obtain ⟨_, _, _, h4, h5⟩ := chk_zero.1 h
  unfold lineB
  intro hm
  rcases List.mem_append.1 hm with hm | hm
  · exact (nameM_no _ hm).1 rfl
  · split at hm
    · rcases List.mem_append.1 hm with hm | hm
      · exact absurd hm (by decide)
      · exact hexD_no _ hm
    · split at hm
      · rcases List.mem_append.1 hm with hm | hm
        · exact absurd hm (by decide)
        · exact (decM_facts c.n.toNat (by omega)).1 hm
      · cases hm
theorem nameM_32 (k : Int) : (32 : UInt8) ∉ nameM k := fun h => (nameM_no _ h).2 rfl
theorem feedM_hex {t : List UInt8} (h : t.length ≤ 1000) : feedM (hexD t) = (t, 0) := by
  unfold hexD
  split
  · rename_i h0; subst h0; rfl
  · rename_i h0
    have hl := hexM_len t
    have h1 : hexM t ≠ [45] := fun e => by rw [e] at hl; simp at hl; omega
    rw [feedM, if_neg h1, unhexM_hex]
    simp only [h0, if_false, show ¬ 1000 < t.length by omega]
theorem lineM_line {c : Cl} (h : chk c = 0) : lineM (lineB c) = (clean c, 0) := by
  obtain ⟨k, n, t⟩ := c
  obtain ⟨k1, k5, h3, h4, h5⟩ := chk_zero.1 h
  simp only at k1 k5 h3 h4 h5
  have hkn := kindM_name k1 k5
  by_cases e1 : k = 1
  · subst e1
    have e : lineB ⟨1, n, t⟩ = nameM 1 ++ 32 :: hexD t := rfl
    have hc := cutB_app (c := 32) (a := nameM 1) (r := hexD t) (nameM_32 1)
    have hf := feedM_hex h3
    rw [e, lineM, hc, hkn]
    simp only [hf]
    rfl
  · by_cases e3 : k = 3
    · subst e3
      have e : lineB ⟨3, n, t⟩ = nameM 3 ++ 32 :: decM n.toNat := rfl
      have hc := cutB_app (c := 32) (a := nameM 3) (r := decM n.toNat) (nameM_32 3)
      have hf := (decM_facts n.toNat (by omega)).2
      have hn : ((n.toNat : Nat) : Int) = n := by omega
      rw [hn] at hf
      rw [e, lineM, hc, hkn]
      simp only [hf]
      simp [clean]
    · have e : lineB ⟨k, n, t⟩ = nameM k := by rw [lineB]; simp [e1, e3]
      have hc := cutB_all (c := 32) (a := nameM k) (nameM_32 k)
      rw [e, lineM, hc, hkn]
      simp [clean, e1, e3]
theorem linesT_cons (c : Cl) (l : List Cl) : linesT (c :: l) = lineB c ++ 10 :: linesT l := by
  rw [linesT, List.flatMap_cons, lineT_eq, List.append_assoc]; rfl
theorem parseF_lines : ∀ (l : List Cl) (w : List UInt8) (f a cnt : Nat), (∀ c, c ∈ l → chk c = 0) → cnt + l.length ≤ 200 → (10 : UInt8) ∉ w → (linesT l ++ w).length < f →
    parseF f (linesT l ++ w) a cnt = if w = [] then (l.map clean, (0, 0)) else ([], (3, ((a + (linesT l).length : Nat) : Int))) := by
  intro l
  induction l with
  | nil =>
    intro w f a cnt hok hcnt hw hf
    obtain ⟨f, rfl⟩ : ∃ g, f = g + 1 := ⟨f - 1, by omega⟩
    simp only [linesT, List.flatMap_nil, List.nil_append]
    by_cases h0 : w = []
    · rw [if_pos h0, h0]; rfl
    · rw [if_neg h0, parseF_cut h0 (by rw [cutB_all hw])]; rfl
  | cons c l ih =>
    intro w f a cnt hok hcnt hw hf
    have hz := hok c (.head _)
    simp only [List.length_cons] at hcnt
    rw [linesT_cons, List.append_assoc, List.cons_append] at hf ⊢
    have hc := cutB_app (c := 10) (a := lineB c) (r := linesT l ++ w) (lineB_no hz)
    have hne : lineB c ++ 10 :: (linesT l ++ w) ≠ [] := by simp
    obtain ⟨f, rfl⟩ : ∃ g, f = g + 1 := ⟨f - 1, by omega⟩
    have hle : lerr (lineB c) cnt = 0 := by
      rw [lerr, lineM_line hz]
      rw [if_neg (by omega)]
    rw [parseF_ok hne (by rw [hc]) (by rw [hc]; exact hle), hc]
    simp only [lineM_line hz]
    rw [ih w f _ _ (fun c hc => hok c (.tail _ hc)) (by omega) hw (by simp only [List.length_append, List.length_cons] at hf ⊢; omega)]
    by_cases h0 : w = []
    · rw [if_pos h0, if_pos h0]
      simp [comb]
    · rw [if_neg h0, if_neg h0, comb_err _ (by decide)]
      congr 3
      simp only [List.length_append, List.length_cons]
      omega
end Go.Proofs.YtpkingbclcalkaaDoor
namespace Go.Proofs.YtpkingbclcalkaaDoor
open Go.RowKit
theorem accM_cons (n : Nat) (c : UInt8) (l : List UInt8) : accM n (c :: l) = accM (min (10 * n + (c.toNat - 48)) 1000) l := by simp only [accM, List.foldl_cons]
theorem accM_full (l : List UInt8) : accM 1000 l = 1000 := by
  induction l with
  | nil => simp only [accM, List.foldl_nil]
  | cons c l ih =>
    rw [accM_cons, show min (10 * 1000 + (c.toNat - 48)) 1000 = 1000 by omega]; exact ih
theorem accM_nil (n : Nat) : accM n [] = n := by simp only [accM, List.foldl_nil]
theorem numM_back {s : List UInt8} {n : Int} (h : numM s = (n, 0)) : ∃ m : Nat, n = (m : Int) ∧ m ≤ 999 ∧ decM m = s := by
  unfold numM at h
  split at h
  · cases h
  · rename_i hf
    split at h
    · cases h
    · rename_i hd
      split at h
      · cases h
      · rename_i hv
        have hd2 : s.all isD = true := by simpa using hd
        refine ⟨accM 0 s, (congrArg Prod.fst h).symm, by omega, ?_⟩
        match s, hf, hd2, hv with
        | [], hf, _, _ => exact absurd (.inl rfl) hf
        | [a], _, hd2, _ =>
          simp only [List.all_cons, List.all_nil, Bool.and_true] at hd2
          have h1 := isD_iff.1 hd2
          have e : accM 0 [a] = a.toNat - 48 := by rw [accM_cons, accM_nil]; omega
          rw [e, decM, if_pos (by omega), show 48 + (a.toNat - 48) = a.toNat by omega, UInt8.ofNat_toNat]
        | [a, b], hf, hd2, _ =>
          simp only [List.all_cons, List.all_nil, Bool.and_true, Bool.and_eq_true] at hd2
          have h1 := isD_iff.1 hd2.1
          have h2 := isD_iff.1 hd2.2
          have h3 : ¬ a.toNat = 48 := fun e => hf (.inr ⟨by rw [List.head?_cons, (UInt8.toNat_inj.1 e : a = 48)], by simp⟩)
          have e : accM 0 [a, b] = 10 * (a.toNat - 48) + (b.toNat - 48) := by rw [accM_cons, accM_cons, accM_nil]; omega
          rw [e, decM, if_neg (by omega), if_pos (by omega), show 48 + (10 * (a.toNat - 48) + (b.toNat - 48)) / 10 = a.toNat by omega, show 48 + (10 * (a.toNat - 48) + (b.toNat - 48)) % 10 = b.toNat by omega, UInt8.ofNat_toNat, UInt8.ofNat_toNat]
        | [a, b, c], hf, hd2, hv =>
          simp only [List.all_cons, List.all_nil, Bool.and_true, Bool.and_eq_true] at hd2
          have h1 := isD_iff.1 hd2.1
          have h2 := isD_iff.1 hd2.2.1
          have h4 := isD_iff.1 hd2.2.2
          have h3 : ¬ a.toNat = 48 := fun e => hf (.inr ⟨by rw [List.head?_cons, (UInt8.toNat_inj.1 e : a = 48)], by simp⟩)
          have e : accM 0 [a, b, c] = 100 * (a.toNat - 48) + 10 * (b.toNat - 48) + (c.toNat - 48) := by
            rw [accM_cons, accM_cons, accM_cons, accM_nil]
            have e1 : min (10 * 0 + (a.toNat - 48)) 1000 = a.toNat - 48 := by omega
            rw [e1]
            have e2 : min (10 * (a.toNat - 48) + (b.toNat - 48)) 1000 = 10 * (a.toNat - 48) + (b.toNat - 48) := by omega
            rw [e2]
            omega
          obtain ⟨x, hx⟩ : ∃ x, a.toNat - 48 = x := ⟨_, rfl⟩
          obtain ⟨y, hy⟩ : ∃ y, b.toNat - 48 = y := ⟨_, rfl⟩
          obtain ⟨z, hz⟩ : ∃ z, c.toNat - 48 = z := ⟨_, rfl⟩
          rw [hx, hy, hz] at e
          rw [e, decM, if_neg (by omega), if_neg (by omega), show 48 + (100 * x + 10 * y + z) / 100 = a.toNat by omega, show 48 + (100 * x + 10 * y + z) / 10 % 10 = b.toNat by omega, show 48 + (100 * x + 10 * y + z) % 10 = c.toNat by omega, UInt8.ofNat_toNat, UInt8.ofNat_toNat, UInt8.ofNat_toNat]
        | a :: b :: c :: d :: r, hf, hd2, hv =>
          simp only [List.all_cons, Bool.and_eq_true] at hd2
          have h1 := isD_iff.1 hd2.1
          have h3 : ¬ a.toNat = 48 := fun e => hf (.inr ⟨by rw [List.head?_cons, (UInt8.toNat_inj.1 e : a = 48)], by simp⟩)
          have e1 : 1 ≤ min (10 * 0 + (a.toNat - 48)) 1000 := by omega
          have e2 : 10 ≤ min (10 * min (10 * 0 + (a.toNat - 48)) 1000 + (b.toNat - 48)) 1000 := by omega
          have e3 : 100 ≤ min (10 * min (10 * min (10 * 0 + (a.toNat - 48)) 1000 + (b.toNat - 48)) 1000 + (c.toNat - 48)) 1000 := by
            generalize min (10 * min (10 * 0 + (a.toNat - 48)) 1000 + (b.toNat - 48)) 1000 = y at *
            omega
          rw [accM_cons, accM_cons, accM_cons, accM_cons] at hv
          generalize min (10 * min (10 * min (10 * 0 + (a.toNat - 48)) 1000 + (b.toNat - 48)) 1000 + (c.toNat - 48)) 1000 = z at *
          rw [show min (10 * z + (d.toNat - 48)) 1000 = 1000 by omega, accM_full] at hv
          omega
theorem feedM_back {s t : List UInt8} (h : feedM s = (t, 0)) : t.length ≤ 1000 ∧ hexD t = s := by
  unfold feedM at h
  split at h
  · rename_i e; cases h; exact ⟨Nat.zero_le _, e.symm⟩
  · split at h
    · cases h
    · rename_i u hu
      split at h
      · cases h
      · rename_i h0
        split at h
        · cases h
        · cases h
          exact ⟨by omega, by rw [hexD, if_neg h0, hex_unhexM s.length s t (Nat.le_refl _) hu]⟩
theorem lineM_back {s : List UInt8} (h : (lineM s).2 = 0) : chk (lineM s).1 = 0 ∧ lineB (lineM s).1 = s ∧ clean (lineM s).1 = (lineM s).1 := by
  have hf : (cutB 32 s).2.2 = true → (cutB 32 s).1 ++ 32 :: (cutB 32 s).2.1 = s := fun h => (cutB_found h).symm
  unfold lineM at h ⊢
  by_cases he : (kindM (cutB 32 s).1).2 = 0
  · obtain ⟨k1, k5, hkn⟩ := kindM_ok he
    rw [if_neg (by omega)] at h ⊢
    by_cases h13 : (kindM (cutB 32 s).1).1 ≠ 1 ∧ (kindM (cutB 32 s).1).1 ≠ 3
    · rw [if_pos h13] at h ⊢
      cases hm : (cutB 32 s).2.2 with
      | true => rw [hm, if_pos rfl] at h; cases h
      | false =>
        simp only [Bool.false_eq_true, if_false]
        obtain ⟨h1, h3⟩ := h13
        refine ⟨chk_zero.2 ⟨k1, k5, Nat.zero_le _, by simp, by simp⟩, ?_, ?_⟩
        · rw [lineB]
          simp only [h1, h3, if_false, List.append_nil, hkn]
          exact (cutB_none hm).1
        · simp [clean]
    · rw [if_neg h13] at h ⊢
      cases hm : (cutB 32 s).2.2 with
      | false => rw [hm, if_pos rfl] at h; cases h
      | true =>
        have hs := hf hm
        rw [hm, if_neg (by decide)] at h
        rw [if_neg (by decide)]
        by_cases h1 : (kindM (cutB 32 s).1).1 = 1
        · rw [if_pos h1] at h ⊢
          by_cases hfe : (feedM (cutB 32 s).2.1).2 = 0
          · rw [if_neg (by omega)]
            obtain ⟨q1, q2⟩ := feedM_back (s := (cutB 32 s).2.1) (t := (feedM (cutB 32 s).2.1).1) (by rw [← hfe])
            refine ⟨chk_zero.2 ⟨by simp, by simp, q1, by simp, by simp⟩, ?_, rfl⟩
            show nameM 1 ++ 32 :: hexD (feedM (cutB 32 s).2.1).1 = s
            rw [q2, ← h1, hkn]
            exact hs
          · rw [if_pos hfe] at h; exact absurd h hfe
        · have h3 : (kindM (cutB 32 s).1).1 = 3 := by omega
          rw [if_neg h1] at h ⊢
          by_cases hfe : (numM (cutB 32 s).2.1).2 = 0
          · rw [if_neg (by omega)]
            obtain ⟨m, q1, q2, q3⟩ := numM_back (s := (cutB 32 s).2.1) (n := (numM (cutB 32 s).2.1).1) (by rw [← hfe])
            rw [q1]
            refine ⟨chk_zero.2 ⟨by simp, by simp, Nat.zero_le _, by simp, by simp only; omega⟩, ?_, by simp [clean]⟩
            show nameM 3 ++ 32 :: decM (m : Int).toNat = s
            rw [Int.toNat_natCast, q3, ← h3, hkn]
            exact hs
          · rw [if_pos hfe] at h; exact absurd h hfe
  · rw [if_pos he] at h; exact absurd h he
theorem parseF_back : ∀ (f : Nat) (s : List UInt8) (a cnt : Nat), s.length < f → cnt ≤ 200 → (parseF f s a cnt).2.1 = 0 →
    linesT (parseF f s a cnt).1 = s ∧ (∀ c, c ∈ (parseF f s a cnt).1 → chk c = 0) ∧ (parseF f s a cnt).1.length + cnt ≤ 200 := by
  intro f
  induction f with
  | zero => intro s a cnt h; omega
  | succ f ih =>
    intro s a cnt hf hcnt h
    by_cases h0 : s = []
    · subst h0; rw [parseF_nil]; exact ⟨rfl, fun c hc => (by cases hc), by show 0 + cnt ≤ 200; omega⟩
    · cases h2 : (cutB 10 s).2.2 with
      | false => rw [parseF_cut h0 h2] at h; exact absurd (show (3 : Int) = 0 from h) (by decide)
      | true =>
        by_cases h3 : lerr (cutB 10 s).1 cnt = 0
        · obtain ⟨z1, z2⟩ := lerr_zero h3
          have hl := cutB_lt h2
          rw [parseF_ok h0 h2 h3] at h ⊢
          obtain ⟨b1, b2, b3⟩ := lineM_back z1
          generalize hq : parseF f (cutB 10 s).2.1 (a + (cutB 10 s).1.length + 1) (cnt + 1) = q at *
          have hq0 : q.2.1 = 0 := by
            unfold comb at h
            split at h
            · rename_i h4; exact absurd h h4
            · rename_i h4; exact Decidable.of_not_not h4
          have hi := ih (cutB 10 s).2.1 (a + (cutB 10 s).1.length + 1) (cnt + 1) (by omega) (by omega) (by rw [hq]; exact hq0)
          rw [hq] at hi
          obtain ⟨i1, i2, i3⟩ := hi
          have e : comb [(lineM (cutB 10 s).1).1] q = ((lineM (cutB 10 s).1).1 :: q.1, (0, 0)) := by rw [comb, if_neg (by omega)]; rfl
          rw [e]
          refine ⟨?_, ?_, by simp only [List.length_cons]; omega⟩
          · simp only [linesT_cons, b2, i1]
            exact (cutB_found h2).symm
          · intro c hc
            rcases List.mem_cons.1 hc with rfl | hc
            · exact b1
            · exact i2 c hc
        · rw [parseF_err h0 h2 h3] at h; exact absurd h h3
end Go.Proofs.YtpkingbclcalkaaDoor
set_option linter.unusedSimpArgs false
set_option linter.unusedVariables false
set_option maxHeartbeats 2000000
set_option maxRecDepth 20000
namespace Go.Proofs.YtpkingbclcalkaaDoor
open Go.RowKit
theorem textM_back {s : List UInt8} (hs : s.length ≤ 100) (h : (parseM s).2.1 = 0) : textM (parseM s).1 = (s, 0) := by
  have e : parseM s = parseF (s.length + 1) s 0 0 := by rw [parseM, if_neg (by omega)]
  rw [e] at h ⊢
  obtain ⟨h1, h2, h3⟩ := parseF_back (s.length + 1) s 0 0 (by omega) (by omega) h
  rw [textM, listM_ok (by omega) h2]
  simp only [if_true]
  rw [h1, if_neg (by omega)]
theorem parseM_lines {l : List Cl} (hlen : l.length ≤ 200) (hok : ∀ c, c ∈ l → chk c = 0) (hl : (linesT l).length ≤ 20000) : parseM (linesT l) = (l.map clean, (0, 0)) := by
  rw [parseM, if_neg (by omega)]
  have := parseF_lines l [] ((linesT l).length + 1) 0 0 hok (by omega) (by simp) (by simp)
  rw [List.append_nil, if_pos rfl] at this
  exact this
section
variable (E : Env) (L : List Res) (p : Option Addr) (c : Nat) (xs : List Int) (hl : SlE E 1 p xs.length (i64s xs)) (hn : xs.length ≤ 9223372036854775807) (hb : ∀ n, n ∈ xs → -9223372036854775808 ≤ n ∧ n ≤ 9223372036854775807)
include hl hn hb
theorem Back39_call (s : List UInt8) (hs : s.length ≤ 9223372036854775807) : CallS Tryd.prog 5 #[.slice p xs.length c, .string (S s)] E L (fun r E' L' => r = .bool true ∧ L' = L) := by
  refine CallS.intro (l := [_, _]) _ Tryd.func5 rfl Tryd.ntmps5 rfl ?_
  by_cases h100 : 100 < s.length
  · refine G_seq ?_
    refine G_region ?_
    refine G_val (V_assign rfl rfl) rfl rfl (.none rfl) ?_
    refine G_end (X_then (G_seq (G_seq (G_region ?_))))
    refine G_val (V_move rfl rfl) rfl rfl (.none rfl) ?_
    refine G_val (V_len rfl rfl) rfl rfl (.none rfl) ?_
    refine G_val (V_gtr rfl rfl rfl) rfl rfl (.none rfl) ?_
    refine G_end (X_then ?_)
    refine G_cond_t rfl (decide_eq_true (by omega)) ?_
    refine G_seq (G_region ?_)
    refine G_call (k := 13) (.mk rfl rfl rfl rfl) rfl rfl (.none rfl) (awake39_call _ _) ?_
    rintro r1 E2 L3 hE4 ⟨rfl, rfl⟩
    replace hl := hl.mono hE4
    refine G_val (V_assign rfl rfl) rfl rfl (.none rfl) ?_
    refine G_end (X_then (G_ret (X_then_ret ?_)))
    refine G_leaveS (.nil _) (by exact (.cons (.tmp rfl) (.nil))) rfl ?_ ?_
    · exact hE4
    exact ⟨(by kernel_rfl), rfl⟩
  have hlen := madeL_len xs
  have hok := madeL_ok xs
  have htx := madeL_text xs
  refine G_seq (G_region ?_)
  refine G_val (V_assign rfl rfl) rfl rfl (.none rfl) ?_
  refine G_end (X_then (G_seq (G_seq (G_region ?_))))
  refine G_val (V_move rfl rfl) rfl rfl (.none rfl) ?_
  refine G_val (V_len rfl rfl) rfl rfl (.none rfl) ?_
  refine G_val (V_gtr rfl rfl rfl) rfl rfl (.none rfl) ?_
  refine G_end (X_then ?_)
  refine G_cond_f rfl (decide_eq_false (by omega)) ?_
  refine G_skip (X_then (G_seq (G_region ?_)))
  refine G_val (V_move rfl rfl) rfl rfl (.none rfl) ?_
  refine G_call (k := 9) (.mk rfl rfl rfl rfl) rfl rfl (.none rfl) (made_call _ _ _ _ _ hl hn hb) ?_
  rintro r E2 L3 hE ⟨q, d, rfl, hq, _, hd, rfl⟩
  generalize madeL xs = ml at *
  have hcl := cls_len ml
  have hA := textM_ok (by omega) hok htx
  have hle := linesT_le2 htx
  have hP := parseM_lines (l := ml) (by omega) hok (by omega)
  have hA1 : (textM ml).1 = linesT ml := by rw [hA]
  have hA2 : (textM ml).2 = 0 := by rw [hA]
  have hA3 : (textM ml).1.length ≤ 1000 := by rw [hA1]; omega
  have hTP : parseM (textM ml).1 = (ml.map clean, (0, 0)) := by rw [hA1]; exact hP
  have hT1 : (parseM (textM ml).1).1.length = ml.length := by rw [hTP]; simp
  have hT2 : (parseM (textM ml).1).2.1 = 0 := by rw [hTP]
  have hT3 : (parseM (textM ml).1).2.2 = 0 := by rw [hTP]
  refine G_val (V_assign rfl rfl) rfl rfl (.none rfl) ?_
  refine G_end (X_then (G_seq (G_region ?_)))
  refine G_val (V_move rfl rfl) rfl rfl (.none rfl) ?_
  refine G_call (k := 10) (.mk rfl rfl rfl rfl) rfl rfl (.none rfl) (Text_call' _ _ _ _ _ _ (by assumption) (by omega)) ?_
  rintro r1 E3 L4 hE5 ⟨rfl, rfl⟩
  replace hq := hq.mono hE5
  refine G_val (V_move rfl rfl) rfl rfl (.none rfl) ?_
  refine G_val (V_extract rfl rfl rfl) rfl rfl (.none rfl) ?_
  refine G_val (V_extract rfl rfl rfl) rfl rfl (.none rfl) ?_
  refine G_val (V_assign rfl rfl) rfl rfl (.none rfl) ?_
  refine G_val (V_assign rfl rfl) rfl rfl (.none rfl) ?_
  refine G_end (X_then (G_seq (G_region ?_)))
  refine G_val (V_move rfl rfl) rfl rfl (.none rfl) ?_
  refine G_call (k := 12) (.mk rfl rfl rfl rfl) rfl rfl (.none rfl) (Parse_call' _ _ _ (by omega)) ?_
  rintro r6 E7 L8 hE9 ⟨z10, ⟨z11, ⟨rfl, ⟨Z12, ⟨Z13, ⟨Z14, rfl⟩⟩⟩⟩⟩⟩
  replace hq := hq.mono hE9
  refine G_val (V_move rfl rfl) rfl rfl (.none rfl) ?_
  refine G_val (V_extract rfl rfl rfl) rfl rfl (.none rfl) ?_
  refine G_val (V_extract rfl rfl rfl) rfl rfl (.none rfl) ?_
  (refine G_alloc rfl rfl rfl (.none rfl) ?_; intro b9)
  refine G_val (V_assign rfl rfl) rfl rfl (.none rfl) ?_
  refine G_storeA rfl rfl rfl rfl (by simp [Value.oneCell']) rfl (.none rfl) (.head _ _ _) rfl ?_
  refine G_end (X_then (G_seq (G_seq (G_region ?_))))
  refine G_val (V_move rfl rfl) rfl rfl (.none rfl) ?_
  refine G_val (V_neq rfl rfl rfl) rfl rfl (.none rfl) ?_
  refine G_val (V_move rfl rfl) rfl rfl (.none rfl) ?_
  refine G.bool_f 32 rfl (decide_eq_false (by omega)) ?_
  refine G_val (V_loadA rfl rfl (Cells.own (.head _)) rfl) rfl rfl (.yes rfl rfl rfl rfl) ?_
  refine G_val (V_build rfl rfl (by simp [fillV, setLs, setL, Value.cells]; rfl)) rfl rfl (.yes rfl rfl rfl rfl) ?_
  refine G_val (V_aneq_30 rfl rfl rfl) rfl rfl (.yes rfl rfl rfl rfl) ?_
  refine G_val (V_pick_f rfl rfl rfl) rfl rfl (.none rfl) ?_
  refine G_val (V_move rfl rfl) rfl rfl (.none rfl) ?_
  refine G.bool_f 37 rfl (decide_eq_false (by omega)) ?_
  refine G_val (V_move rfl rfl) rfl rfl (.yes rfl rfl rfl rfl) ?_
  refine G_val (V_lenS rfl rfl) rfl rfl (.yes rfl rfl rfl rfl) ?_
  refine G_val (V_move rfl rfl) rfl rfl (.yes rfl rfl rfl rfl) ?_
  refine G_val (V_lenS rfl rfl) rfl rfl (.yes rfl rfl rfl rfl) ?_
  refine G_val (V_neq rfl rfl rfl) rfl rfl (.yes rfl rfl rfl rfl) ?_
  refine G_val (V_pick_f rfl rfl rfl) rfl rfl (.none rfl) ?_
  refine G_end (X_then ?_)
  refine G_cond_f rfl (decide_eq_false (by omega)) ?_
  refine G_skip (X_then (G_seq (G_seq (G_region ?_))))
  refine G_val (V_assign rfl rfl) rfl rfl (.none rfl) ?_
  refine G_end (X_then (G_block ?_))
  rw [hT1, hTP] at Z12
  rw [hT1, hT2, hT3]
  refine G_loop (α := Nat) (fun i => [(1, .string (S s)), (5, .slice q ml.length d), (8, .slice z10 ml.length z11), (9, .pointer (some ⟨b9, 0, none⟩)), (10, .int .i64 i)]) (fun _ => E7) (fun _ => .blk b9 (.cells #[.int .i64 0, .int .i64 0] 30 (0, 0)) :: L8)
    (fun i => i ≤ ml.length) (fun i => ml.length - i) 0 (Nat.zero_le _) ⟨rfl, rfl, rfl, rfl, rfl, trivial⟩ rfl rfl ?_
  intro i hi
  by_cases hlt : i < ml.length
  · have hx := cls_get (List.getElem?_eq_getElem hlt)
    have hx2 : ((cls (ml.map clean)).drop (i * 3)).take 3 = (clean ml[i]).cells := cls_get (by rw [List.getElem?_map, List.getElem?_eq_getElem hlt]; rfl)
    have hz := hok _ (List.getElem_mem hlt)
    have e : cleanR ⟨ml[i].k, ml[i].n, ml[i].t⟩ = clean ml[i] := by rw [cleanR, if_pos hz]
    have hz2 : chk ⟨ml[i].k, ml[i].n, ml[i].t⟩ = 0 := hz
    refine G_seq (G_seq (G_region ?_))
    refine G_val (V_move rfl rfl) rfl rfl (.none rfl) ?_
    refine G_val (V_move rfl rfl) rfl rfl (.none rfl) ?_
    refine G_val (V_lenS rfl rfl) rfl rfl (.none rfl) ?_
    refine G_val (V_lss rfl rfl rfl) rfl rfl (.none rfl) ?_
    refine G_end (X_then ?_)
    refine G_cond_t rfl (decide_eq_true (by omega)) ?_
    refine G_skip (X_then (G_seq (G_block (G_seq (G_region ?_)))))
    refine G_val (V_move rfl rfl) rfl rfl (.none rfl) ?_
    refine G_val (V_move rfl rfl) rfl rfl (.none rfl) ?_
    refine G_val (V_idxAddr rfl rfl rfl (SlE.rd (by assumption)) (by omega) (by omega)) rfl rfl (.none rfl) ?_
    refine G_val (V_loadAS rfl rfl (SlE.rd (by assumption)) (by assumption) (by simp) (by rfl)) rfl rfl (.none rfl) ?_
    refine G_callv (k := 20) (.mk rfl rfl rfl rfl) rfl rfl (.none rfl) (Clean_call _ _ _ _ _) ?_
    refine G_val (V_move rfl rfl) rfl rfl (.none rfl) ?_
    refine G_val (V_extract rfl rfl rfl) rfl rfl (.none rfl) ?_
    refine G_val (V_extract rfl rfl rfl) rfl rfl (.none rfl) ?_
    (refine G_alloc rfl rfl rfl (.none rfl) ?_; intro b11)
    refine G_storeA rfl rfl rfl rfl (by simp [Value.oneCell']) rfl (.none rfl) (.head _ _ _) rfl ?_
    refine G_val (V_assign rfl rfl) rfl rfl (.none rfl) ?_
    refine G_end (X_then (G_seq ?_))
    refine G_draw mixed (by kernel_rfl) ?_
    refine Q_val (V_move rfl rfl) rfl rfl (.none rfl) ?_
    refine Q_val (V_neq rfl rfl rfl) rfl rfl (.none rfl) ?_
    refine Q_val (V_move rfl rfl) rfl rfl (.none rfl) ?_
    refine Q_bool_f 60 rfl (decide_eq_false (by omega)) ?_
    refine Q_val (V_loadA rfl rfl (Cells.own (.head _)) rfl) rfl rfl (.yes rfl rfl rfl rfl) ?_
    refine Q_val (V_move rfl rfl) rfl rfl (.yes rfl rfl rfl rfl) ?_
    refine Q_val (V_move rfl rfl) rfl rfl (.yes rfl rfl rfl rfl) ?_
    refine Q_val (V_idxAddr rfl rfl rfl (SlE.rd (by assumption)) (by omega) (by omega)) rfl rfl (.yes rfl rfl rfl rfl) ?_
    refine Q_val (V_loadAS rfl rfl (SlE.rd (by assumption)) (by assumption) (by simp) (by rfl)) rfl rfl (.yes rfl rfl rfl rfl) ?_
    refine Q_val (V_aneq_41 rfl rfl rfl) rfl rfl (.yes rfl rfl rfl rfl) ?_
    refine Q_val (V_pick_f rfl rfl rfl) rfl rfl (.none rfl) ?_
    refine Q_end ?_
    refine X_then ?_
    refine G_cond_f rfl (by simp [*]; done) ?_
    refine G_skip (X_block (X_then (G_region ?_)))
    refine G_val (V_move rfl rfl) rfl rfl (.none rfl) ?_
    refine G_val (V_add_i64 rfl rfl rfl (by omega) (by omega)) rfl rfl (.none rfl) ?_
    refine G_val (V_assign rfl rfl) rfl rfl (.none rfl) ?_
    refine G_end (X_then ?_)
    refine G.drop ?_
    exact G_again (i + 1) hlt (by omega) ⟨rfl, rfl, rfl, rfl, rfl, trivial⟩ rfl rfl
  · by_cases hp : (parseM s).2.1 = 0
    · have hB := textM_back (by omega) hp
      have hB1 : (textM (parseM s).1).1 = s := by rw [hB]
      have hB2 : (textM (parseM s).1).2 = 0 := by rw [hB]
      refine G_seq (G_seq (G_region ?_))
      refine G_val (V_move rfl rfl) rfl rfl (.none rfl) ?_
      refine G_val (V_move rfl rfl) rfl rfl (.none rfl) ?_
      refine G_val (V_lenS rfl rfl) rfl rfl (.none rfl) ?_
      refine G_val (V_lss rfl rfl rfl) rfl rfl (.none rfl) ?_
      refine G_end (X_then ?_)
      refine G_cond_f rfl (decide_eq_false (by omega)) ?_
      refine G_exit (X_then_exit (X_then_exit (X_block_hit (X_then (G_seq (G_region ?_))))))
      refine G_val (V_move rfl rfl) rfl rfl (.none rfl) ?_
      refine G_call (k := 12) (.mk rfl rfl rfl rfl) rfl rfl (.none rfl) (Parse_call' _ _ _ (by omega)) ?_
      rintro r1 E4 L5 hE6 ⟨z7, ⟨z8, ⟨rfl, ⟨Z9, ⟨Z10, ⟨Z11, rfl⟩⟩⟩⟩⟩⟩
      replace Z12 := Z12.mono hE6
      replace hq := hq.mono hE6
      refine G_val (V_move rfl rfl) rfl rfl (.none rfl) ?_
      refine G_val (V_extract rfl rfl rfl) rfl rfl (.none rfl) ?_
      refine G_val (V_extract rfl rfl rfl) rfl rfl (.none rfl) ?_
      refine G_val (V_assign rfl rfl) rfl rfl (.none rfl) ?_
      refine G_storeA rfl rfl rfl rfl (by simp [Value.oneCell']) rfl (.none rfl) (.head _ _ _) rfl ?_
      refine G_end (X_then (G_seq (G_seq (G_region ?_))))
      refine G_val (V_fieldAddr rfl rfl (by decide)) rfl rfl (.none rfl) ?_
      refine G_val (V_load rfl rfl (Cell.own (.head _) rfl)) rfl rfl (.none rfl) ?_
      refine G_val (V_neq rfl rfl rfl) rfl rfl (.none rfl) ?_
      refine G_end (X_then ?_)
      refine G_cond_f rfl (decide_eq_false (by omega)) ?_
      refine G_skip (X_then (G_seq (G_region ?_)))
      refine G_val (V_move rfl rfl) rfl rfl (.none rfl) ?_
      refine G_call (k := 10) (.mk rfl rfl rfl rfl) rfl rfl (.none rfl) (Text_call' _ _ _ _ _ _ (by assumption) (by omega)) ?_
      rintro r12 E13 L14 hE15 ⟨rfl, rfl⟩
      replace Z9 := Z9.mono hE15
      replace Z12 := Z12.mono hE15
      replace hq := hq.mono hE15
      refine G_val (V_move rfl rfl) rfl rfl (.none rfl) ?_
      refine G_val (V_extract rfl rfl rfl) rfl rfl (.none rfl) ?_
      refine G_val (V_extract rfl rfl rfl) rfl rfl (.none rfl) ?_
      refine G_val (V_assign rfl rfl) rfl rfl (.none rfl) ?_
      refine G_val (V_assign rfl rfl) rfl rfl (.none rfl) ?_
      refine G_end (X_then (G_seq (G_region ?_)))
      refine G_val (V_move rfl rfl) rfl rfl (.none rfl) ?_
      refine G_val (V_eql rfl rfl rfl) rfl rfl (.none rfl) ?_
      refine G_val (V_move rfl rfl) rfl rfl (.none rfl) ?_
      refine G.bool_t 84 rfl (decide_eq_true (by omega)) ?_
      refine G_val (V_move rfl rfl) rfl rfl (.yes rfl rfl rfl rfl) ?_
      refine G_val (V_move rfl rfl) rfl rfl (.yes rfl rfl rfl rfl) ?_
      refine G_val (V_seql rfl rfl rfl) rfl rfl (.yes rfl rfl rfl rfl) ?_
      refine G_val (V_pick_t rfl rfl rfl) rfl rfl (.none rfl) ?_
      refine G_val (V_move rfl rfl) rfl rfl (.none rfl) ?_
      refine G.bool_t 89 rfl (decide_eq_true (by omega)) ?_
      refine G_call (k := 13) (.mk rfl rfl rfl rfl) rfl rfl (.yes rfl rfl rfl rfl) (awake39_call _ _) ?_
      rintro r16 E17 L18 hE19 ⟨rfl, rfl⟩
      replace Z9 := Z9.mono hE19
      replace Z12 := Z12.mono hE19
      replace hq := hq.mono hE19
      refine G_val (V_pick_t rfl rfl rfl) rfl rfl (.none rfl) ?_
      refine G_val (V_assign rfl rfl) rfl rfl (.none rfl) ?_
      refine G_end (X_then (G_ret ?_))
      refine G_leaveS (.drop _ (.nil _)) (by exact (.cons (.tmp rfl) (.nil))) rfl ?_ ?_
      · exact (((((hE.trans hE5).trans hE9).trans hE6).trans hE15).trans hE19)
      exact ⟨(by kernel_rfl), rfl⟩
    · refine G_seq ?_
      refine G_seq (G_region ?_)
      refine G_val (V_move rfl rfl) rfl rfl (.none rfl) ?_
      refine G_val (V_move rfl rfl) rfl rfl (.none rfl) ?_
      refine G_val (V_lenS rfl rfl) rfl rfl (.none rfl) ?_
      refine G_val (V_lss rfl rfl rfl) rfl rfl (.none rfl) ?_
      refine G_end (X_then ?_)
      refine G_cond_f rfl (decide_eq_false (by omega)) ?_
      refine G_exit (X_then_exit (X_then_exit (X_block_hit (X_then (G_seq (G_region ?_))))))
      refine G_val (V_move rfl rfl) rfl rfl (.none rfl) ?_
      refine G_call (k := 12) (.mk rfl rfl rfl rfl) rfl rfl (.none rfl) (Parse_call' _ _ _ (by omega)) ?_
      rintro r1 E4 L5 hE6 ⟨z7, ⟨z8, ⟨rfl, ⟨Z9, ⟨Z10, ⟨Z11, rfl⟩⟩⟩⟩⟩⟩
      replace Z12 := Z12.mono hE6
      replace hq := hq.mono hE6
      refine G_val (V_move rfl rfl) rfl rfl (.none rfl) ?_
      refine G_val (V_extract rfl rfl rfl) rfl rfl (.none rfl) ?_
      refine G_val (V_extract rfl rfl rfl) rfl rfl (.none rfl) ?_
      refine G_val (V_assign rfl rfl) rfl rfl (.none rfl) ?_
      refine G_storeA rfl rfl rfl rfl (by simp [Value.oneCell']) rfl (.none rfl) (.head _ _ _) rfl ?_
      refine G_end (X_then (G_seq (G_seq (G_region ?_))))
      refine G_val (V_fieldAddr rfl rfl (by decide)) rfl rfl (.none rfl) ?_
      refine G_val (V_load rfl rfl (Cell.own (.head _) rfl)) rfl rfl (.none rfl) ?_
      refine G_val (V_neq rfl rfl rfl) rfl rfl (.none rfl) ?_
      refine G_end (X_then ?_)
      refine G_cond_t rfl (decide_eq_true (by omega)) ?_
      refine G_seq (G_region ?_)
      refine G_call (k := 13) (.mk rfl rfl rfl rfl) rfl rfl (.none rfl) (awake39_call _ _) ?_
      rintro r12 E13 L14 hE15 ⟨rfl, rfl⟩
      replace Z9 := Z9.mono hE15
      replace Z12 := Z12.mono hE15
      replace hq := hq.mono hE15
      refine G_val (V_assign rfl rfl) rfl rfl (.none rfl) ?_
      refine G_end (X_then (G_ret (X_then_ret ?_)))
      refine G_leaveS (.drop _ (.nil _)) (by exact (.cons (.tmp rfl) (.nil))) rfl ?_ ?_
      · exact ((((hE.trans hE5).trans hE9).trans hE6).trans hE15)
      exact ⟨(by kernel_rfl), rfl⟩
end
end Go.Proofs.YtpkingbclcalkaaDoor
