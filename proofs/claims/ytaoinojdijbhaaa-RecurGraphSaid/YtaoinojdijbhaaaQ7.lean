/-
  Rules and contracts, packed: D4, D5, D6, D7, D8, D9, D10, D37, E1, E2.
-/
import Derived.Test.YtaoinojdijbhaaaQ6
set_option maxHeartbeats 1000000
set_option linter.unusedSimpArgs false
set_option linter.unusedVariables false
set_option maxHeartbeats 2000000
set_option maxRecDepth 20000
namespace Go.Proofs.Ytaoinojdijbhaaa
open Go.RowKit
theorem fill_set {α : Type} {n i : Nat} (v z : α) (h : i < n) : (List.replicate i v ++ List.replicate (n - i) z).set i v = List.replicate (i + 1) v ++ List.replicate (n - (i + 1)) z := by
  have e : n - i = (n - (i + 1)) + 1 := by omega
  rw [e, List.set_append_right _ _ (by simp), List.length_replicate, Nat.sub_self, List.replicate_succ, List.set_cons_zero, List.replicate_succ', List.append_assoc]
  rfl
theorem fill_len {α : Type} {n i : Nat} (v z : α) (h : i ≤ n) : (List.replicate i v ++ List.replicate (n - i) z).length = n := by simp; omega
section
variable (E : Env) (L : List Res)
theorem filledB_call (n : Nat) (x : Bool) (hn : n ≤ 1000) : CallS Try.prog 110 #[.int .i64 n, .bool x] E L (fun r E' L' => ∃ b, r = .slice (some ⟨b, 0, none⟩) n n ∧ E = E' ∧ L' = .blk b (.cells (List.replicate n (Value.bool x)).toArray 4 (0, 0)) :: L) := by
  refine CallS.intro (l := [_, _]) _ Try.func110 rfl Try.ntmps110 rfl ?_
  refine G_seq (G_region ?_)
  refine G_val (V_assign rfl rfl) rfl rfl (.none rfl) ?_
  refine G_end (X_then (G_seq (G_region ?_)))
  refine G_val (V_move rfl rfl) rfl rfl (.none rfl) ?_
  (refine G_makeSlice rfl rfl rfl (by omega) (by omega) (by omega) rfl rfl (.none rfl) ?_; intro b8)
  refine G_val (V_assign rfl rfl) rfl rfl (.none rfl) ?_
  refine G_end (X_then (G_seq (G_seq (G_region ?_))))
  refine G_val (V_move rfl rfl) rfl rfl (.none rfl) ?_
  refine G_val (V_lenS rfl rfl) rfl rfl (.none rfl) ?_
  refine G_val (V_move rfl rfl) rfl rfl (.none rfl) ?_
  refine G_end (X_then (G_block ?_))
  simp only [Int.toNat_natCast]
  refine G_loop (α := Nat) (fun i => [(1, .bool x), (5, .slice (some ⟨b8, 0, none⟩) n n), (10, .int .i64 n), (11, .int .i64 i)]) (fun _ => E) (fun i => .blk b8 (.cells (List.replicate i (Value.bool x) ++ List.replicate (n - i) (Value.bool false)).toArray 4 (0, 0)) :: L)
    (fun i => i ≤ n) (fun i => n - i) 0 (Nat.zero_le _) ⟨rfl, rfl, rfl, rfl, trivial⟩ rfl rfl ?_
  intro i hi
  have hlen := fill_len (.bool x : Value) (Value.bool false) hi
  by_cases hlt : i < n
  · refine G_seq ?_
    refine G_region ?_
    refine G_val (V_lss rfl rfl rfl) rfl rfl (.none rfl) ?_
    refine G_end (X_then (G_seq ?_))
    refine G_cond_t rfl (decide_eq_true (by omega)) ?_
    refine G_skip (X_then (G_seq (G_block (G_seq (G_region ?_)))))
    refine G_val (V_move rfl rfl) rfl rfl (.none rfl) ?_
    refine G_val (V_assign rfl rfl) rfl rfl (.none rfl) ?_
    refine G_end (X_then (G_region ?_))
    refine G_val (V_move rfl rfl) rfl rfl (.none rfl) ?_
    refine G_val (V_move rfl rfl) rfl rfl (.none rfl) ?_
    refine G_val (V_move rfl rfl) rfl rfl (.none rfl) ?_
    refine G_val (V_idxB1n rfl rfl rfl (by omega)) rfl rfl (.none rfl) ?_
    refine G_storeB rfl rfl rfl rfl rfl rfl (.none rfl) (.head _ _ _) (by omega) ?_
    refine G_end (X_block (X_then (G_region ?_)))
    refine G_val (V_add_i64 rfl rfl rfl (by omega) (by omega)) rfl rfl (.none rfl) ?_
    refine G_val (V_move rfl rfl) rfl rfl (.none rfl) ?_
    refine G_end (X_then ?_)
    rw [fill_set _ _ hlt]
    exact G_again (i + 1) hlt (by omega) ⟨rfl, rfl, rfl, rfl, trivial⟩ rfl rfl
  · have e : n - i = 0 := by omega
    have e2 : i = n := by omega
    subst e2
    rw [e, List.replicate_zero, List.append_nil]
    refine G_seq (G_region ?_)
    refine G_val (V_lss rfl rfl rfl) rfl rfl (.none rfl) ?_
    refine G_end (X_then (G_seq ?_))
    refine G_cond_f rfl (decide_eq_false (by omega)) ?_
    refine G_exit (X_then_exit (X_then_exit (X_block_hit (X_then (G_seq (G_region ?_))))))
    refine G_val (V_move rfl rfl) rfl rfl (.none rfl) ?_
    refine G_val (V_assign rfl rfl) rfl rfl (.none rfl) ?_
    refine G_end (X_then (G_ret ?_))
    refine G_leaveS (.keep _ (.nil _)) (by exact (.cons (.tmp rfl) (.nil))) rfl ?_ ?_
    · exact (.refl _)
    exact ⟨_, ⟨rfl, ⟨rfl, rfl⟩⟩⟩
theorem filledL_call (n : Nat) (x : Int) (hn : n ≤ 1000) : CallS Try.prog 111 #[.int .i64 n, .int .i64 x] E L (fun r E' L' => ∃ b, r = .slice (some ⟨b, 0, none⟩) n n ∧ E = E' ∧ L' = .blk b (.cells (List.replicate n (Value.int .i64 x)).toArray 2 (0, 0)) :: L) := by
  refine CallS.intro (l := [_, _]) _ Try.func111 rfl Try.ntmps111 rfl ?_
  refine G_seq (G_region ?_)
  refine G_val (V_assign rfl rfl) rfl rfl (.none rfl) ?_
  refine G_end (X_then (G_seq (G_region ?_)))
  refine G_val (V_move rfl rfl) rfl rfl (.none rfl) ?_
  (refine G_makeSlice rfl rfl rfl (by omega) (by omega) (by omega) rfl rfl (.none rfl) ?_; intro b8)
  refine G_val (V_assign rfl rfl) rfl rfl (.none rfl) ?_
  refine G_end (X_then (G_seq (G_seq (G_region ?_))))
  refine G_val (V_move rfl rfl) rfl rfl (.none rfl) ?_
  refine G_val (V_lenS rfl rfl) rfl rfl (.none rfl) ?_
  refine G_val (V_move rfl rfl) rfl rfl (.none rfl) ?_
  refine G_end (X_then (G_block ?_))
  simp only [Int.toNat_natCast]
  refine G_loop (α := Nat) (fun i => [(1, .int .i64 x), (5, .slice (some ⟨b8, 0, none⟩) n n), (10, .int .i64 n), (11, .int .i64 i)]) (fun _ => E) (fun i => .blk b8 (.cells (List.replicate i (Value.int .i64 x) ++ List.replicate (n - i) (Value.int .i64 0)).toArray 2 (0, 0)) :: L)
    (fun i => i ≤ n) (fun i => n - i) 0 (Nat.zero_le _) ⟨rfl, rfl, rfl, rfl, trivial⟩ rfl rfl ?_
  intro i hi
  have hlen := fill_len (.int .i64 x : Value) (Value.int .i64 0) hi
  by_cases hlt : i < n
  · refine G_seq ?_
    refine G_region ?_
    refine G_val (V_lss rfl rfl rfl) rfl rfl (.none rfl) ?_
    refine G_end (X_then (G_seq ?_))
    refine G_cond_t rfl (decide_eq_true (by omega)) ?_
    refine G_skip (X_then (G_seq (G_block (G_seq (G_region ?_)))))
    refine G_val (V_move rfl rfl) rfl rfl (.none rfl) ?_
    refine G_val (V_assign rfl rfl) rfl rfl (.none rfl) ?_
    refine G_end (X_then (G_region ?_))
    refine G_val (V_move rfl rfl) rfl rfl (.none rfl) ?_
    refine G_val (V_move rfl rfl) rfl rfl (.none rfl) ?_
    refine G_val (V_move rfl rfl) rfl rfl (.none rfl) ?_
    refine G_val (V_idxB1n rfl rfl rfl (by omega)) rfl rfl (.none rfl) ?_
    refine G_storeB rfl rfl rfl rfl rfl rfl (.none rfl) (.head _ _ _) (by omega) ?_
    refine G_end (X_block (X_then (G_region ?_)))
    refine G_val (V_add_i64 rfl rfl rfl (by omega) (by omega)) rfl rfl (.none rfl) ?_
    refine G_val (V_move rfl rfl) rfl rfl (.none rfl) ?_
    refine G_end (X_then ?_)
    rw [fill_set _ _ hlt]
    exact G_again (i + 1) hlt (by omega) ⟨rfl, rfl, rfl, rfl, trivial⟩ rfl rfl
  · have e : n - i = 0 := by omega
    have e2 : i = n := by omega
    subst e2
    rw [e, List.replicate_zero, List.append_nil]
    refine G_seq (G_region ?_)
    refine G_val (V_lss rfl rfl rfl) rfl rfl (.none rfl) ?_
    refine G_end (X_then (G_seq ?_))
    refine G_cond_f rfl (decide_eq_false (by omega)) ?_
    refine G_exit (X_then_exit (X_then_exit (X_block_hit (X_then (G_seq (G_region ?_))))))
    refine G_val (V_move rfl rfl) rfl rfl (.none rfl) ?_
    refine G_val (V_assign rfl rfl) rfl rfl (.none rfl) ?_
    refine G_end (X_then (G_ret ?_))
    refine G_leaveS (.keep _ (.nil _)) (by exact (.cons (.tmp rfl) (.nil))) rfl ?_ ?_
    · exact (.refl _)
    exact ⟨_, ⟨rfl, ⟨rfl, rfl⟩⟩⟩
theorem filledI_call (n : Nat) (x : Int) (hn : n ≤ 1000) : CallS Try.prog 114 #[.int .i64 n, .int .i64 x] E L (fun r E' L' => ∃ b, r = .slice (some ⟨b, 0, none⟩) n n ∧ E = E' ∧ L' = .blk b (.cells (List.replicate n (Value.int .i64 x)).toArray 3 (0, 0)) :: L) := by
  refine CallS.intro (l := [_, _]) _ Try.func114 rfl Try.ntmps114 rfl ?_
  refine G_seq (G_region ?_)
  refine G_val (V_assign rfl rfl) rfl rfl (.none rfl) ?_
  refine G_end (X_then (G_seq (G_region ?_)))
  refine G_val (V_move rfl rfl) rfl rfl (.none rfl) ?_
  (refine G_makeSlice rfl rfl rfl (by omega) (by omega) (by omega) rfl rfl (.none rfl) ?_; intro b8)
  refine G_val (V_assign rfl rfl) rfl rfl (.none rfl) ?_
  refine G_end (X_then (G_seq (G_seq (G_region ?_))))
  refine G_val (V_move rfl rfl) rfl rfl (.none rfl) ?_
  refine G_val (V_lenS rfl rfl) rfl rfl (.none rfl) ?_
  refine G_val (V_move rfl rfl) rfl rfl (.none rfl) ?_
  refine G_end (X_then (G_block ?_))
  simp only [Int.toNat_natCast]
  refine G_loop (α := Nat) (fun i => [(1, .int .i64 x), (5, .slice (some ⟨b8, 0, none⟩) n n), (10, .int .i64 n), (11, .int .i64 i)]) (fun _ => E) (fun i => .blk b8 (.cells (List.replicate i (Value.int .i64 x) ++ List.replicate (n - i) (Value.int .i64 0)).toArray 3 (0, 0)) :: L)
    (fun i => i ≤ n) (fun i => n - i) 0 (Nat.zero_le _) ⟨rfl, rfl, rfl, rfl, trivial⟩ rfl rfl ?_
  intro i hi
  have hlen := fill_len (.int .i64 x : Value) (Value.int .i64 0) hi
  by_cases hlt : i < n
  · refine G_seq ?_
    refine G_region ?_
    refine G_val (V_lss rfl rfl rfl) rfl rfl (.none rfl) ?_
    refine G_end (X_then (G_seq ?_))
    refine G_cond_t rfl (decide_eq_true (by omega)) ?_
    refine G_skip (X_then (G_seq (G_block (G_seq (G_region ?_)))))
    refine G_val (V_move rfl rfl) rfl rfl (.none rfl) ?_
    refine G_val (V_assign rfl rfl) rfl rfl (.none rfl) ?_
    refine G_end (X_then (G_region ?_))
    refine G_val (V_move rfl rfl) rfl rfl (.none rfl) ?_
    refine G_val (V_move rfl rfl) rfl rfl (.none rfl) ?_
    refine G_val (V_move rfl rfl) rfl rfl (.none rfl) ?_
    refine G_val (V_idxB1n rfl rfl rfl (by omega)) rfl rfl (.none rfl) ?_
    refine G_storeB rfl rfl rfl rfl rfl rfl (.none rfl) (.head _ _ _) (by omega) ?_
    refine G_end (X_block (X_then (G_region ?_)))
    refine G_val (V_add_i64 rfl rfl rfl (by omega) (by omega)) rfl rfl (.none rfl) ?_
    refine G_val (V_move rfl rfl) rfl rfl (.none rfl) ?_
    refine G_end (X_then ?_)
    rw [fill_set _ _ hlt]
    exact G_again (i + 1) hlt (by omega) ⟨rfl, rfl, rfl, rfl, trivial⟩ rfl rfl
  · have e : n - i = 0 := by omega
    have e2 : i = n := by omega
    subst e2
    rw [e, List.replicate_zero, List.append_nil]
    refine G_seq (G_region ?_)
    refine G_val (V_lss rfl rfl rfl) rfl rfl (.none rfl) ?_
    refine G_end (X_then (G_seq ?_))
    refine G_cond_f rfl (decide_eq_false (by omega)) ?_
    refine G_exit (X_then_exit (X_then_exit (X_block_hit (X_then (G_seq (G_region ?_))))))
    refine G_val (V_move rfl rfl) rfl rfl (.none rfl) ?_
    refine G_val (V_assign rfl rfl) rfl rfl (.none rfl) ?_
    refine G_end (X_then (G_ret ?_))
    refine G_leaveS (.keep _ (.nil _)) (by exact (.cons (.tmp rfl) (.nil))) rfl ?_ ?_
    · exact (.refl _)
    exact ⟨_, ⟨rfl, ⟨rfl, rfl⟩⟩⟩
end
end Go.Proofs.Ytaoinojdijbhaaa
set_option linter.unusedSimpArgs false
set_option linter.unusedVariables false
set_option maxHeartbeats 2000000
set_option maxRecDepth 20000
namespace Go.Proofs.Ytaoinojdijbhaaa
open Go.RowKit
def encC : Option Nat → Int
  | none => 9223372036854775807
  | some c => c
def bools (l : List Bool) : List Value := l.map fun b => .bool b
theorem bools_len (l : List Bool) : (bools l).length = l.length := List.length_map _
theorem take_set {α : Type} {l : List α} {n i : Nat} (z : α) (hl : l.length = n) (h : i < n) : (l.take i ++ List.replicate (n - i) z).set i (l[i]'(by omega)) = l.take (i + 1) ++ List.replicate (n - (i + 1)) z := by
  have e : n - i = (n - (i + 1)) + 1 := by omega
  have e2 : (l.take i).length = i := by rw [List.length_take]; omega
  rw [e, List.set_append_right _ _ (by omega), e2, Nat.sub_self, List.replicate_succ, List.set_cons_zero, List.take_succ_eq_append_getElem (by omega), List.append_assoc]
  rfl
theorem take_keep {α : Type} {l : List α} {n i : Nat} {z : α} (hl : l.length = n) (h : i < n) (hz : l[i]'(by omega) = z) : l.take i ++ List.replicate (n - i) z = l.take (i + 1) ++ List.replicate (n - (i + 1)) z := by
  have e : n - i = (n - (i + 1)) + 1 := by omega
  rw [e, List.replicate_succ, List.take_succ_eq_append_getElem (by omega), List.append_assoc, hz]
  rfl
theorem take_fill_len {α : Type} {l : List α} {n i : Nat} (z : α) (hl : l.length = n) (h : i ≤ n) : (l.take i ++ List.replicate (n - i) z).length = n := by simp; omega
section
variable (E : Env) (L : List Res)
theorem sum_call (x y : Option Nat) (hx : ∀ c, x = some c → c ≤ 1000000000000000000) (hy : ∀ c, y = some c → c ≤ 1000000000000000000) : CallV Try.prog 113 #[.int .i64 (encC x), .int .i64 (encC y)] E L (.int .i64 (encC (addO x y))) := by
  cases x with
  | none =>
    have e : encC (addO none y) = 9223372036854775807 := rfl
    rw [e]
    simp only [encC]
    refine CallS.toV (CallS.intro (l := [_, _]) _ Try.func113 rfl Try.ntmps113 rfl ?_)
    refine G_seq (G_region ?_)
    refine G_val (V_assign rfl rfl) rfl rfl (.none rfl) ?_
    refine G_end (X_then (G_seq (G_seq (G_region ?_))))
    refine G_val (V_move rfl rfl) rfl rfl (.none rfl) ?_
    refine G_val (V_eql rfl rfl rfl) rfl rfl (.none rfl) ?_
    refine G_val (V_move rfl rfl) rfl rfl (.none rfl) ?_
    refine G.bool_t 7 rfl (by kernel_rfl) ?_
    refine G_stay (.no rfl rfl rfl rfl) rfl rfl ?_
    refine G_stay (.no rfl rfl rfl rfl) rfl rfl ?_
    refine G_val (V_pick_t rfl rfl rfl) rfl rfl (.none rfl) ?_
    refine G_val (V_move rfl rfl) rfl rfl (.none rfl) ?_
    refine G_stay (.no rfl rfl rfl rfl) rfl rfl ?_
    refine G_stay (.no rfl rfl rfl rfl) rfl rfl ?_
    refine G_stay (.no rfl rfl rfl rfl) rfl rfl ?_
    refine G_stay (.no rfl rfl rfl rfl) rfl rfl ?_
    refine G_val (V_pick_t rfl rfl rfl) rfl rfl (.none rfl) ?_
    refine G_end (X_then ?_)
    refine G_cond_t rfl rfl ?_
    refine G_seq (G_region ?_)
    refine G_val (V_assign rfl rfl) rfl rfl (.none rfl) ?_
    refine G_end (X_then (G_ret (X_then_ret ?_)))
    refine G_leaveS (.nil _) (by exact (.cons (.tmp rfl) (.nil))) rfl ?_ ?_
    · exact (.refl _)
    exact ⟨(by kernel_rfl), rfl⟩
  | some a =>
    have ha := hx a rfl
    cases y with
    | none =>
      have e : encC (addO (some a) none) = 9223372036854775807 := rfl
      rw [e]
      simp only [encC]
      refine CallS.toV (CallS.intro (l := [_, _]) _ Try.func113 rfl Try.ntmps113 rfl ?_)
      refine G_seq (G_region ?_)
      refine G_val (V_assign rfl rfl) rfl rfl (.none rfl) ?_
      refine G_end (X_then (G_seq (G_seq (G_region ?_))))
      refine G_val (V_move rfl rfl) rfl rfl (.none rfl) ?_
      refine G_val (V_eql rfl rfl rfl) rfl rfl (.none rfl) ?_
      refine G_val (V_move rfl rfl) rfl rfl (.none rfl) ?_
      refine G.bool_f 7 rfl (decide_eq_false (by omega)) ?_
      refine G_val (V_move rfl rfl) rfl rfl (.yes rfl rfl rfl rfl) ?_
      refine G_val (V_eql rfl rfl rfl) rfl rfl (.yes rfl rfl rfl rfl) ?_
      refine G_val (V_pick_f rfl rfl rfl) rfl rfl (.none rfl) ?_
      refine G_val (V_move rfl rfl) rfl rfl (.none rfl) ?_
      refine G.bool_t 11 rfl (by kernel_rfl) ?_
      refine G_stay (.no rfl rfl rfl rfl) rfl rfl ?_
      refine G_stay (.no rfl rfl rfl rfl) rfl rfl ?_
      refine G_stay (.no rfl rfl rfl rfl) rfl rfl ?_
      refine G_stay (.no rfl rfl rfl rfl) rfl rfl ?_
      refine G_val (V_pick_t rfl rfl rfl) rfl rfl (.none rfl) ?_
      refine G_end (X_then ?_)
      refine G_cond_t rfl rfl ?_
      refine G_seq (G_region ?_)
      refine G_val (V_assign rfl rfl) rfl rfl (.none rfl) ?_
      refine G_end (X_then (G_ret (X_then_ret ?_)))
      refine G_leaveS (.nil _) (by exact (.cons (.tmp rfl) (.nil))) rfl ?_ ?_
      · exact (.refl _)
      exact ⟨(by kernel_rfl), rfl⟩
    | some b =>
      have hb := hy b rfl
      have e : encC (addO (some a) (some b)) = (a : Int) + b := by simp [encC, addO]
      rw [e]
      simp only [encC]
      refine CallS.toV (CallS.intro (l := [_, _]) _ Try.func113 rfl Try.ntmps113 rfl ?_)
      refine G_seq (G_region ?_)
      refine G_val (V_assign rfl rfl) rfl rfl (.none rfl) ?_
      refine G_end (X_then (G_seq (G_seq (G_region ?_))))
      refine G_val (V_move rfl rfl) rfl rfl (.none rfl) ?_
      refine G_val (V_eql rfl rfl rfl) rfl rfl (.none rfl) ?_
      refine G_val (V_move rfl rfl) rfl rfl (.none rfl) ?_
      refine G.bool_f 7 rfl (decide_eq_false (by omega)) ?_
      refine G_val (V_move rfl rfl) rfl rfl (.yes rfl rfl rfl rfl) ?_
      refine G_val (V_eql rfl rfl rfl) rfl rfl (.yes rfl rfl rfl rfl) ?_
      refine G_val (V_pick_f rfl rfl rfl) rfl rfl (.none rfl) ?_
      refine G_val (V_move rfl rfl) rfl rfl (.none rfl) ?_
      refine G.bool_f 11 rfl (decide_eq_false (by omega)) ?_
      refine G_val (V_move rfl rfl) rfl rfl (.yes rfl rfl rfl rfl) ?_
      refine G_val (V_move rfl rfl) rfl rfl (.yes rfl rfl rfl rfl) ?_
      refine G_val (V_sub_i64 rfl rfl rfl (by omega) (by omega)) rfl rfl (.yes rfl rfl rfl rfl) ?_
      refine G_val (V_gtr rfl rfl rfl) rfl rfl (.yes rfl rfl rfl rfl) ?_
      refine G_val (V_pick_f rfl rfl rfl) rfl rfl (.none rfl) ?_
      refine G_end (X_then ?_)
      refine G_cond_f rfl (decide_eq_false (by omega)) ?_
      refine G_skip (X_then (G_seq (G_region ?_)))
      refine G_val (V_move rfl rfl) rfl rfl (.none rfl) ?_
      refine G_val (V_move rfl rfl) rfl rfl (.none rfl) ?_
      refine G_val (V_add_i64 rfl rfl rfl (by omega) (by omega)) rfl rfl (.none rfl) ?_
      refine G_val (V_assign rfl rfl) rfl rfl (.none rfl) ?_
      refine G_end (X_then (G_ret ?_))
      refine G_leaveS (.nil _) (by exact (.cons (.tmp rfl) (.nil))) rfl ?_ ?_
      · exact (.refl _)
      exact ⟨rfl, rfl⟩
theorem i64s_at {l : List Int} {i : Nat} (h : i < l.length) : (i64s l)[i]? = some (.int .i64 l[i]) := by simp [i64s, h]
theorem which_call (p : Option Addr) (n c : Nat) (xs : List Int) (hx : SlE E 1 p n (i64s xs)) (hn : n ≤ 1000) : CallS Try.prog 80 #[.slice p n c] E L (fun r E' L' => ∃ b, r = .slice (some ⟨b, 0, none⟩) n n ∧ SlE E' 1 (some ⟨b, 0, none⟩) n (bools (xs.map fun c => decide (c ≠ 9223372036854775807))) ∧ L' = L) := by
  have e1 : n = xs.length := by have := hx.1; simp [i64s] at this; exact this.symm
  subst e1
  refine CallS.intro (l := [_]) _ Try.func80 rfl Try.ntmps80 rfl ?_
  refine G_seq (G_region ?_)
  refine G_val (V_assign rfl rfl) rfl rfl (.none rfl) ?_
  refine G_end (X_then (G_seq (G_region ?_)))
  refine G_val (V_move rfl rfl) rfl rfl (.none rfl) ?_
  refine G_val (V_lenS rfl rfl) rfl rfl (.none rfl) ?_
  refine G_call (k := 110) (.mk rfl rfl rfl rfl) rfl rfl (.none rfl) (filledB_call _ _ _ _ (by assumption)) ?_
  rintro r1 E2 L3 hE4 ⟨z5, ⟨rfl, ⟨rfl, rfl⟩⟩⟩
  replace hx := hx.mono hE4
  refine G_val (V_assign rfl rfl) rfl rfl (.none rfl) ?_
  refine G_end (X_then (G_seq (G_seq (G_region ?_))))
  refine G_val (V_move rfl rfl) rfl rfl (.none rfl) ?_
  refine G_val (V_lenS rfl rfl) rfl rfl (.none rfl) ?_
  refine G_val (V_move rfl rfl) rfl rfl (.none rfl) ?_
  refine G_end (X_then (G_block ?_))
  have hl : (bools (xs.map fun c => decide (c ≠ 9223372036854775807))).length = xs.length := by simp [bools]
  refine G_loop (α := Nat) (fun i => [(3, .slice (some ⟨z5, 0, none⟩) xs.length xs.length), (9, .slice p xs.length c), (10, .int .i64 xs.length), (11, .int .i64 i)]) (fun _ => E) (fun i => .blk z5 (.cells ((bools (xs.map fun c => decide (c ≠ 9223372036854775807))).take i ++ List.replicate (xs.length - i) (Value.bool false)).toArray 4 (0, 0)) :: L)
    (fun i => i ≤ xs.length) (fun i => xs.length - i) 0 (Nat.zero_le _) ⟨rfl, rfl, rfl, rfl, trivial⟩ rfl (by simp) ?_
  intro i hi
  have hlen := take_fill_len (Value.bool false) hl hi
  by_cases hlt : i < xs.length
  · have hy := i64s_at hlt
    have hs := take_set (Value.bool false) hl hlt
    have hg : (bools (xs.map fun c => decide (c ≠ 9223372036854775807)))[i]'(by omega) = .bool (decide (xs[i] ≠ 9223372036854775807)) := by simp [bools]
    rw [hg] at hs
    refine G_seq (G_region ?_)
    refine G_val (V_lss rfl rfl rfl) rfl rfl (.none rfl) ?_
    refine G_end (X_then (G_seq ?_))
    refine G_cond_t rfl (decide_eq_true (by omega)) ?_
    refine G_skip (X_then (G_seq (G_block (G_seq (G_region ?_)))))
    refine G_val (V_move rfl rfl) rfl rfl (.none rfl) ?_
    refine G_val (V_idxAddr rfl rfl rfl (SlE.rd (by assumption)) (by omega) (by omega)) rfl rfl (.none rfl) ?_
    refine G_val (V_loadS rfl rfl (SlE.rd (by assumption)) (by assumption) (by simp)) rfl rfl (.none rfl) ?_
    refine G_val (V_assign rfl rfl) rfl rfl (.none rfl) ?_
    refine G_val (V_assign rfl rfl) rfl rfl (.none rfl) ?_
    refine G_end (X_then (G_region ?_))
    refine G_val (V_move rfl rfl) rfl rfl (.none rfl) ?_
    refine G_val (V_move rfl rfl) rfl rfl (.none rfl) ?_
    refine G_val (V_move rfl rfl) rfl rfl (.none rfl) ?_
    refine G_val (V_neq rfl rfl rfl) rfl rfl (.none rfl) ?_
    refine G_val (V_idxB1n rfl rfl rfl (by omega)) rfl rfl (.none rfl) ?_
    refine G_storeB rfl rfl rfl rfl rfl rfl (.none rfl) (.head _ _ _) (by omega) ?_
    refine G_end (X_block (X_then (G_region ?_)))
    refine G_val (V_add_i64 rfl rfl rfl (by omega) (by omega)) rfl rfl (.none rfl) ?_
    refine G_val (V_move rfl rfl) rfl rfl (.none rfl) ?_
    refine G_end (X_then ?_)
    rw [hs]
    exact G_again (i + 1) hlt (by omega) ⟨rfl, rfl, rfl, rfl, trivial⟩ rfl rfl
  · have e : xs.length - i = 0 := by omega
    have e2 : i = xs.length := by omega
    subst e2
    rw [e, List.replicate_zero, List.append_nil, List.take_of_length_le (by omega)]
    refine G.freezeB (.head _ _) (k := xs.length) (sz := 1) (by rw [hl, Nat.mul_one]) ?_
    intro E1 hE1 hs1
    refine G_seq (G_region ?_)
    refine G_val (V_lss rfl rfl rfl) rfl rfl (.none rfl) ?_
    refine G_end (X_then (G_seq ?_))
    refine G_cond_f rfl (decide_eq_false (by omega)) ?_
    refine G_exit (X_then_exit (X_then_exit (X_block_hit (X_then (G_seq (G_region ?_))))))
    refine G_val (V_move rfl rfl) rfl rfl (.none rfl) ?_
    refine G_val (V_assign rfl rfl) rfl rfl (.none rfl) ?_
    refine G_end (X_then (G_ret ?_))
    refine G_leaveS (.nil _) (by exact (.cons (.tmp rfl) (.nil))) rfl ?_ ?_
    · exact hE1
    exact ⟨_, ⟨rfl, ⟨(by assumption), rfl⟩⟩⟩
    
theorem chosen_call (p : Option Addr) (n c : Nat) (xs : List Int) (o : Int) (hx : SlE E 1 p n (i64s xs)) (hn : n ≤ 1000) : CallS Try.prog 86 #[.slice p n c, .int .i64 o] E L (fun r E' L' => ∃ b, r = .slice (some ⟨b, 0, none⟩) n n ∧ SlE E' 1 (some ⟨b, 0, none⟩) n (i64s (xs.map fun c => if c = 9223372036854775807 then o else c)) ∧ L' = L) := by
  have e1 : n = xs.length := by have := hx.1; simp [i64s] at this; exact this.symm
  subst e1
  refine CallS.intro (l := [_, _]) _ Try.func86 rfl Try.ntmps86 rfl ?_
  refine G_seq (G_region ?_)
  refine G_val (V_assign rfl rfl) rfl rfl (.none rfl) ?_
  refine G_end (X_then (G_seq (G_region ?_)))
  refine G_val (V_move rfl rfl) rfl rfl (.none rfl) ?_
  refine G_val (V_lenS rfl rfl) rfl rfl (.none rfl) ?_
  refine G_val (V_move rfl rfl) rfl rfl (.none rfl) ?_
  refine G_call (k := 114) (.mk rfl rfl rfl rfl) rfl rfl (.none rfl) (filledI_call _ _ _ _ (by assumption)) ?_
  rintro r1 E2 L3 hE4 ⟨z5, ⟨rfl, ⟨rfl, rfl⟩⟩⟩
  replace hx := hx.mono hE4
  refine G_val (V_assign rfl rfl) rfl rfl (.none rfl) ?_
  refine G_end (X_then (G_seq (G_seq (G_region ?_))))
  refine G_val (V_move rfl rfl) rfl rfl (.none rfl) ?_
  refine G_val (V_lenS rfl rfl) rfl rfl (.none rfl) ?_
  refine G_val (V_move rfl rfl) rfl rfl (.none rfl) ?_
  refine G_end (X_then (G_block ?_))
  have hl : (i64s (xs.map fun c => if c = 9223372036854775807 then o else c)).length = xs.length := by simp [i64s]
  refine G_loop (α := Nat) (fun i => [(5, .slice (some ⟨z5, 0, none⟩) xs.length xs.length), (12, .slice p xs.length c), (13, .int .i64 xs.length), (14, .int .i64 i)]) (fun _ => E) (fun i => .blk z5 (.cells ((i64s (xs.map fun c => if c = 9223372036854775807 then o else c)).take i ++ List.replicate (xs.length - i) (Value.int .i64 o)).toArray 3 (0, 0)) :: L)
    (fun i => i ≤ xs.length) (fun i => xs.length - i) 0 (Nat.zero_le _) ⟨rfl, rfl, rfl, rfl, trivial⟩ rfl (by simp) ?_
  intro i hi
  have hlen := take_fill_len (Value.int .i64 o) hl hi
  by_cases hlt : i < xs.length
  · have hy := i64s_at hlt
    have hs := take_set (Value.int .i64 o) hl hlt
    have hg : (i64s (xs.map fun c => if c = 9223372036854775807 then o else c))[i]'(by omega) = .int .i64 (if xs[i] = 9223372036854775807 then o else xs[i]) := by simp [i64s]
    by_cases hn0 : xs[i] = 9223372036854775807
    · rw [if_pos hn0] at hg
      have hk := take_keep hl hlt hg
      refine G_seq (G_region ?_)
      refine G_val (V_lss rfl rfl rfl) rfl rfl (.none rfl) ?_
      refine G_end (X_then (G_seq ?_))
      refine G_cond_t rfl (decide_eq_true (by omega)) ?_
      refine G_skip (X_then (G_seq (G_block (G_seq (G_region ?_)))))
      refine G_val (V_move rfl rfl) rfl rfl (.none rfl) ?_
      refine G_val (V_idxAddr rfl rfl rfl (SlE.rd (by assumption)) (by omega) (by omega)) rfl rfl (.none rfl) ?_
      refine G_val (V_loadS rfl rfl (SlE.rd (by assumption)) (by assumption) (by simp)) rfl rfl (.none rfl) ?_
      refine G_val (V_assign rfl rfl) rfl rfl (.none rfl) ?_
      refine G_val (V_assign rfl rfl) rfl rfl (.none rfl) ?_
      refine G_end (X_then (G_seq (G_region ?_)))
      refine G_val (V_move rfl rfl) rfl rfl (.none rfl) ?_
      refine G_val (V_neq rfl rfl rfl) rfl rfl (.none rfl) ?_
      refine G_end (X_then ?_)
      refine G_cond_f rfl (decide_eq_false (by omega)) ?_
      refine G_skip (X_block (X_then (G_region ?_)))
      refine G_val (V_add_i64 rfl rfl rfl (by omega) (by omega)) rfl rfl (.none rfl) ?_
      refine G_val (V_move rfl rfl) rfl rfl (.none rfl) ?_
      refine G_end (X_then ?_)
      rw [hk]
      exact G_again (i + 1) hlt (by omega) ⟨rfl, rfl, rfl, rfl, trivial⟩ rfl rfl
    · rw [if_neg hn0] at hg
      rw [hg] at hs
      refine G_seq (G_region ?_)
      refine G_val (V_lss rfl rfl rfl) rfl rfl (.none rfl) ?_
      refine G_end (X_then (G_seq ?_))
      refine G_cond_t rfl (decide_eq_true (by omega)) ?_
      refine G_skip (X_then (G_seq (G_block (G_seq (G_region ?_)))))
      refine G_val (V_move rfl rfl) rfl rfl (.none rfl) ?_
      refine G_val (V_idxAddr rfl rfl rfl (SlE.rd (by assumption)) (by omega) (by omega)) rfl rfl (.none rfl) ?_
      refine G_val (V_loadS rfl rfl (SlE.rd (by assumption)) (by assumption) (by simp)) rfl rfl (.none rfl) ?_
      refine G_val (V_assign rfl rfl) rfl rfl (.none rfl) ?_
      refine G_val (V_assign rfl rfl) rfl rfl (.none rfl) ?_
      refine G_end (X_then (G_seq (G_region ?_)))
      refine G_val (V_move rfl rfl) rfl rfl (.none rfl) ?_
      refine G_val (V_neq rfl rfl rfl) rfl rfl (.none rfl) ?_
      refine G_end (X_then ?_)
      refine G_cond_t rfl (decide_eq_true (by omega)) ?_
      refine G_region ?_
      refine G_val (V_move rfl rfl) rfl rfl (.none rfl) ?_
      refine G_val (V_move rfl rfl) rfl rfl (.none rfl) ?_
      refine G_val (V_move rfl rfl) rfl rfl (.none rfl) ?_
      refine G_val (V_idxB1n rfl rfl rfl (by omega)) rfl rfl (.none rfl) ?_
      refine G_storeB rfl rfl rfl rfl rfl rfl (.none rfl) (.head _ _ _) (by omega) ?_
      refine G_end (X_block (X_then (G_region ?_)))
      refine G_val (V_add_i64 rfl rfl rfl (by omega) (by omega)) rfl rfl (.none rfl) ?_
      refine G_val (V_move rfl rfl) rfl rfl (.none rfl) ?_
      refine G_end (X_then ?_)
      rw [hs]
      exact G_again (i + 1) hlt (by omega) ⟨rfl, rfl, rfl, rfl, trivial⟩ rfl rfl
  · have e : xs.length - i = 0 := by omega
    have e2 : i = xs.length := by omega
    subst e2
    rw [e, List.replicate_zero, List.append_nil, List.take_of_length_le (by omega)]
    refine G.freezeB (.head _ _) (k := xs.length) (sz := 1) (by rw [hl, Nat.mul_one]) ?_
    intro E1 hE1 hs1
    refine G_seq (G_region ?_)
    refine G_val (V_lss rfl rfl rfl) rfl rfl (.none rfl) ?_
    refine G_end (X_then (G_seq ?_))
    refine G_cond_f rfl (decide_eq_false (by omega)) ?_
    refine G_exit (X_then_exit (X_then_exit (X_block_hit (X_then (G_seq (G_region ?_))))))
    refine G_val (V_move rfl rfl) rfl rfl (.none rfl) ?_
    refine G_val (V_assign rfl rfl) rfl rfl (.none rfl) ?_
    refine G_end (X_then (G_ret ?_))
    refine G_leaveS (.nil _) (by exact (.cons (.tmp rfl) (.nil))) rfl ?_ ?_
    · exact hE1
    exact ⟨_, ⟨rfl, ⟨(by assumption), rfl⟩⟩⟩
    
end
end Go.Proofs.Ytaoinojdijbhaaa
set_option linter.unusedSimpArgs false
set_option linter.unusedVariables false
set_option maxHeartbeats 2000000
set_option maxRecDepth 20000
namespace Go.Proofs.Ytaoinojdijbhaaa
open Go.RowKit
theorem tab_at {f : Tab} {s : Int} (h1 : 16 ≤ s) (h2 : s < 16 + f.length) : (i64s (f.map encC))[(s - 16).toNat]? = some (.int .i64 (encC (tget f s))) := by
  have h : (s - 16).toNat < f.length := by omega
  simp [i64s, tget, h]
theorem tab_set (f : Tab) (p : Pr) (v : Nat) : (i64s (f.map encC)).set (p.1 - 16).toNat (.int .i64 v) = i64s ((upd f p v).map encC) := by
  simp [i64s, upd, List.map_set, encC]
section
variable (E : Env) (L : List Res)
theorem cost_call (t : Option Nat) (own : Nat) (n : Nat) (f : Tab) (c4 c5 c7 co : Nat) (s : Int) (rp : Option Addr) (rc : Nat) (r : List Int)
    (m4 : .blk c4 (.cells #[.int .i64 (own : Int)] 2 (0, 0)) ∈ L) (m5 : .blk c5 (.cells #[.int .i64 (encC t)] 2 (0, 0)) ∈ L) (m7 : .blk c7 (.cells #[.slice (some ⟨co, 0, none⟩) n n] 86 (0, 0)) ∈ L)
    (mo : .blk co (.cells (i64s (f.map encC)).toArray 2 (0, 0)) ∈ L) (hr : SlE E 1 rp r.length (i64s r)) (h8 : r.length ≤ 8) (hs : Small t own) (hf : ∀ s c, tget f s = some c → c ≤ 1099511627776) (hfl : f.length = n) (hn : n ≤ 10) (hy : ∀ s, s ∈ r → s < 16 + (n : Int)) :
    CallV Try.prog 112 #[.agg #[.int .i64 s, .slice rp r.length rc], .pointer (some ⟨c4, 0, none⟩), .pointer (some ⟨c5, 0, none⟩), .pointer (some ⟨c7, 0, none⟩)] E L (.int .i64 (encC (addO (some own) (cost t f r)))) := by
  subst hfl
  have ht : ∀ c, t = some c → c ≤ 1099511627776 := fun c hc => Nat.le_trans (hs.t c hc) (by decide)
  have hown := hs.own
  refine CallS.toV (CallS.intro (l := [_, _, _, _]) _ Try.func112 rfl Try.ntmps112 rfl ?_)
  refine G_seq (G_region ?_)
  (refine G_boxA rfl rfl rfl rfl (.none rfl) ?_; intro b4)
  refine G_val (V_assign rfl rfl) rfl rfl (.none rfl) ?_
  refine G_end (X_then (G_seq (G_region ?_)))
  refine G_val (V_load rfl rfl (Cell.own (.tail _ (by assumption)) rfl)) rfl rfl (.none rfl) ?_
  refine G_val (V_assign rfl rfl) rfl rfl (.none rfl) ?_
  refine G_end (X_then (G_seq (G_seq (G_region ?_))))
  refine G_val (V_fieldAddr rfl rfl (by decide)) rfl rfl (.none rfl) ?_
  refine G_val (V_load rfl rfl (Cell.own (.head _) rfl)) rfl rfl (.none rfl) ?_
  refine G_val (V_lenS rfl rfl) rfl rfl (.none rfl) ?_
  refine G_val (V_move rfl rfl) rfl rfl (.none rfl) ?_
  refine G_end (X_then (G_block ?_))
  refine G_loop (α := Nat) (fun i => [(2, .pointer (some ⟨c5, 0, none⟩)), (3, .pointer (some ⟨c7, 0, none⟩)), (6, .int .i64 (encC (addO (some own) (cost t f (r.take i))))), (11, .slice rp r.length rc), (12, .int .i64 r.length), (13, .int .i64 i)]) (fun _ => E) (fun _ => .blk b4 (.cells #[.int .i64 s, .slice rp r.length rc] 62 (0, 0)) :: L)
    (fun i => i ≤ r.length) (fun i => r.length - i) 0 (Nat.zero_le _) ⟨rfl, rfl, rfl, rfl, rfl, rfl, trivial⟩ rfl rfl ?_
  intro i hi
  have hb1 : ∀ c, addO (some own) (cost t f (r.take i)) = some c → c ≤ 1000000000000000000 := by
    intro c hc
    obtain ⟨x, y, hx, hy, rfl⟩ := addO_some hc
    have h1 := cost_le ht hf _ _ hy
    have h2 : (r.take i).length ≤ 8 := by rw [List.length_take]; omega
    have h3 := Nat.mul_le_mul_right 1099511627776 h2
    have := Option.some.inj hx
    omega
  by_cases hlt : i < r.length
  · have hx := i64s_at hlt
    have hb2 : ∀ c, t = some c → c ≤ 1000000000000000000 := fun c hc => Nat.le_trans (ht c hc) (by decide)
    have hb3 : ∀ c, tget f r[i] = some c → c ≤ 1000000000000000000 := fun c hc => Nat.le_trans (hf _ c hc) (by decide)
    have hs := hy r[i] (List.getElem_mem hlt)
    have he := cost_take t f hlt
    rw [symc] at he
    by_cases h16 : r[i] < 16
    · rw [if_pos h16] at he
      refine G_seq (G_region ?_)
      refine G_val (V_lss rfl rfl rfl) rfl rfl (.none rfl) ?_
      refine G_end (X_then (G_seq ?_))
      refine G_cond_t rfl (decide_eq_true (by omega)) ?_
      refine G_skip (X_then (G_seq (G_block (G_seq (G_region ?_)))))
      refine G_val (V_idxAddr rfl rfl rfl (SlE.rd (by assumption)) (by omega) (by omega)) rfl rfl (.none rfl) ?_
      refine G_val (V_loadS rfl rfl (SlE.rd (by assumption)) (by assumption) (by simp)) rfl rfl (.none rfl) ?_
      refine G_val (V_assign rfl rfl) rfl rfl (.none rfl) ?_
      refine G_end (X_then (G_seq (G_region ?_)))
      refine G_val (V_move rfl rfl) rfl rfl (.none rfl) ?_
      refine G_val (V_lss rfl rfl rfl) rfl rfl (.none rfl) ?_
      refine G_end (X_then ?_)
      refine G_cond_t rfl (decide_eq_true (by omega)) ?_
      refine G_region ?_
      refine G_val (V_move rfl rfl) rfl rfl (.none rfl) ?_
      refine G_val (V_load rfl rfl (Cell.own (.tail _ (by assumption)) rfl)) rfl rfl (.none rfl) ?_
      refine G_callv (k := 113) (.mk rfl rfl rfl rfl) rfl rfl (.none rfl) (sum_call _ _ _ _ (by assumption) (by assumption)) ?_
      refine G_val (V_assign rfl rfl) rfl rfl (.none rfl) ?_
      refine G_end (X_block (X_then (G_region ?_)))
      refine G_val (V_add_i64 rfl rfl rfl (by omega) (by omega)) rfl rfl (.none rfl) ?_
      refine G_val (V_move rfl rfl) rfl rfl (.none rfl) ?_
      refine G_end (X_then ?_)
      rw [addO_assoc, ← he]
      exact G_again (i + 1) hlt (by omega) ⟨rfl, rfl, rfl, rfl, rfl, rfl, trivial⟩ rfl rfl
    · rw [if_neg h16] at he
      have hv := tab_at (f := f) (by omega) hs
      refine G_seq (G_region ?_)
      refine G_val (V_lss rfl rfl rfl) rfl rfl (.none rfl) ?_
      refine G_end (X_then (G_seq ?_))
      refine G_cond_t rfl (decide_eq_true (by omega)) ?_
      refine G_skip (X_then (G_seq (G_block (G_seq (G_region ?_)))))
      refine G_val (V_idxAddr rfl rfl rfl (SlE.rd (by assumption)) (by omega) (by omega)) rfl rfl (.none rfl) ?_
      refine G_val (V_loadS rfl rfl (SlE.rd (by assumption)) (by assumption) (by simp)) rfl rfl (.none rfl) ?_
      refine G_val (V_assign rfl rfl) rfl rfl (.none rfl) ?_
      refine G_end (X_then (G_seq (G_region ?_)))
      refine G_val (V_move rfl rfl) rfl rfl (.none rfl) ?_
      refine G_val (V_lss rfl rfl rfl) rfl rfl (.none rfl) ?_
      refine G_end (X_then ?_)
      refine G_cond_f rfl (decide_eq_false (by omega)) ?_
      refine G_region ?_
      refine G_val (V_move rfl rfl) rfl rfl (.none rfl) ?_
      refine G_val (V_load rfl rfl (Cell.own (.tail _ (by assumption)) rfl)) rfl rfl (.none rfl) ?_
      refine G_val (V_move rfl rfl) rfl rfl (.none rfl) ?_
      refine G_val (V_sub_i64 rfl rfl rfl (by omega) (by omega)) rfl rfl (.none rfl) ?_
      refine G_val (V_idxB1 rfl rfl rfl (by omega) (by omega)) rfl rfl (.none rfl) ?_
      refine G_val (V_load rfl rfl (Cell.own (.tail _ (by assumption)) (by assumption))) rfl rfl (.none rfl) ?_
      refine G_callv (k := 113) (.mk rfl rfl rfl rfl) rfl rfl (.none rfl) (sum_call _ _ _ _ (by assumption) (by assumption)) ?_
      refine G_val (V_assign rfl rfl) rfl rfl (.none rfl) ?_
      refine G_end (X_block (X_then (G_region ?_)))
      refine G_val (V_add_i64 rfl rfl rfl (by omega) (by omega)) rfl rfl (.none rfl) ?_
      refine G_val (V_move rfl rfl) rfl rfl (.none rfl) ?_
      refine G_end (X_then ?_)
      rw [addO_assoc, ← he]
      exact G_again (i + 1) hlt (by omega) ⟨rfl, rfl, rfl, rfl, rfl, rfl, trivial⟩ rfl rfl
  · have e2 : i = r.length := by omega
    subst e2
    rw [List.take_length]
    refine G_seq (G_region ?_)
    refine G_val (V_lss rfl rfl rfl) rfl rfl (.none rfl) ?_
    refine G_end (X_then (G_seq ?_))
    refine G_cond_f rfl (decide_eq_false (by omega)) ?_
    refine G_exit (X_then_exit (X_then_exit (X_block_hit (X_then (G_seq (G_region ?_))))))
    refine G_val (V_move rfl rfl) rfl rfl (.none rfl) ?_
    refine G_val (V_assign rfl rfl) rfl rfl (.none rfl) ?_
    refine G_end (X_then (G_ret ?_))
    refine G_leaveS (.drop _ (.nil _)) (by exact (.cons (.tmp rfl) (.nil))) rfl ?_ ?_
    · exact (.refl _)
    exact ⟨rfl, rfl⟩
end
end Go.Proofs.Ytaoinojdijbhaaa
set_option linter.unusedSimpArgs false
set_option linter.unusedVariables false
set_option maxHeartbeats 2000000
set_option maxRecDepth 20000
namespace Go.Proofs.Ytaoinojdijbhaaa
open Go.RowKit
theorem start_cells (n : Nat) : List.replicate n (Value.int .i64 9223372036854775807) = i64s ((start n).map encC) := by simp [start, i64s, encC]
theorem better_lt {t : Option Nat} {own : Nat} {f : Tab} {p : Pr} (hb : ∀ c, addO (some own) (cost t f p.2) = some c → c ≤ 1000000000000000000) (hc : ∀ c, tget f p.1 = some c → c ≤ 1000000000000000000) :
    (better t own f p = none → ¬ encC (addO (some own) (cost t f p.2)) < encC (tget f p.1)) ∧ (∀ v, better t own f p = some v → encC (addO (some own) (cost t f p.2)) < encC (tget f p.1) ∧ addO (some own) (cost t f p.2) = some v) := by
  rw [better]
  cases h1 : cost t f p.2 with
  | none =>
    refine ⟨fun _ => ?_, fun v h => (by cases h)⟩
    cases h2 : tget f p.1 with
    | none => simp [addO, encC]
    | some c' =>
      have h3 := hc c' h2
      show ¬ (9223372036854775807 : Int) < (c' : Int)
      omega
  | some c =>
    rw [h1] at hb
    have hd := hb (own + c) rfl
    have e1 : encC (addO (some own) (some c)) = ((own + c : Nat) : Int) := rfl
    cases h2 : tget f p.1 with
    | none =>
      refine ⟨fun h => (by cases h), fun v h => ⟨?_, ?_⟩⟩
      · rw [e1]; show ((own + c : Nat) : Int) < 9223372036854775807; omega
      · rw [← h]; rfl
    | some c' =>
      show ((if own + c < c' then some (own + c) else none) = none → _) ∧ ∀ v, (if own + c < c' then some (own + c) else none) = some v → _
      have e2 : encC (some c') = (c' : Int) := rfl
      rw [e1, e2]
      by_cases hlt : own + c < c'
      · rw [if_pos hlt]
        exact ⟨fun h => (by cases h), fun v h => ⟨by omega, by rw [← h]; rfl⟩⟩
      · rw [if_neg hlt]
        exact ⟨fun _ => (by omega), fun v h => (by cases h)⟩
section
variable (E : Env) (L : List Res)
theorem costs_call (gv : Value) (g : Gr) (hg : GrE E gv g) (hl : Light g) (t : Option Nat) (own : Nat) (hw : Wf g.prods g.names.length) (hs : Small t own) :
    CallS Try.prog 81 #[gv, .int .i64 own, .int .i64 (encC t)] E L (fun r E' L' => ∃ b, r = .slice (some ⟨b, 0, none⟩) g.names.length g.names.length ∧ SlE E' 1 (some ⟨b, 0, none⟩) g.names.length (i64s ((best g.prods g.names.length t own).map encC)) ∧ L' = L) := by
  have hg0 := hg
  obtain ⟨tp, tc, np, nc, pp, pc, rfl, ht, hn, ⟨rows, hrows, hps, hre⟩, k1, k2, k3⟩ := hg
  have hlen : g.prods.length = rows.length := by rw [← hrows]; simp
  have q1 := hl.t; have q2 := hl.n; have q3 := hl.p
  refine CallS.intro (l := [_, _, _]) _ Try.func81 rfl Try.ntmps81 rfl ?_
  refine G_seq (G_region ?_)
  (refine G_boxA rfl rfl rfl rfl (.none rfl) ?_; intro b3)
  (refine G_box1 rfl rfl rfl rfl rfl (.none rfl) ?_; intro b4)
  (refine G_box1 rfl rfl rfl rfl rfl (.none rfl) ?_; intro b5)
  refine G_val (V_assign rfl rfl) rfl rfl (.none rfl) ?_
  refine G_end (X_then (G_scope (G_seq (G_region ?_))))
  refine G_val (V_fieldAddr rfl rfl (by decide)) rfl rfl (.none rfl) ?_
  refine G_val (V_load rfl rfl (Cell.own (.tail _ (.tail _ (.head _))) rfl)) rfl rfl (.none rfl) ?_
  refine G_val (V_lenS rfl rfl) rfl rfl (.none rfl) ?_
  refine G_call (k := 111) (.mk rfl rfl rfl rfl) rfl rfl (.none rfl) (filledL_call _ _ _ _ (by omega)) ?_
  rintro r1 E2 L3 hE4 ⟨z5, ⟨rfl, ⟨rfl, rfl⟩⟩⟩
  replace hg0 := hg0.mono hE4
  replace ht := ht.mono hE4
  replace hn := hn.mono hE4
  replace hps := hps.mono hE4
  (refine G_alloc rfl rfl rfl (.none rfl) ?_; intro b7)
  refine G_store1 rfl rfl rfl rfl rfl rfl (.none rfl) (.head _ _ _) ?_
  refine G_end (X_then (G_seq (G_region ?_)))
  refine G_val (V_makeFunc rfl rfl rfl) rfl rfl (.none rfl) ?_
  refine G_val (V_assign rfl rfl) rfl rfl (.none rfl) ?_
  refine G_end (X_then (G_seq (G_label (X_then (G_block ?_)))))
  refine G_loop (α := Tab) (fun _ => [(3, .pointer (some ⟨b3, 0, none⟩)), (7, .pointer (some ⟨b7, 0, none⟩)), (8, .func (.func 112) #[] #[.pointer (some ⟨b4, 0, none⟩), .pointer (some ⟨b5, 0, none⟩), .pointer (some ⟨b7, 0, none⟩)])]) (fun _ => E)
    (fun f => .blk b7 (.cells #[.slice (some ⟨z5, 0, none⟩) g.names.length g.names.length] 86 (0, 0)) :: .blk z5 (.cells (i64s (f.map encC)).toArray 2 (0, 0)) :: .blk b5 (.cells #[.int .i64 (encC t)] 2 (0, 0)) :: .blk b4 (.cells #[.int .i64 (own : Int)] 2 (0, 0)) :: GB b3 g tp tc np nc pp pc :: L)
    (fun f => Inv g.prods g.names.length t own f) meas (start g.names.length) (inv_start _ _ _ _) ⟨rfl, rfl, rfl, trivial⟩ rfl (by rw [← start_cells]) ?_
  intro f hi
  have hf : ∀ s c, tget f s = some c → c ≤ 1099511627776 := fun s c h => hi.le hw h
  have hfl := hi.len
  refine G_block (G_seq (G_seq (G_region ?_)))
  refine G_val (V_fieldAddr rfl rfl (by decide)) rfl rfl (.none rfl) ?_
  refine G_val (V_load rfl rfl (Cell.own (.tail _ (.tail _ (.tail _ (.tail _ (.head _))))) rfl)) rfl rfl (.none rfl) ?_
  refine G_val (V_lenS rfl rfl) rfl rfl (.none rfl) ?_
  refine G_val (V_move rfl rfl) rfl rfl (.none rfl) ?_
  refine G_end (X_then (G_block ?_))
  refine G_loop (α := Nat) (fun i => [(3, .pointer (some ⟨b3, 0, none⟩)), (7, .pointer (some ⟨b7, 0, none⟩)), (8, .func (.func 112) #[] #[.pointer (some ⟨b4, 0, none⟩), .pointer (some ⟨b5, 0, none⟩), .pointer (some ⟨b7, 0, none⟩)]), (18, .slice pp g.prods.length pc), (19, .int .i64 g.prods.length), (20, .int .i64 i)]) (fun _ => E)
    (fun _ => .blk b7 (.cells #[.slice (some ⟨z5, 0, none⟩) g.names.length g.names.length] 86 (0, 0)) :: .blk z5 (.cells (i64s (f.map encC)).toArray 2 (0, 0)) :: .blk b5 (.cells #[.int .i64 (encC t)] 2 (0, 0)) :: .blk b4 (.cells #[.int .i64 (own : Int)] 2 (0, 0)) :: GB b3 g tp tc np nc pp pc :: L)
    (fun i => i ≤ rows.length ∧ ∀ k, k < i → (hk : k < rows.length) → better t own f rows[k].2.2 = none) (fun i => rows.length - i) 0 ⟨Nat.zero_le _, fun k hk => by cases hk⟩ ⟨rfl, rfl, rfl, rfl, rfl, rfl, trivial⟩ rfl rfl ?_
  rintro i ⟨hile, hall⟩
  by_cases hlt : i < rows.length
  · have hg1 := List.getElem?_eq_getElem hlt
    have hy := prows_get hg1
    have hre1 := hre.get hg1
    have hp : rows[i].2.2 ∈ g.prods := by rw [← hrows]; exact List.mem_map.2 ⟨rows[i], List.getElem_mem hlt, rfl⟩
    have hl1 := hw.left _ hp
    have h8 := hw.right _ hp
    have hsy := hw.syms _ hp
    have hv := tab_at (f := f) hl1.1 (by omega)
    have hbb : ∀ c, addO (some own) (cost t f rows[i].2.2.2) = some c → c ≤ 1000000000000000000 := by
      intro c hc
      obtain ⟨x, y, hx, hy, rfl⟩ := addO_some hc
      have h1 := cost_le (fun k hk => Nat.le_trans (hs.t k hk) (by decide)) hf _ _ hy
      have h3 := Nat.mul_le_mul_right 1099511627776 h8
      have h4 := Option.some.inj hx
      have h5 := hs.own
      omega
    have hbl := better_lt (p := rows[i].2.2) hbb (fun c hc => Nat.le_trans (hf _ c hc) (by decide))
    cases hbt : better t own f rows[i].2.2 with
    | none =>
      have hcond := hbl.1 hbt
      refine G_seq (G_region ?_)
      refine G_val (V_lss rfl rfl rfl) rfl rfl (.none rfl) ?_
      refine G_end (X_then (G_seq ?_))
      refine G_cond_t rfl (decide_eq_true (by omega)) ?_
      refine G_skip (X_then (G_seq (G_block (G_seq (G_region ?_)))))
      refine G_val (V_idxAddr rfl rfl rfl (SlE.rd (by assumption)) (by omega) (by omega)) rfl rfl (.none rfl) ?_
      refine G_val (V_loadAS rfl rfl (SlE.rd (by assumption)) (by assumption) (by simp) (by rfl)) rfl rfl (.none rfl) ?_
      (refine G_alloc rfl rfl rfl (.none rfl) ?_; intro b10)
      refine G_storeA rfl rfl rfl rfl (by simp [Value.oneCell']) rfl (.none rfl) (.head _ _ _) rfl ?_
      refine G_end (X_then (G_seq (G_region ?_)))
      refine G_val (V_fieldAddr rfl rfl (by decide)) rfl rfl (.none rfl) ?_
      refine G_val (V_load rfl rfl (Cell.own (.head _) rfl)) rfl rfl (.none rfl) ?_
      refine G_val (V_sub_i64 rfl rfl rfl (by omega) (by omega)) rfl rfl (.none rfl) ?_
      refine G_val (V_assign rfl rfl) rfl rfl (.none rfl) ?_
      refine G_end (X_then (G_seq ?_))
      refine G_drawX 8 [(0, 0), (1, 1), (3, 1), (4, 0), (5, 1), (6, 1), (2, 3), (7, 0)] mixed (by kernel_rfl) ?_
      refine F_pure rfl (fun _ _ => V_move rfl rfl) rfl rfl (.none rfl) ?_
      refine F_load rfl (.head _) (V_loadA rfl rfl (Cells.own (.head _)) rfl) rfl rfl (.none rfl) ?_
      refine F_load rfl (.tail _ (.head _)) (V_load rfl rfl (Cell.own1 (.head _))) rfl rfl (.none rfl) ?_
      refine F_pure rfl (fun _ _ => V_move rfl rfl) rfl rfl (.none rfl) ?_
      refine F_loadE rfl (V_idxB1 rfl rfl rfl (by omega) (by omega)) rfl rfl (.none rfl) ?_
      refine F_load rfl (.tail _ (.tail _ (.head _))) (V_load rfl rfl (Cell.own (.head _) (by assumption))) rfl rfl (.none rfl) ?_
      refine F_callvM (k := 112) rfl (.mk rfl rfl rfl rfl) rfl rfl (.none rfl) (fun M => cost_call _ _ _ _ _ _ _ _ _ _ _ _ _ _ (by exact List.mem_append_right _ (by first | assumption | exact .head _ | exact .tail _ (.head _) | exact .tail _ (.tail _ (.head _)) | exact .tail _ (.tail _ (.tail _ (.head _))) | exact .tail _ (.tail _ (.tail _ (.tail _ (.head _)))) | exact .tail _ (.tail _ (.tail _ (.tail _ (.tail _ (.head _))))))) (by exact List.mem_append_right _ (by first | assumption | exact .head _ | exact .tail _ (.head _) | exact .tail _ (.tail _ (.head _)) | exact .tail _ (.tail _ (.tail _ (.head _))) | exact .tail _ (.tail _ (.tail _ (.tail _ (.head _)))) | exact .tail _ (.tail _ (.tail _ (.tail _ (.tail _ (.head _))))))) (by exact List.mem_append_right _ (by first | assumption | exact .head _ | exact .tail _ (.head _) | exact .tail _ (.tail _ (.head _)) | exact .tail _ (.tail _ (.tail _ (.head _))) | exact .tail _ (.tail _ (.tail _ (.tail _ (.head _)))) | exact .tail _ (.tail _ (.tail _ (.tail _ (.tail _ (.head _))))))) (by exact List.mem_append_right _ (by first | assumption | exact .head _ | exact .tail _ (.head _) | exact .tail _ (.tail _ (.head _)) | exact .tail _ (.tail _ (.tail _ (.head _))) | exact .tail _ (.tail _ (.tail _ (.tail _ (.head _)))) | exact .tail _ (.tail _ (.tail _ (.tail _ (.tail _ (.head _))))))) (by assumption) (by assumption) (by assumption) (by assumption) (by assumption) (by assumption) (by assumption)) ?_
      refine F_pure rfl (fun _ _ => V_lss rfl rfl rfl) rfl rfl (.none rfl) ?_
      (refine F_end (.nil _) ?_; dsimp only [List.drop])
      refine G_end (X_then ?_)
      refine G_cond_f rfl (decide_eq_false (by omega)) ?_
      refine G_skip (X_block (X_then (G_region ?_)))
      refine G_val (V_add_i64 rfl rfl rfl (by omega) (by omega)) rfl rfl (.none rfl) ?_
      refine G_val (V_move rfl rfl) rfl rfl (.none rfl) ?_
      refine G_end (X_then ?_)
      refine G.drop ?_
      refine G_again (i + 1) ⟨hlt, ?_⟩ (by omega) ⟨rfl, rfl, rfl, rfl, rfl, rfl, trivial⟩ rfl rfl
      intro k hk hk2
      by_cases he : k = i
      · subst he; exact hbt
      · exact hall k (by omega) hk2
    | some v =>
      obtain ⟨hcond, hval⟩ := hbl.2 v hbt
      have hset : (i64s (f.map encC)).set (rows[i].2.2.1 - 16).toNat (.int .i64 (encC (addO (some own) (cost t f rows[i].2.2.2)))) = i64s ((upd f rows[i].2.2 v).map encC) := by rw [hval]; exact tab_set f _ v
      have hlen2 : (i64s (f.map encC)).length = g.names.length := by simp [i64s, hfl]
      obtain ⟨hi1, hi2, hi3⟩ := hi.upd hw hs hp hbt
      refine G_seq (G_region ?_)
      refine G_val (V_lss rfl rfl rfl) rfl rfl (.none rfl) ?_
      refine G_end (X_then (G_seq ?_))
      refine G_cond_t rfl (decide_eq_true (by omega)) ?_
      refine G_skip (X_then (G_seq (G_block (G_seq (G_region ?_)))))
      refine G_val (V_idxAddr rfl rfl rfl (SlE.rd (by assumption)) (by omega) (by omega)) rfl rfl (.none rfl) ?_
      refine G_val (V_loadAS rfl rfl (SlE.rd (by assumption)) (by assumption) (by simp) (by rfl)) rfl rfl (.none rfl) ?_
      (refine G_alloc rfl rfl rfl (.none rfl) ?_; intro b10)
      refine G_storeA rfl rfl rfl rfl (by simp [Value.oneCell']) rfl (.none rfl) (.head _ _ _) rfl ?_
      refine G_end (X_then (G_seq (G_region ?_)))
      refine G_val (V_fieldAddr rfl rfl (by decide)) rfl rfl (.none rfl) ?_
      refine G_val (V_load rfl rfl (Cell.own (.head _) rfl)) rfl rfl (.none rfl) ?_
      refine G_val (V_sub_i64 rfl rfl rfl (by omega) (by omega)) rfl rfl (.none rfl) ?_
      refine G_val (V_assign rfl rfl) rfl rfl (.none rfl) ?_
      refine G_end (X_then (G_seq ?_))
      refine G_drawX 8 [(0, 0), (1, 1), (3, 1), (4, 0), (5, 1), (6, 1), (2, 3), (7, 0)] mixed (by kernel_rfl) ?_
      refine F_pure rfl (fun _ _ => V_move rfl rfl) rfl rfl (.none rfl) ?_
      refine F_load rfl (.head _) (V_loadA rfl rfl (Cells.own (.head _)) rfl) rfl rfl (.none rfl) ?_
      refine F_load rfl (.tail _ (.head _)) (V_load rfl rfl (Cell.own1 (.head _))) rfl rfl (.none rfl) ?_
      refine F_pure rfl (fun _ _ => V_move rfl rfl) rfl rfl (.none rfl) ?_
      refine F_loadE rfl (V_idxB1 rfl rfl rfl (by omega) (by omega)) rfl rfl (.none rfl) ?_
      refine F_load rfl (.tail _ (.tail _ (.head _))) (V_load rfl rfl (Cell.own (.head _) (by assumption))) rfl rfl (.none rfl) ?_
      refine F_callvM (k := 112) rfl (.mk rfl rfl rfl rfl) rfl rfl (.none rfl) (fun M => cost_call _ _ _ _ _ _ _ _ _ _ _ _ _ _ (by exact List.mem_append_right _ (by first | assumption | exact .head _ | exact .tail _ (.head _) | exact .tail _ (.tail _ (.head _)) | exact .tail _ (.tail _ (.tail _ (.head _))) | exact .tail _ (.tail _ (.tail _ (.tail _ (.head _)))) | exact .tail _ (.tail _ (.tail _ (.tail _ (.tail _ (.head _))))))) (by exact List.mem_append_right _ (by first | assumption | exact .head _ | exact .tail _ (.head _) | exact .tail _ (.tail _ (.head _)) | exact .tail _ (.tail _ (.tail _ (.head _))) | exact .tail _ (.tail _ (.tail _ (.tail _ (.head _)))) | exact .tail _ (.tail _ (.tail _ (.tail _ (.tail _ (.head _))))))) (by exact List.mem_append_right _ (by first | assumption | exact .head _ | exact .tail _ (.head _) | exact .tail _ (.tail _ (.head _)) | exact .tail _ (.tail _ (.tail _ (.head _))) | exact .tail _ (.tail _ (.tail _ (.tail _ (.head _)))) | exact .tail _ (.tail _ (.tail _ (.tail _ (.tail _ (.head _))))))) (by exact List.mem_append_right _ (by first | assumption | exact .head _ | exact .tail _ (.head _) | exact .tail _ (.tail _ (.head _)) | exact .tail _ (.tail _ (.tail _ (.head _))) | exact .tail _ (.tail _ (.tail _ (.tail _ (.head _)))) | exact .tail _ (.tail _ (.tail _ (.tail _ (.tail _ (.head _))))))) (by assumption) (by assumption) (by assumption) (by assumption) (by assumption) (by assumption) (by assumption)) ?_
      refine F_pure rfl (fun _ _ => V_lss rfl rfl rfl) rfl rfl (.none rfl) ?_
      (refine F_end (.nil _) ?_; dsimp only [List.drop])
      refine G_end (X_then ?_)
      refine G_cond_t rfl (decide_eq_true (by omega)) ?_
      refine G_seq ?_
      refine G_drawX 6 [(0, 1), (1, 0), (2, 0), (3, 1), (4, 3), (5, 1)] mixed (by kernel_rfl) ?_
      refine F_load rfl (.tail _ (.head _)) (V_load rfl rfl (Cell.own1 (.head _))) rfl rfl (.none rfl) ?_
      refine F_pure rfl (fun _ _ => V_move rfl rfl) rfl rfl (.none rfl) ?_
      refine F_pure rfl (fun _ _ => V_move rfl rfl) rfl rfl (.none rfl) ?_
      refine F_load rfl (.head _) (V_loadA rfl rfl (Cells.own (.head _)) rfl) rfl rfl (.none rfl) ?_
      refine F_callvM (k := 112) rfl (.mk rfl rfl rfl rfl) rfl rfl (.none rfl) (fun M => cost_call _ _ _ _ _ _ _ _ _ _ _ _ _ _ (by exact List.mem_append_right _ (by first | assumption | exact .head _ | exact .tail _ (.head _) | exact .tail _ (.tail _ (.head _)) | exact .tail _ (.tail _ (.tail _ (.head _))) | exact .tail _ (.tail _ (.tail _ (.tail _ (.head _)))) | exact .tail _ (.tail _ (.tail _ (.tail _ (.tail _ (.head _))))))) (by exact List.mem_append_right _ (by first | assumption | exact .head _ | exact .tail _ (.head _) | exact .tail _ (.tail _ (.head _)) | exact .tail _ (.tail _ (.tail _ (.head _))) | exact .tail _ (.tail _ (.tail _ (.tail _ (.head _)))) | exact .tail _ (.tail _ (.tail _ (.tail _ (.tail _ (.head _))))))) (by exact List.mem_append_right _ (by first | assumption | exact .head _ | exact .tail _ (.head _) | exact .tail _ (.tail _ (.head _)) | exact .tail _ (.tail _ (.tail _ (.head _))) | exact .tail _ (.tail _ (.tail _ (.tail _ (.head _)))) | exact .tail _ (.tail _ (.tail _ (.tail _ (.tail _ (.head _))))))) (by exact List.mem_append_right _ (by first | assumption | exact .head _ | exact .tail _ (.head _) | exact .tail _ (.tail _ (.head _)) | exact .tail _ (.tail _ (.tail _ (.head _))) | exact .tail _ (.tail _ (.tail _ (.tail _ (.head _)))) | exact .tail _ (.tail _ (.tail _ (.tail _ (.tail _ (.head _))))))) (by assumption) (by assumption) (by assumption) (by assumption) (by assumption) (by assumption) (by assumption)) ?_
      refine F_loadE rfl (V_idxB1 rfl rfl rfl (by omega) (by omega)) rfl rfl (.none rfl) ?_
      (refine F_end (.nil _) ?_; dsimp only [List.drop])
      refine G_storeB rfl rfl rfl rfl rfl rfl (.none rfl) (.tail _ (.tail _ (.head _ _ _))) (by omega) ?_
      refine G_end (X_then (G_exit ?_))
      refine X_block_miss rfl ?_
      refine X_then_exit (X_then_exit ?_)
      refine X_block_miss rfl ?_
      refine X_then_exit (X_block_hit (X_then ?_))
      rw [hset]
      refine G.drop ?_
      exact G_again (upd f rows[i].2.2 v) hi1 hi2 ⟨rfl, rfl, rfl, trivial⟩ rfl rfl
  · have he : f = best g.prods g.names.length t own := by
      refine best_eq hw hs ⟨hfl, better_stable.2 fun p hp => ?_, hi.sound⟩
      rw [← hrows] at hp
      obtain ⟨x, hx, rfl⟩ := List.mem_map.1 hp
      obtain ⟨k, hk, rfl⟩ := List.getElem_of_mem hx
      exact hall k (by omega) hk
    refine G.freezeB (.tail _ (.head _ _)) (k := g.names.length) (sz := 1) (by simp [i64s, hfl]) ?_
    intro E1 hE1 hs1
    rw [he] at hs1
    refine G_seq (G_region ?_)
    refine G_val (V_lss rfl rfl rfl) rfl rfl (.none rfl) ?_
    refine G_end (X_then (G_seq ?_))
    refine G_cond_f rfl (decide_eq_false (by omega)) ?_
    refine G_exit (X_then_exit (X_then_exit (X_block_hit (X_then (G_seq (G_region ?_))))))
    refine G_val (V_load rfl rfl (Cell.own1 (.head _))) rfl rfl (.none rfl) ?_
    refine G_val (V_assign rfl rfl) rfl rfl (.none rfl) ?_
    refine G_end (X_then (G_ret (X_block_ret (X_then_ret (X_block_ret ?_)))))
    refine X_ng_ret ?_
    refine G_leaveS (.drop _ (.drop _ (.drop _ (.drop _ (.nil _))))) (by exact (.cons (.tmp rfl) (.nil))) rfl ?_ ?_
    · exact hE1
    exact ⟨_, ⟨rfl, ⟨(by assumption), rfl⟩⟩⟩
    
end
end Go.Proofs.Ytaoinojdijbhaaa
set_option linter.unusedSimpArgs false
set_option linter.unusedVariables false
set_option maxHeartbeats 2000000
set_option maxRecDepth 20000
namespace Go.Proofs.Ytaoinojdijbhaaa
open Go.RowKit
/-! Numbers that are marked in a map. -/
def yesI (l : List Int) : List (Int × Value) := l.map fun s => (s, .bool true)
theorem yesI_get (l : List Int) (s : Int) : mget (yesI l) s = if s ∈ l then some (.bool true) else none := by
  induction l with
  | nil => rfl
  | cons a l ih =>
    simp only [yesI, List.map_cons, mget, List.mem_cons] at ih ⊢
    by_cases h : s = a
    · simp [h]
    · rw [if_neg h, ih]; simp [h]
theorem yesI_getD (l : List Int) (s : Int) : (mget (yesI l) s).getD (.bool false) = .bool (decide (s ∈ l)) := by
  rw [yesI_get]
  by_cases h : s ∈ l <;> simp [h]
theorem yesI_put (l : List Int) (s : Int) (h : s ∉ l) : mput (yesI l) s (.bool true) = yesI (l ++ [s]) := by
  induction l with
  | nil => rfl
  | cons a l ih =>
    simp only [List.mem_cons, not_or] at h
    have := ih h.2
    simp only [yesI, List.map_cons, List.cons_append, mput, if_neg h.1] at this ⊢
    rw [this]
theorem yesI_len (l : List Int) : (yesI l).length = l.length := List.length_map _
theorem yesI_at {l : List Int} {i : Nat} {p : Int × Value} (h : (yesI l)[i]? = some p) : ∃ s, l[i]? = some s ∧ p = (s, .bool true) := by
  rw [yesI, List.getElem?_map] at h
  obtain ⟨s, h1, h2⟩ := Option.map_eq_some_iff.1 h
  exact ⟨s, h1, h2.symm⟩
def marks (n : Nat) (ks : List Int) : List Bool := (List.range n).map fun i => decide ((16 : Int) + (i : Nat) ∈ ks)
theorem marks_len (n : Nat) (ks : List Int) : (marks n ks).length = n := by simp [marks]
theorem marks_get {n : Nat} {ks : List Int} {s : Int} (h1 : 16 ≤ s) (h2 : s < 16 + n) : bget (marks n ks) s = decide (s ∈ ks) := by
  have h : (s - 16).toNat < n := by omega
  have e : (16 : Int) + ((s - 16).toNat : Nat) = s := by omega
  have e2 : (marks n ks)[(s - 16).toNat]? = some (decide (s ∈ ks)) := by rw [marks, List.getElem?_map, List.getElem?_range h, Option.map_some, e]
  rw [bget, e2]; rfl
theorem marks_put {n : Nat} {ks : List Int} {s : Int} (h1 : 16 ≤ s) : marks n (ks ++ [s]) = (marks n ks).set (s - 16).toNat true := by
  apply List.ext_getElem
  · simp [marks]
  · intro i h3 h4
    rw [List.getElem_set]
    simp only [marks, List.getElem_map, List.getElem_range, List.mem_append, List.mem_singleton]
    by_cases he : (s - 16).toNat = i
    · rw [if_pos he]
      exact decide_eq_true (.inr (by omega))
    · rw [if_neg he]
      have : ¬ (16 : Int) + (i : Nat) = s := by omega
      simp [this]
theorem marks_nil (n : Nat) : marks n [] = startB n := by
  apply List.ext_getElem
  · simp [marks, startB]
  · intro i h1 h2; simp [marks, startB]
theorem marks_congr {n : Nat} {a b : List Int} (h : ∀ s, s ∈ a ↔ s ∈ b) : marks n a = marks n b := by
  simp [marks, h]
theorem bools_set (l : List Bool) (i : Nat) (b : Bool) : (bools l).set i (.bool b) = bools (l.set i b) := by simp [bools, List.map_set]
theorem unseen_lt {l seen : List Nat} {i : Nat} (hi : i ∈ l) (hs : i ∉ seen) : (l.filter fun j => decide (j ∉ seen ++ [i])).length < (l.filter fun j => decide (j ∉ seen)).length := by
  have le : ∀ l : List Nat, (l.filter fun j => decide (j ∉ seen ++ [i])).length ≤ (l.filter fun j => decide (j ∉ seen)).length := by
    intro l
    induction l with
    | nil => exact Nat.le_refl _
    | cons x l ih =>
      simp only [List.filter_cons, List.mem_append, List.mem_singleton, not_or] at ih ⊢
      by_cases h2 : x = i
      · subst h2
        by_cases h1 : x ∈ seen <;> simp [h1] at ih ⊢ <;> omega
      · by_cases h1 : x ∈ seen <;> simp [h1, h2] at ih ⊢ <;> omega
  induction l with
  | nil => cases hi
  | cons x l ih =>
    have hle := le l
    simp only [List.filter_cons, List.mem_append, List.mem_singleton, not_or] at ih hle ⊢
    by_cases h2 : x = i
    · subst h2
      simp [hs] at hle ⊢
      omega
    · have hi' : i ∈ l := by
        rcases List.mem_cons.1 hi with h | h
        · exact absurd h.symm h2
        · exact h
      have := ih hi'
      by_cases h1 : x ∈ seen <;> simp [h1, h2] at this ⊢ <;> omega
section
variable (E : Env) (L : List Res)
theorem reached_call (gv : Value) (g : Gr) (hg : GrE E gv g) (hl : Light g) (a : Int) (hw : Wf g.prods g.names.length) (ha : 16 ≤ a) (ha2 : a < 16 + g.names.length) :
    CallS Try.prog 83 #[gv, .int .i64 a] E L (fun r E' L' => ∃ b, r = .slice (some ⟨b, 0, none⟩) g.names.length g.names.length ∧ SlE E' 1 (some ⟨b, 0, none⟩) g.names.length (bools (reachL g.prods g.names.length a)) ∧ L' = L) := by
  have hg0 := hg
  obtain ⟨tp, tc, np, nc, pp, pc, rfl, ht, hn, ⟨rows, hrows, hps, hre⟩, k1, k2, k3⟩ := hg
  have hlen : g.prods.length = rows.length := by rw [← hrows]; simp
  have q1 := hl.t; have q2 := hl.n; have q3 := hl.p
  refine CallS.intro (l := [_, _]) _ Try.func83 rfl Try.ntmps83 rfl ?_
  refine G_seq (G_region ?_)
  (refine G_boxA rfl rfl rfl rfl (.none rfl) ?_; intro b2)
  refine G_val (V_assign rfl rfl) rfl rfl (.none rfl) ?_
  refine G_end (X_then (G_scope (G_seq (G_region ?_))))
  (refine G_makeMap kI rfl rfl rfl (.none rfl) ?_; intro b12)
  refine G_val (V_move rfl rfl) rfl rfl (.none rfl) ?_
  refine G_mapUpdate kI _ (.inr rfl) rfl rfl rfl rfl (.none rfl) (.head _ _ _) ?_
  refine G_val (V_move rfl rfl) rfl rfl (.none rfl) ?_
  refine G_val (V_assign rfl rfl) rfl rfl (.none rfl) ?_
  refine G_end (X_then (G_seq (G_label (X_then (G_seq (G_block ?_))))))
  refine G_loop (α := List Int) (fun _ => [(2, .pointer (some ⟨b2, 0, none⟩)), (5, .map (some b12))]) (fun _ => E) (fun ks => .blk b12 (mobj kI (yesI ks)) :: GB b2 g tp tc np nc pp pc :: L)
    (fun ks => InvR g.prods g.names.length a (marks g.names.length ks) ∧ a ∈ ks ∧ ∀ s, s ∈ ks → 16 ≤ s ∧ s < 16 + (g.names.length : Int)) (fun ks => meas (tab (marks g.names.length ks))) [a]
    ⟨by rw [← List.nil_append [a], marks_put ha, marks_nil]; exact invR_start hw ha ha2, .head _, fun s hs => by rw [List.mem_singleton.1 hs]; exact ⟨ha, ha2⟩⟩ ⟨rfl, rfl, trivial⟩ rfl rfl ?_
  rintro ks ⟨hi, hak, hks⟩
  refine G_block (G_seq (G_seq (G_region ?_)))
  refine G_val (V_fieldAddr rfl rfl (by decide)) rfl rfl (.none rfl) ?_
  refine G_val (V_load rfl rfl (Cell.own (.tail _ (.head _)) rfl)) rfl rfl (.none rfl) ?_
  refine G_val (V_lenS rfl rfl) rfl rfl (.none rfl) ?_
  refine G_val (V_move rfl rfl) rfl rfl (.none rfl) ?_
  refine G_end (X_then (G_block ?_))
  refine G_loop (α := Nat) (fun i => [(2, .pointer (some ⟨b2, 0, none⟩)), (5, .map (some b12)), (16, .slice pp g.prods.length pc), (17, .int .i64 g.prods.length), (18, .int .i64 i)]) (fun _ => E) (fun _ => .blk b12 (mobj kI (yesI ks)) :: GB b2 g tp tc np nc pp pc :: L)
    (fun i => i ≤ rows.length ∧ ∀ k, k < i → (hk : k < rows.length) → rows[k].2.2.1 ∈ ks → ∀ s, s ∈ rows[k].2.2.2 → 16 ≤ s → s ∈ ks) (fun i => rows.length - i) 0 ⟨Nat.zero_le _, fun k hk => by cases hk⟩ ⟨rfl, rfl, rfl, rfl, rfl, trivial⟩ rfl rfl ?_
  rintro i ⟨hile, hall⟩
  by_cases hlt : i < rows.length
  · have hg1 := List.getElem?_eq_getElem hlt
    have hy := prows_get hg1
    have hre1 := hre.get hg1
    have hp : rows[i].2.2 ∈ g.prods := by rw [← hrows]; exact List.mem_map.2 ⟨rows[i], List.getElem_mem hlt, rfl⟩
    have hl1 := hw.left _ hp
    have h8 := hw.right _ hp
    have hsy := hw.syms _ hp
    refine G_seq (G_region ?_)
    refine G_val (V_lss rfl rfl rfl) rfl rfl (.none rfl) ?_
    refine G_end (X_then (G_seq ?_))
    refine G_cond_t rfl (decide_eq_true (by omega)) ?_
    refine G_skip (X_then (G_seq (G_block (G_seq (G_region ?_)))))
    refine G_val (V_idxAddr rfl rfl rfl (SlE.rd (by assumption)) (by omega) (by omega)) rfl rfl (.none rfl) ?_
    refine G_val (V_loadAS rfl rfl (SlE.rd (by assumption)) (by assumption) (by simp) (by rfl)) rfl rfl (.none rfl) ?_
    (refine G_alloc rfl rfl rfl (.none rfl) ?_; intro b7)
    refine G_storeA rfl rfl rfl rfl (by simp [Value.oneCell']) rfl (.none rfl) (.head _ _ _) rfl ?_
    refine G_end (X_then (G_seq (G_region ?_)))
    refine G_val (V_fieldAddr rfl rfl (by decide)) rfl rfl (.none rfl) ?_
    refine G_val (V_load rfl rfl (Cell.own (.head _) rfl)) rfl rfl (.none rfl) ?_
    refine G_val (V_lenS rfl rfl) rfl rfl (.none rfl) ?_
    refine G_val (V_move rfl rfl) rfl rfl (.none rfl) ?_
    refine G_end (X_then (G_block ?_))
    refine G_loop (α := Nat) (fun j => [(2, .pointer (some ⟨b2, 0, none⟩)), (5, .map (some b12)), (7, .pointer (some ⟨b7, 0, none⟩)), (16, .slice pp g.prods.length pc), (17, .int .i64 g.prods.length), (18, .int .i64 i), (23, .slice rows[i].1 rows[i].2.2.2.length rows[i].2.1), (24, .int .i64 rows[i].2.2.2.length), (25, .int .i64 j)]) (fun _ => E)
      (fun _ => .blk b7 (.cells #[.int .i64 rows[i].2.2.1, .slice rows[i].1 rows[i].2.2.2.length rows[i].2.1] 62 (0, 0)) :: .blk b12 (mobj kI (yesI ks)) :: GB b2 g tp tc np nc pp pc :: L)
      (fun j => j ≤ rows[i].2.2.2.length ∧ ∀ k, k < j → (hk : k < rows[i].2.2.2.length) → rows[i].2.2.1 ∈ ks → 16 ≤ rows[i].2.2.2[k] → rows[i].2.2.2[k] ∈ ks) (fun j => rows[i].2.2.2.length - j) 0 ⟨Nat.zero_le _, fun k hk => by cases hk⟩ ⟨rfl, rfl, rfl, rfl, rfl, rfl, rfl, rfl, rfl, trivial⟩ rfl rfl ?_
    rintro j ⟨hjle, hjall⟩
    by_cases hjlt : j < rows[i].2.2.2.length
    · have hx := i64s_at hjlt
      have again : (rows[i].2.2.1 ∈ ks → 16 ≤ rows[i].2.2.2[j] → rows[i].2.2.2[j] ∈ ks) → ∀ k, k < j + 1 → (hk : k < rows[i].2.2.2.length) → rows[i].2.2.1 ∈ ks → 16 ≤ rows[i].2.2.2[k] → rows[i].2.2.2[k] ∈ ks := by
        intro h k hk hk2
        by_cases he : k = j
        · subst he; exact h
        · exact hjall k (by omega) hk2
      cases hb : decide (rows[i].2.2.1 ∈ ks) with
      | false =>
        refine G_seq (G_region ?_)
        refine G_val (V_lss rfl rfl rfl) rfl rfl (.none rfl) ?_
        refine G_end (X_then (G_seq ?_))
        refine G_cond_t rfl (decide_eq_true (by omega)) ?_
        refine G_skip (X_then (G_seq (G_block (G_seq (G_region ?_)))))
        refine G_val (V_idxAddr rfl rfl rfl (SlE.rd (by assumption)) (by omega) (by omega)) rfl rfl (.none rfl) ?_
        refine G_val (V_loadS rfl rfl (SlE.rd (by assumption)) (by assumption) (by simp)) rfl rfl (.none rfl) ?_
        refine G_val (V_assign rfl rfl) rfl rfl (.none rfl) ?_
        refine G_end (X_then (G_seq (G_region ?_)))
        refine G_val (V_move rfl rfl) rfl rfl (.none rfl) ?_
        refine G_val (V_fieldAddr rfl rfl (by decide)) rfl rfl (.none rfl) ?_
        refine G_val (V_load rfl rfl (Cell.own (.head _) rfl)) rfl rfl (.none rfl) ?_
        refine G_val (V_lookup kI _ rfl rfl rfl (.tail _ (.head _))) rfl rfl (.none rfl) ?_
        refine G_val (V_move rfl rfl) rfl rfl (.none rfl) ?_
        rw [yesI_getD]
        refine G.bool_f 33 rfl (by assumption) ?_
        refine G_stay (.no rfl rfl rfl rfl) rfl rfl ?_
        refine G_stay (.no rfl rfl rfl rfl) rfl rfl ?_
        refine G_val (V_pick_f rfl rfl rfl) rfl rfl (.none rfl) ?_
        refine G_val (V_move rfl rfl) rfl rfl (.none rfl) ?_
        refine G_stay (.no rfl rfl rfl rfl) rfl rfl ?_
        refine G_stay (.no rfl rfl rfl rfl) rfl rfl ?_
        refine G_stay (.no rfl rfl rfl rfl) rfl rfl ?_
        refine G_stay (.no rfl rfl rfl rfl) rfl rfl ?_
        refine G_val (V_pick_f rfl rfl rfl) rfl rfl (.none rfl) ?_
        refine G_end (X_then ?_)
        refine G_cond_f rfl rfl ?_
        refine G_skip (X_block (X_then (G_region ?_)))
        refine G_val (V_add_i64 rfl rfl rfl (by omega) (by omega)) rfl rfl (.none rfl) ?_
        refine G_val (V_move rfl rfl) rfl rfl (.none rfl) ?_
        refine G_end (X_then ?_)
        exact G_again (j + 1) ⟨hjlt, again fun h => absurd h (of_decide_eq_false hb)⟩ (by omega) ⟨rfl, rfl, rfl, rfl, rfl, rfl, rfl, rfl, rfl, trivial⟩ rfl rfl
      | true =>
        by_cases h16 : 16 ≤ rows[i].2.2.2[j]
        · cases hc : decide (rows[i].2.2.2[j] ∈ ks) with
          | true =>
            refine G_seq (G_region ?_)
            refine G_val (V_lss rfl rfl rfl) rfl rfl (.none rfl) ?_
            refine G_end (X_then (G_seq ?_))
            refine G_cond_t rfl (decide_eq_true (by omega)) ?_
            refine G_skip (X_then (G_seq (G_block (G_seq (G_region ?_)))))
            refine G_val (V_idxAddr rfl rfl rfl (SlE.rd (by assumption)) (by omega) (by omega)) rfl rfl (.none rfl) ?_
            refine G_val (V_loadS rfl rfl (SlE.rd (by assumption)) (by assumption) (by simp)) rfl rfl (.none rfl) ?_
            refine G_val (V_assign rfl rfl) rfl rfl (.none rfl) ?_
            refine G_end (X_then (G_seq (G_region ?_)))
            refine G_val (V_move rfl rfl) rfl rfl (.none rfl) ?_
            refine G_val (V_fieldAddr rfl rfl (by decide)) rfl rfl (.none rfl) ?_
            refine G_val (V_load rfl rfl (Cell.own (.head _) rfl)) rfl rfl (.none rfl) ?_
            refine G_val (V_lookup kI _ rfl rfl rfl (.tail _ (.head _))) rfl rfl (.none rfl) ?_
            refine G_val (V_move rfl rfl) rfl rfl (.none rfl) ?_
            rw [yesI_getD]
            refine G.bool_t 33 rfl (by assumption) ?_
            refine G_val (V_move rfl rfl) rfl rfl (.yes rfl rfl rfl rfl) ?_
            refine G_val (V_geq rfl rfl rfl) rfl rfl (.yes rfl rfl rfl rfl) ?_
            refine G_val (V_pick_t rfl rfl rfl) rfl rfl (.none rfl) ?_
            refine G_val (V_move rfl rfl) rfl rfl (.none rfl) ?_
            refine G.bool_t 37 rfl (decide_eq_true (by omega)) ?_
            refine G_val (V_move rfl rfl) rfl rfl (.yes rfl rfl rfl rfl) ?_
            refine G_val (V_move rfl rfl) rfl rfl (.yes rfl rfl rfl rfl) ?_
            refine G_val (V_lookup kI _ rfl rfl rfl (.tail _ (.head _))) rfl rfl (.yes rfl rfl rfl rfl) ?_
            rw [yesI_getD]
            refine G_val (V_not rfl rfl) rfl rfl (.yes rfl rfl rfl rfl) ?_
            refine G_val (V_pick_t rfl rfl rfl) rfl rfl (.none rfl) ?_
            refine G_end (X_then ?_)
            refine G_cond_f rfl (by simp [*]; done) ?_
            refine G_skip (X_block (X_then (G_region ?_)))
            refine G_val (V_add_i64 rfl rfl rfl (by omega) (by omega)) rfl rfl (.none rfl) ?_
            refine G_val (V_move rfl rfl) rfl rfl (.none rfl) ?_
            refine G_end (X_then ?_)
            exact G_again (j + 1) ⟨hjlt, again fun _ _ => of_decide_eq_true hc⟩ (by omega) ⟨rfl, rfl, rfl, rfl, rfl, rfl, rfl, rfl, rfl, trivial⟩ rfl rfl
          | false =>
            refine G_seq (G_region ?_)
            refine G_val (V_lss rfl rfl rfl) rfl rfl (.none rfl) ?_
            refine G_end (X_then (G_seq ?_))
            refine G_cond_t rfl (decide_eq_true (by omega)) ?_
            refine G_skip (X_then (G_seq (G_block (G_seq (G_region ?_)))))
            refine G_val (V_idxAddr rfl rfl rfl (SlE.rd (by assumption)) (by omega) (by omega)) rfl rfl (.none rfl) ?_
            refine G_val (V_loadS rfl rfl (SlE.rd (by assumption)) (by assumption) (by simp)) rfl rfl (.none rfl) ?_
            refine G_val (V_assign rfl rfl) rfl rfl (.none rfl) ?_
            refine G_end (X_then (G_seq (G_region ?_)))
            refine G_val (V_move rfl rfl) rfl rfl (.none rfl) ?_
            refine G_val (V_fieldAddr rfl rfl (by decide)) rfl rfl (.none rfl) ?_
            refine G_val (V_load rfl rfl (Cell.own (.head _) rfl)) rfl rfl (.none rfl) ?_
            refine G_val (V_lookup kI _ rfl rfl rfl (.tail _ (.head _))) rfl rfl (.none rfl) ?_
            refine G_val (V_move rfl rfl) rfl rfl (.none rfl) ?_
            rw [yesI_getD]
            refine G.bool_t 33 rfl (by assumption) ?_
            refine G_val (V_move rfl rfl) rfl rfl (.yes rfl rfl rfl rfl) ?_
            refine G_val (V_geq rfl rfl rfl) rfl rfl (.yes rfl rfl rfl rfl) ?_
            refine G_val (V_pick_t rfl rfl rfl) rfl rfl (.none rfl) ?_
            refine G_val (V_move rfl rfl) rfl rfl (.none rfl) ?_
            refine G.bool_t 37 rfl (decide_eq_true (by omega)) ?_
            refine G_val (V_move rfl rfl) rfl rfl (.yes rfl rfl rfl rfl) ?_
            refine G_val (V_move rfl rfl) rfl rfl (.yes rfl rfl rfl rfl) ?_
            refine G_val (V_lookup kI _ rfl rfl rfl (.tail _ (.head _))) rfl rfl (.yes rfl rfl rfl rfl) ?_
            rw [yesI_getD]
            refine G_val (V_not rfl rfl) rfl rfl (.yes rfl rfl rfl rfl) ?_
            refine G_val (V_pick_t rfl rfl rfl) rfl rfl (.none rfl) ?_
            refine G_end (X_then ?_)
            refine G_cond_t rfl (by simp [*]; done) ?_
            refine G_seq (G_region ?_)
            refine G_val (V_move rfl rfl) rfl rfl (.none rfl) ?_
            refine G_val (V_move rfl rfl) rfl rfl (.none rfl) ?_
            refine G_mapUpdate kI _ (.inl rfl) rfl rfl rfl rfl (.none rfl) (.tail _ (.head _ _ _)) ?_
            refine G_end (X_then (G_exit ?_))
            refine X_block_miss rfl ?_
            refine X_then_exit (X_then_exit ?_)
            refine X_block_miss rfl ?_
            refine X_block_miss rfl ?_
            refine X_then_exit (X_then_exit ?_)
            refine X_block_miss rfl ?_
            refine X_then_exit (X_block_hit (X_then ?_))
            have hsy2 := hsy _ (List.getElem_mem hjlt)
            have hu := hi.upd hw ha ha2 hp (List.getElem_mem hjlt) h16 (by rw [marks_get hl1.1 hl1.2]; exact hb) (by rw [marks_get h16 hsy2]; exact hc)
            rw [← marks_put h16] at hu
            rw [yesI_put _ _ (of_decide_eq_false hc)]
            refine G.drop ?_
            refine G_again (ks ++ [rows[i].2.2.2[j]]) ⟨hu.1, List.mem_append_left _ hak, ?_⟩ hu.2 ⟨rfl, rfl, trivial⟩ rfl rfl
            intro s hs
            rcases List.mem_append.1 hs with hs | hs
            · exact hks s hs
            · rw [List.mem_singleton.1 hs]; exact ⟨h16, hsy2⟩
        · refine G_seq ?_
          refine G_region ?_
          refine G_val (V_lss rfl rfl rfl) rfl rfl (.none rfl) ?_
          refine G_end (X_then (G_seq ?_))
          refine G_cond_t rfl (decide_eq_true (by omega)) ?_
          refine G_skip (X_then (G_seq (G_block (G_seq (G_region ?_)))))
          refine G_val (V_idxAddr rfl rfl rfl (SlE.rd (by assumption)) (by omega) (by omega)) rfl rfl (.none rfl) ?_
          refine G_val (V_loadS rfl rfl (SlE.rd (by assumption)) (by assumption) (by simp)) rfl rfl (.none rfl) ?_
          refine G_val (V_assign rfl rfl) rfl rfl (.none rfl) ?_
          refine G_end (X_then (G_seq (G_region ?_)))
          refine G_val (V_move rfl rfl) rfl rfl (.none rfl) ?_
          refine G_val (V_fieldAddr rfl rfl (by decide)) rfl rfl (.none rfl) ?_
          refine G_val (V_load rfl rfl (Cell.own (.head _) rfl)) rfl rfl (.none rfl) ?_
          refine G_val (V_lookup kI _ rfl rfl rfl (.tail _ (.head _))) rfl rfl (.none rfl) ?_
          refine G_val (V_move rfl rfl) rfl rfl (.none rfl) ?_
          rw [yesI_getD]
          refine G.bool_t 33 rfl (by assumption) ?_
          refine G_val (V_move rfl rfl) rfl rfl (.yes rfl rfl rfl rfl) ?_
          refine G_val (V_geq rfl rfl rfl) rfl rfl (.yes rfl rfl rfl rfl) ?_
          refine G_val (V_pick_t rfl rfl rfl) rfl rfl (.none rfl) ?_
          refine G_val (V_move rfl rfl) rfl rfl (.none rfl) ?_
          refine G.bool_f 37 rfl (decide_eq_false (by omega)) ?_
          refine G_stay (.no rfl rfl rfl rfl) rfl rfl ?_
          refine G_stay (.no rfl rfl rfl rfl) rfl rfl ?_
          refine G_stay (.no rfl rfl rfl rfl) rfl rfl ?_
          refine G_stay (.no rfl rfl rfl rfl) rfl rfl ?_
          refine G_val (V_pick_f rfl rfl rfl) rfl rfl (.none rfl) ?_
          refine G_end (X_then ?_)
          refine G_cond_f rfl rfl ?_
          refine G_skip (X_block (X_then (G_region ?_)))
          refine G_val (V_add_i64 rfl rfl rfl (by omega) (by omega)) rfl rfl (.none rfl) ?_
          refine G_val (V_move rfl rfl) rfl rfl (.none rfl) ?_
          refine G_end (X_then ?_)
          exact G_again (j + 1) ⟨hjlt, again fun _ h => absurd h h16⟩ (by omega) ⟨rfl, rfl, rfl, rfl, rfl, rfl, rfl, rfl, rfl, trivial⟩ rfl rfl
    · refine G_seq ?_
      refine G_region ?_
      refine G_val (V_lss rfl rfl rfl) rfl rfl (.none rfl) ?_
      refine G_end (X_then (G_seq ?_))
      refine G_cond_f rfl (decide_eq_false (by omega)) ?_
      refine G_exit (X_then_exit (X_then_exit (X_block_hit (X_block (X_then (G_region ?_))))))
      refine G_val (V_add_i64 rfl rfl rfl (by omega) (by omega)) rfl rfl (.none rfl) ?_
      refine G_val (V_move rfl rfl) rfl rfl (.none rfl) ?_
      refine G_end (X_then ?_)
      refine G.drop ?_
      refine G_again (i + 1) ⟨hlt, ?_⟩ (by omega) ⟨rfl, rfl, rfl, rfl, rfl, trivial⟩ rfl rfl
      intro k hk hk2 hleft s hs h16
      by_cases he : k = i
      · subst he
        obtain ⟨m, hm, rfl⟩ := List.getElem_of_mem hs
        exact hjall m (by omega) hm hleft h16
      · exact hall k (by omega) hk2 hleft s hs h16
  · refine G_seq ?_
    refine G_region ?_
    refine G_val (V_lss rfl rfl rfl) rfl rfl (.none rfl) ?_
    refine G_end (X_then (G_seq ?_))
    refine G_cond_f rfl (decide_eq_false (by omega)) ?_
    refine G_exit (X_then_exit (X_then_exit (X_block_hit (X_then (G_exit ?_)))))
    refine X_block_miss rfl ?_
    refine X_then_exit (X_block_hit (X_then (G_seq (G_region ?_))))
    refine G_val (V_fieldAddr rfl rfl (by decide)) rfl rfl (.none rfl) ?_
    refine G_val (V_load rfl rfl (Cell.own (.tail _ (.head _)) rfl)) rfl rfl (.none rfl) ?_
    refine G_val (V_lenS rfl rfl) rfl rfl (.none rfl) ?_
    refine G_call (k := 110) (.mk rfl rfl rfl rfl) rfl rfl (.none rfl) (filledB_call _ _ _ _ (by omega)) ?_
    rintro r1 E2 L3 hE4 ⟨z5, ⟨rfl, ⟨rfl, rfl⟩⟩⟩
    replace hg0 := hg0.mono hE4
    replace ht := ht.mono hE4
    replace hn := hn.mono hE4
    replace hps := hps.mono hE4
    refine G_val (V_assign rfl rfl) rfl rfl (.none rfl) ?_
    refine G_end (X_then (G_seq (G_seq (G_region ?_))))
    refine G_val (V_move rfl rfl) rfl rfl (.none rfl) ?_
    (refine G_rangeM kI rfl rfl (.tail _ (.head _)) rfl rfl (.none rfl) ?_; intro b52)
    refine G_end (X_then (G_block ?_))
    refine G_loop (α := List Nat × List Int) (fun _ => [(10, .slice (some ⟨z5, 0, none⟩) g.names.length g.names.length), (52, .pointer (some ⟨b52, 0, none⟩))]) (fun _ => E) (fun x => .blk b52 (miter b12 (yesI ks).length x.1 (yesI ks).length) :: .blk z5 (.cells (bools (marks g.names.length x.2)).toArray 4 (0, 0)) :: .blk b12 (mobj kI (yesI ks)) :: GB b2 g tp tc np nc pp pc :: L)
      (fun x => (∀ i, i ∈ x.1 → ∀ s, ks[i]? = some s → s ∈ x.2) ∧ ∀ s, s ∈ x.2 → s ∈ ks) (fun x => ((List.range ks.length).filter fun j => decide (j ∉ x.1)).length) ([], []) ⟨fun i hi => (by cases hi), fun s hs => (by cases hs)⟩ ⟨rfl, rfl, trivial⟩ rfl (by rw [marks_nil]; simp [bools, startB]) ?_
    rintro ⟨seen, vis⟩ ⟨hv1, hv2⟩
    simp only at hv1 hv2 ⊢
    refine G_seq (G_region ?_)
    refine G_nextM kI rfl rfl (.tail _ (.tail _ (.head _))) (Nat.le_refl _) rfl rfl (.none rfl) (fun i => .head _ _ _) ?_ ?_
    · intro hall2
      have he : marks g.names.length vis = reachL g.prods g.names.length a := by
        rw [marks_congr (b := ks) fun s => ⟨hv2 s, fun hs => ?_⟩]
        · refine hi.done hw ha ha2 (by rw [marks_get ha ha2]; exact decide_eq_true hak) fun p hp h1 s hs h16 => ?_
          have hl1 := hw.left p hp
          have hs2 := hw.syms p hp s hs
          rw [marks_get hl1.1 hl1.2] at h1
          rw [marks_get h16 hs2]
          rw [← hrows] at hp
          obtain ⟨x, hx, rfl⟩ := List.mem_map.1 hp
          obtain ⟨k, hk, rfl⟩ := List.getElem_of_mem hx
          exact decide_eq_true (hall k (by omega) hk (of_decide_eq_true h1) s hs h16)
        · obtain ⟨k, hk, rfl⟩ := List.getElem_of_mem hs
          exact hv1 k (hall2 k (by rw [yesI_len]; exact hk)) _ (List.getElem?_eq_getElem hk)
      refine G.freezeB (.tail _ (.head _ _)) (k := g.names.length) (sz := 1) (by simp [bools, marks_len]) ?_
      intro E1 hE1 hs1
      rw [he] at hs1
      refine G_val (V_extract rfl rfl rfl) rfl rfl (.none rfl) ?_
      refine G_end (X_then (G_seq ?_))
      refine G_cond_f rfl rfl ?_
      refine G_exit (X_then_exit (X_then_exit (X_block_hit (X_then (G_seq (G_region ?_))))))
      refine G_val (V_move rfl rfl) rfl rfl (.none rfl) ?_
      refine G_val (V_assign rfl rfl) rfl rfl (.none rfl) ?_
      refine G_end (X_then (G_ret ?_))
      refine X_ng_ret ?_
      refine G_leaveS (.drop _ (.drop _ (.drop _ (.nil _)))) (by exact (.cons (.tmp rfl) (.nil))) rfl ?_ ?_
      · exact hE1
      exact ⟨_, ⟨rfl, ⟨(by assumption), rfl⟩⟩⟩
    · intro k p hk hkp
      obtain ⟨s, hs1, rfl⟩ := yesI_at hkp
      have hsk := hks s (List.mem_of_getElem? hs1)
      have hset : (bools (marks g.names.length vis)).set (s - 16).toNat (.bool true) = bools (marks g.names.length (vis ++ [s])) := by rw [marks_put hsk.1, bools_set]
      have hbl : (bools (marks g.names.length vis)).length = g.names.length := by simp [bools, marks_len]
      have hkl : k < ks.length := (List.getElem?_eq_some_iff.1 hs1).1
      dsimp only
      refine G_val (V_extract rfl rfl rfl) rfl rfl (.none rfl) ?_
      refine G_end (X_then (G_seq ?_))
      refine G_cond_t rfl rfl ?_
      refine G_skip (X_then (G_block (G_seq (G_region ?_))))
      refine G_val (V_entryM kI rfl rfl (.head _) (.tail _ (.tail _ (.head _))) (by assumption)) rfl rfl (.none rfl) ?_
      refine G_val (V_extract rfl rfl rfl) rfl rfl (.none rfl) ?_
      refine G_val (V_assign rfl rfl) rfl rfl (.none rfl) ?_
      refine G_end (X_then (G_region ?_))
      refine G_val (V_move rfl rfl) rfl rfl (.none rfl) ?_
      refine G_val (V_move rfl rfl) rfl rfl (.none rfl) ?_
      refine G_val (V_sub_i64 rfl rfl rfl (by omega) (by omega)) rfl rfl (.none rfl) ?_
      refine G_val (V_idxB1 rfl rfl rfl (by omega) (by omega)) rfl rfl (.none rfl) ?_
      refine G_storeB rfl rfl rfl rfl rfl rfl (.none rfl) (.tail _ (.head _ _ _)) (by omega) ?_
      refine G_end (X_block (X_then ?_))
      rw [hset]
      refine G_again (seen ++ [k], vis ++ [s]) ⟨?_, ?_⟩ (unseen_lt (List.mem_range.2 hkl) hk) ⟨rfl, rfl, trivial⟩ rfl rfl
      · intro i hi s2 hs2
        rcases List.mem_append.1 hi with h | h
        · exact List.mem_append_left _ (hv1 i h s2 hs2)
        · rw [List.mem_singleton.1 h, hs1] at hs2
          exact List.mem_append_right _ (List.mem_singleton.2 (Option.some.inj hs2).symm)
      · intro s2 hs2
        rcases List.mem_append.1 hs2 with h | h
        · exact hv2 s2 h
        · rw [List.mem_singleton.1 h]; exact List.mem_of_getElem? hs1
end
end Go.Proofs.Ytaoinojdijbhaaa
set_option linter.unusedSimpArgs false
set_option linter.unusedVariables false
set_option maxHeartbeats 2000000
set_option maxRecDepth 20000
namespace Go.Proofs.Ytaoinojdijbhaaa
open Go.RowKit
theorem gcheck_ok {g : Gr} (h : gcheck g = 0) : (1 ≤ g.k ∧ g.k ≤ 4) ∧ fullB g = false ∧ shortB g = false ∧ smallsB g = true ∧ dupB (g.toks ++ [g.sep] ++ g.names) = false ∧ symB g = true ∧ ordsB g.prods = true ∧ compB g = true := by
  have h4 : ¬ (12 : Int) = 0 := by decide
  simp only [gcheck, gc0, gc1, gc2, gc3, gc4, gc5] at h
  split at h
  · omega
  split at h
  · omega
  split at h
  · omega
  split at h
  · split at h
    · omega
    split at h
    · split at h
      · split at h
        · simp_all
        · omega
      · omega
    · omega
  · omega
structure Valid (g : Gr) : Prop where
  wf : Wf g.prods g.names.length
  start : 16 ≤ g.start ∧ g.start < 16 + g.names.length
  syms : ∀ p, p ∈ g.prods → ∀ s, s ∈ p.2 → (0 ≤ s ∧ s < g.toks.length) ∨ (16 ≤ s ∧ s < 16 + g.names.length)
  toks : 1 ≤ g.toks.length ∧ g.toks.length ≤ 8
  names : 1 ≤ g.names.length ∧ g.names.length ≤ 8
  prods : g.prods.length ≤ 24
  right : ∀ p, p ∈ g.prods → p.2.length ≤ 6
theorem valid_of {g : Gr} (h : gcheck g = 0) : Valid g := by
  obtain ⟨_, h1, h2, _, _, h5, _, _⟩ := gcheck_ok h
  simp only [fullB, Bool.or_eq_false_iff, decide_eq_false_iff_not, List.any_eq_false, decide_eq_true_eq] at h1
  simp only [shortB, Bool.or_eq_false_iff, decide_eq_false_iff_not] at h2
  simp only [symB, ntB, termB, Bool.and_eq_true, decide_eq_true_eq, List.all_eq_true, Bool.not_eq_true', List.any_eq_false, Bool.and_eq_false_iff] at h5
  obtain ⟨hs, hp⟩ := h5
  have hsy : ∀ p, p ∈ g.prods → ∀ s, s ∈ p.2 → (0 ≤ s ∧ s < g.toks.length) ∨ (16 ≤ s ∧ s < 16 + (g.names.length : Int)) := by
    intro p hp1 s hs1
    have := (hp p hp1).2 s hs1
    simp at this
    omega
  have hn : g.names.length ≠ 0 := fun e => h2.2 (by simpa using e)
  have ht : g.toks.length ≠ 0 := fun e => h2.1 (by simpa using e)
  refine ⟨⟨by omega, fun p h => (hp p h).1, fun p h => ?_, fun p h s hs => ?_⟩, hs, hsy, by omega, by omega, by omega, fun p h => ?_⟩
  · have := h1.2 p h; omega
  · have := hsy p h s hs; omega
  · have := h1.2 p h; omega
def okL {α : Type} (g : Gr) (l : List α) : List α := if gcheck g = 0 then l else []
theorem okL_pos {α : Type} {g : Gr} (h : gcheck g = 0) (l : List α) : okL g l = l := if_pos h
theorem okL_neg {α : Type} {g : Gr} (h : gcheck g ≠ 0) (l : List α) : okL g l = [] := if_neg h
def encR (o : Int) : Option Nat → Int
  | none => o
  | some c => c
def yieldsM (g : Gr) : List Bool := gen g.prods g.names.length true
def nullM (g : Gr) : List Bool := gen g.prods g.names.length false
def reachM (g : Gr) : List Bool := reachL g.prods g.names.length g.start
def lengthsM (g : Gr) : List Int := (best g.prods g.names.length (some 1) 0).map (encR (-1))
def treesM (g : Gr) : List Int := (best g.prods g.names.length none 1).map (encR 0)
theorem small_none (own : Nat) (h : own ≤ 1) : Small none own := ⟨fun k hk => (by cases hk), h⟩
theorem small_one (k own : Nat) (hk : k ≤ 1) (h : own ≤ 1) : Small (some k) own := ⟨fun j hj => by rw [Option.some.inj hj.symm]; exact hk, h⟩
theorem which_enc {f : Tab} (hf : ∀ c, some c ∈ f → c ≤ 1099511627776) : (f.map encC).map (fun c => decide (c ≠ 9223372036854775807)) = f.map Option.isSome := by
  rw [List.map_map]
  refine List.map_congr_left fun x hx => ?_
  cases x with
  | none => rfl
  | some c =>
    have := hf c hx
    show decide ((c : Int) ≠ 9223372036854775807) = true
    exact decide_eq_true (by omega)
theorem chosen_enc {f : Tab} (o : Int) (hf : ∀ c, some c ∈ f → c ≤ 1099511627776) : (f.map encC).map (fun c => if c = 9223372036854775807 then o else c) = f.map (encR o) := by
  rw [List.map_map]
  refine List.map_congr_left fun x hx => ?_
  cases x with
  | none => rfl
  | some c =>
    have := hf c hx
    show (if (c : Int) = 9223372036854775807 then o else (c : Int)) = c
    rw [if_neg (by omega)]
theorem best_mem {ps : List Pr} {n : Nat} {t : Option Nat} {own : Nat} (hw : Wf ps n) (hs : Small t own) {c : Nat} (h : some c ∈ best ps n t own) : c ≤ 1099511627776 := by
  obtain ⟨i, hi, he⟩ := List.getElem_of_mem h
  refine best_le hw hs (s := 16 + i) ?_
  have e : ((16 : Int) + i - 16).toNat = i := by omega
  rw [tget, e, List.getElem?_eq_getElem hi, he]; rfl
theorem yieldsM_len {g : Gr} (h : Valid g) : (yieldsM g).length = g.names.length := gen_len h.wf
theorem nullM_len {g : Gr} (h : Valid g) : (nullM g).length = g.names.length := gen_len h.wf
theorem lengthsM_len {g : Gr} (h : Valid g) : (lengthsM g).length = g.names.length := by rw [lengthsM, List.length_map, (best_least h.wf (small_one 1 0 (by decide) (by decide))).len]
theorem treesM_len {g : Gr} (h : Valid g) : (treesM g).length = g.names.length := by rw [treesM, List.length_map, (best_least h.wf (small_none 1 (by decide))).len]
theorem reachM_len {g : Gr} (h : Valid g) : (reachM g).length = g.names.length := reachL_len h.wf h.start.1 h.start.2
theorem yields_which {g : Gr} (h : Valid g) : ((best g.prods g.names.length (some 0) 0).map encC).map (fun c => decide (c ≠ 9223372036854775807)) = yieldsM g :=
  which_enc fun _ hc => best_mem h.wf (small_one 0 0 (by decide) (by decide)) hc
theorem null_which {g : Gr} (h : Valid g) : ((best g.prods g.names.length none 1).map encC).map (fun c => decide (c ≠ 9223372036854775807)) = nullM g := by
  rw [which_enc fun _ hc => best_mem h.wf (small_none 1 (by decide)) hc]
  exact best_some h.wf (small_none 1 (by decide)) (small_none 0 (by decide)) rfl
theorem lengths_chosen {g : Gr} (h : Valid g) : ((best g.prods g.names.length (some 1) 0).map encC).map (fun c => if c = 9223372036854775807 then -1 else c) = lengthsM g :=
  chosen_enc _ fun _ hc => best_mem h.wf (small_one 1 0 (by decide) (by decide)) hc
theorem trees_chosen {g : Gr} (h : Valid g) : ((best g.prods g.names.length none 1).map encC).map (fun c => if c = 9223372036854775807 then 0 else c) = treesM g :=
  chosen_enc _ fun _ hc => best_mem h.wf (small_none 1 (by decide)) hc
section
variable (E : Env) (L : List Res)
theorem costs_call' (gv : Value) (g : Gr) (hg : GrE E gv g) (hl : Light g) (hw : Wf g.prods g.names.length) :
    CallS Try.prog 81 #[gv, .int .i64 0, .int .i64 0] E L (fun r E' L' => ∃ b, r = .slice (some ⟨b, 0, none⟩) g.names.length g.names.length ∧ SlE E' 1 (some ⟨b, 0, none⟩) g.names.length (i64s ((best g.prods g.names.length (some 0) 0).map encC)) ∧ L' = L) :=
  costs_call E L gv g hg hl (some 0) 0 hw (small_one 0 0 (by decide) (by decide))
theorem costs_calln (gv : Value) (g : Gr) (hg : GrE E gv g) (hl : Light g) (hw : Wf g.prods g.names.length) :
    CallS Try.prog 81 #[gv, .int .i64 1, .int .i64 9223372036854775807] E L (fun r E' L' => ∃ b, r = .slice (some ⟨b, 0, none⟩) g.names.length g.names.length ∧ SlE E' 1 (some ⟨b, 0, none⟩) g.names.length (i64s ((best g.prods g.names.length none 1).map encC)) ∧ L' = L) :=
  costs_call E L gv g hg hl none 1 hw (small_none 1 (by decide))
theorem costs_call1 (gv : Value) (g : Gr) (hg : GrE E gv g) (hl : Light g) (hw : Wf g.prods g.names.length) :
    CallS Try.prog 81 #[gv, .int .i64 0, .int .i64 1] E L (fun r E' L' => ∃ b, r = .slice (some ⟨b, 0, none⟩) g.names.length g.names.length ∧ SlE E' 1 (some ⟨b, 0, none⟩) g.names.length (i64s ((best g.prods g.names.length (some 1) 0).map encC)) ∧ L' = L) :=
  costs_call E L gv g hg hl (some 1) 0 hw (small_one 1 0 (by decide) (by decide))
end
end Go.Proofs.Ytaoinojdijbhaaa
set_option linter.unusedSimpArgs false
set_option linter.unusedVariables false
set_option maxHeartbeats 2000000
set_option maxRecDepth 20000
namespace Go.Proofs.Ytaoinojdijbhaaa
open Go.RowKit
section
variable (E : Env) (L : List Res)
theorem Yields_call (gv : Value) (g : Gr) (hg : GrE E gv g) (hl : Light g) : CallS Try.prog 33 #[gv] E L (fun r E' L' => ∃ p c, r = .tuple #[.slice p (okL g (yieldsM g)).length c, .int .i64 (gcheck g)] ∧ SlE E' 1 p (okL g (yieldsM g)).length (bools (okL g (yieldsM g))) ∧ L' = L) := by
  have hg0 := hg
  obtain ⟨tp, tc, np, nc, pp, pc, rfl, ht, hn, ⟨rows, hrows, hps, hre⟩, k1, k2, k3⟩ := hg
  refine CallS.intro (l := [_]) _ Try.func33 rfl Try.ntmps33 rfl ?_
  by_cases hv : gcheck g = 0
  · have hva := valid_of hv
    have hw := hva.wf
    have hlen := yieldsM_len hva
    have q2 := hl.n
    have hs := small_one 0 0 (by decide) (by decide)
    have hwh := yields_which hva
    rw [okL_pos hv, hv, hlen, ← hwh]
    refine G_seq (G_region ?_)
    (refine G_boxA rfl rfl rfl rfl (.none rfl) ?_; intro b1)
    refine G_val (V_assign rfl rfl) rfl rfl (.none rfl) ?_
    refine G_val (V_assign rfl rfl) rfl rfl (.none rfl) ?_
    refine G_end (X_then (G_seq (G_seq (G_region ?_))))
    refine G_val (V_loadA rfl rfl (Cells.own (.head _)) rfl) rfl rfl (.none rfl) ?_
    refine G_callv (k := 67) (.mk rfl rfl rfl rfl) rfl rfl (.none rfl) (GCheck_call _ _ _ _ (by assumption) (by assumption)) ?_
    refine G_val (V_assign rfl rfl) rfl rfl (.none rfl) ?_
    refine G_end (X_then (G_seq (G_region ?_)))
    refine G_val (V_move rfl rfl) rfl rfl (.none rfl) ?_
    refine G_val (V_neq rfl rfl rfl) rfl rfl (.none rfl) ?_
    refine G_end (X_then ?_)
    refine G_cond_f rfl (decide_eq_false (by omega)) ?_
    refine G_skip (X_then (G_seq (G_region ?_)))
    refine G_val (V_loadA rfl rfl (Cells.own (.head _)) rfl) rfl rfl (.none rfl) ?_
    refine G_call (k := 81) (.mk rfl rfl rfl rfl) rfl rfl (.none rfl) (costs_call' _ _ _ _ (by assumption) (by assumption) (by assumption)) ?_
    rintro r1 E2 L3 hE4 ⟨z5, ⟨rfl, ⟨Z6, rfl⟩⟩⟩
    replace hg0 := hg0.mono hE4
    replace ht := ht.mono hE4
    replace hn := hn.mono hE4
    replace hps := hps.mono hE4
    refine G_call (k := 80) (.mk rfl rfl rfl rfl) rfl rfl (.none rfl) (which_call _ _ _ _ _ _ (by assumption) (by omega)) ?_
    rintro r7 E8 L9 hE10 ⟨z11, ⟨rfl, ⟨Z12, rfl⟩⟩⟩
    replace Z6 := Z6.mono hE10
    replace hg0 := hg0.mono hE10
    replace ht := ht.mono hE10
    replace hn := hn.mono hE10
    replace hps := hps.mono hE10
    refine G_val (V_assign rfl rfl) rfl rfl (.none rfl) ?_
    refine G_val (V_assign rfl rfl) rfl rfl (.none rfl) ?_
    refine G_end (X_then (G_ret ?_))
    refine G_leaveS (.drop _ (.nil _)) (by exact (.cons (.tmp rfl) (.cons (.tmp rfl) (.nil)))) rfl ?_ ?_
    · exact (hE4.trans hE10)
    exact ⟨_, ⟨_, ⟨rfl, ⟨(by assumption), rfl⟩⟩⟩⟩
  · rw [okL_neg hv]
    have hnil := @SlE.nil E 1
    refine G_seq (G_region ?_)
    (refine G_boxA rfl rfl rfl rfl (.none rfl) ?_; intro b1)
    refine G_val (V_assign rfl rfl) rfl rfl (.none rfl) ?_
    refine G_val (V_assign rfl rfl) rfl rfl (.none rfl) ?_
    refine G_end (X_then (G_seq (G_seq (G_region ?_))))
    refine G_val (V_loadA rfl rfl (Cells.own (.head _)) rfl) rfl rfl (.none rfl) ?_
    refine G_callv (k := 67) (.mk rfl rfl rfl rfl) rfl rfl (.none rfl) (GCheck_call _ _ _ _ (by assumption) (by assumption)) ?_
    refine G_val (V_assign rfl rfl) rfl rfl (.none rfl) ?_
    refine G_end (X_then (G_seq (G_region ?_)))
    refine G_val (V_move rfl rfl) rfl rfl (.none rfl) ?_
    refine G_val (V_neq rfl rfl rfl) rfl rfl (.none rfl) ?_
    refine G_end (X_then ?_)
    refine G_cond_t rfl (decide_eq_true (by omega)) ?_
    refine G_seq (G_region ?_)
    refine G_val (V_move rfl rfl) rfl rfl (.none rfl) ?_
    refine G_val (V_assign rfl rfl) rfl rfl (.none rfl) ?_
    refine G_val (V_assign rfl rfl) rfl rfl (.none rfl) ?_
    refine G_end (X_then (G_ret (X_then_ret ?_)))
    refine G_leaveS (.drop _ (.nil _)) (by exact (.cons (.tmp rfl) (.cons (.tmp rfl) (.nil)))) rfl ?_ ?_
    · exact (.refl _)
    exact ⟨_, ⟨_, ⟨rfl, ⟨(by assumption), rfl⟩⟩⟩⟩
theorem Nullable_call (gv : Value) (g : Gr) (hg : GrE E gv g) (hl : Light g) : CallS Try.prog 38 #[gv] E L (fun r E' L' => ∃ p c, r = .tuple #[.slice p (okL g (nullM g)).length c, .int .i64 (gcheck g)] ∧ SlE E' 1 p (okL g (nullM g)).length (bools (okL g (nullM g))) ∧ L' = L) := by
  have hg0 := hg
  obtain ⟨tp, tc, np, nc, pp, pc, rfl, ht, hn, ⟨rows, hrows, hps, hre⟩, k1, k2, k3⟩ := hg
  refine CallS.intro (l := [_]) _ Try.func38 rfl Try.ntmps38 rfl ?_
  by_cases hv : gcheck g = 0
  · have hva := valid_of hv
    have hw := hva.wf
    have hlen := nullM_len hva
    have q2 := hl.n
    have hs := small_none 1 (by decide)
    have hwh := null_which hva
    rw [okL_pos hv, hv, hlen, ← hwh]
    refine G_seq (G_region ?_)
    (refine G_boxA rfl rfl rfl rfl (.none rfl) ?_; intro b1)
    refine G_val (V_assign rfl rfl) rfl rfl (.none rfl) ?_
    refine G_val (V_assign rfl rfl) rfl rfl (.none rfl) ?_
    refine G_end (X_then (G_seq (G_seq (G_region ?_))))
    refine G_val (V_loadA rfl rfl (Cells.own (.head _)) rfl) rfl rfl (.none rfl) ?_
    refine G_callv (k := 67) (.mk rfl rfl rfl rfl) rfl rfl (.none rfl) (GCheck_call _ _ _ _ (by assumption) (by assumption)) ?_
    refine G_val (V_assign rfl rfl) rfl rfl (.none rfl) ?_
    refine G_end (X_then (G_seq (G_region ?_)))
    refine G_val (V_move rfl rfl) rfl rfl (.none rfl) ?_
    refine G_val (V_neq rfl rfl rfl) rfl rfl (.none rfl) ?_
    refine G_end (X_then ?_)
    refine G_cond_f rfl (decide_eq_false (by omega)) ?_
    refine G_skip (X_then (G_seq (G_region ?_)))
    refine G_val (V_loadA rfl rfl (Cells.own (.head _)) rfl) rfl rfl (.none rfl) ?_
    refine G_call (k := 81) (.mk rfl rfl rfl rfl) rfl rfl (.none rfl) (costs_calln _ _ _ _ (by assumption) (by assumption) (by assumption)) ?_
    rintro r1 E2 L3 hE4 ⟨z5, ⟨rfl, ⟨Z6, rfl⟩⟩⟩
    replace hg0 := hg0.mono hE4
    replace ht := ht.mono hE4
    replace hn := hn.mono hE4
    replace hps := hps.mono hE4
    refine G_call (k := 80) (.mk rfl rfl rfl rfl) rfl rfl (.none rfl) (which_call _ _ _ _ _ _ (by assumption) (by omega)) ?_
    rintro r7 E8 L9 hE10 ⟨z11, ⟨rfl, ⟨Z12, rfl⟩⟩⟩
    replace Z6 := Z6.mono hE10
    replace hg0 := hg0.mono hE10
    replace ht := ht.mono hE10
    replace hn := hn.mono hE10
    replace hps := hps.mono hE10
    refine G_val (V_assign rfl rfl) rfl rfl (.none rfl) ?_
    refine G_val (V_assign rfl rfl) rfl rfl (.none rfl) ?_
    refine G_end (X_then (G_ret ?_))
    refine G_leaveS (.drop _ (.nil _)) (by exact (.cons (.tmp rfl) (.cons (.tmp rfl) (.nil)))) rfl ?_ ?_
    · exact (hE4.trans hE10)
    exact ⟨_, ⟨_, ⟨rfl, ⟨(by assumption), rfl⟩⟩⟩⟩
  · rw [okL_neg hv]
    have hnil := @SlE.nil E 1
    refine G_seq (G_region ?_)
    (refine G_boxA rfl rfl rfl rfl (.none rfl) ?_; intro b1)
    refine G_val (V_assign rfl rfl) rfl rfl (.none rfl) ?_
    refine G_val (V_assign rfl rfl) rfl rfl (.none rfl) ?_
    refine G_end (X_then (G_seq (G_seq (G_region ?_))))
    refine G_val (V_loadA rfl rfl (Cells.own (.head _)) rfl) rfl rfl (.none rfl) ?_
    refine G_callv (k := 67) (.mk rfl rfl rfl rfl) rfl rfl (.none rfl) (GCheck_call _ _ _ _ (by assumption) (by assumption)) ?_
    refine G_val (V_assign rfl rfl) rfl rfl (.none rfl) ?_
    refine G_end (X_then (G_seq (G_region ?_)))
    refine G_val (V_move rfl rfl) rfl rfl (.none rfl) ?_
    refine G_val (V_neq rfl rfl rfl) rfl rfl (.none rfl) ?_
    refine G_end (X_then ?_)
    refine G_cond_t rfl (decide_eq_true (by omega)) ?_
    refine G_seq (G_region ?_)
    refine G_val (V_move rfl rfl) rfl rfl (.none rfl) ?_
    refine G_val (V_assign rfl rfl) rfl rfl (.none rfl) ?_
    refine G_val (V_assign rfl rfl) rfl rfl (.none rfl) ?_
    refine G_end (X_then (G_ret (X_then_ret ?_)))
    refine G_leaveS (.drop _ (.nil _)) (by exact (.cons (.tmp rfl) (.cons (.tmp rfl) (.nil)))) rfl ?_ ?_
    · exact (.refl _)
    exact ⟨_, ⟨_, ⟨rfl, ⟨(by assumption), rfl⟩⟩⟩⟩
theorem Lengths_call (gv : Value) (g : Gr) (hg : GrE E gv g) (hl : Light g) : CallS Try.prog 40 #[gv] E L (fun r E' L' => ∃ p c, r = .tuple #[.slice p (okL g (lengthsM g)).length c, .int .i64 (gcheck g)] ∧ SlE E' 1 p (okL g (lengthsM g)).length (i64s (okL g (lengthsM g))) ∧ L' = L) := by
  have hg0 := hg
  obtain ⟨tp, tc, np, nc, pp, pc, rfl, ht, hn, ⟨rows, hrows, hps, hre⟩, k1, k2, k3⟩ := hg
  refine CallS.intro (l := [_]) _ Try.func40 rfl Try.ntmps40 rfl ?_
  by_cases hv : gcheck g = 0
  · have hva := valid_of hv
    have hw := hva.wf
    have hlen := lengthsM_len hva
    have q2 := hl.n
    have hs := small_one 1 0 (by decide) (by decide)
    have hwh := lengths_chosen hva
    rw [okL_pos hv, hv, hlen, ← hwh]
    refine G_seq (G_region ?_)
    (refine G_boxA rfl rfl rfl rfl (.none rfl) ?_; intro b1)
    refine G_val (V_assign rfl rfl) rfl rfl (.none rfl) ?_
    refine G_val (V_assign rfl rfl) rfl rfl (.none rfl) ?_
    refine G_end (X_then (G_seq (G_seq (G_region ?_))))
    refine G_val (V_loadA rfl rfl (Cells.own (.head _)) rfl) rfl rfl (.none rfl) ?_
    refine G_callv (k := 67) (.mk rfl rfl rfl rfl) rfl rfl (.none rfl) (GCheck_call _ _ _ _ (by assumption) (by assumption)) ?_
    refine G_val (V_assign rfl rfl) rfl rfl (.none rfl) ?_
    refine G_end (X_then (G_seq (G_region ?_)))
    refine G_val (V_move rfl rfl) rfl rfl (.none rfl) ?_
    refine G_val (V_neq rfl rfl rfl) rfl rfl (.none rfl) ?_
    refine G_end (X_then ?_)
    refine G_cond_f rfl (decide_eq_false (by omega)) ?_
    refine G_skip (X_then (G_seq (G_region ?_)))
    refine G_val (V_loadA rfl rfl (Cells.own (.head _)) rfl) rfl rfl (.none rfl) ?_
    refine G_call (k := 81) (.mk rfl rfl rfl rfl) rfl rfl (.none rfl) (costs_call1 _ _ _ _ (by assumption) (by assumption) (by assumption)) ?_
    rintro r1 E2 L3 hE4 ⟨z5, ⟨rfl, ⟨Z6, rfl⟩⟩⟩
    replace hg0 := hg0.mono hE4
    replace ht := ht.mono hE4
    replace hn := hn.mono hE4
    replace hps := hps.mono hE4
    refine G_call (k := 86) (.mk rfl rfl rfl rfl) rfl rfl (.none rfl) (chosen_call _ _ _ _ _ _ _ (by assumption) (by omega)) ?_
    rintro r7 E8 L9 hE10 ⟨z11, ⟨rfl, ⟨Z12, rfl⟩⟩⟩
    replace Z6 := Z6.mono hE10
    replace hg0 := hg0.mono hE10
    replace ht := ht.mono hE10
    replace hn := hn.mono hE10
    replace hps := hps.mono hE10
    refine G_val (V_assign rfl rfl) rfl rfl (.none rfl) ?_
    refine G_val (V_assign rfl rfl) rfl rfl (.none rfl) ?_
    refine G_end (X_then (G_ret ?_))
    refine G_leaveS (.drop _ (.nil _)) (by exact (.cons (.tmp rfl) (.cons (.tmp rfl) (.nil)))) rfl ?_ ?_
    · exact (hE4.trans hE10)
    exact ⟨_, ⟨_, ⟨rfl, ⟨(by assumption), rfl⟩⟩⟩⟩
  · rw [okL_neg hv]
    have hnil := @SlE.nil E 1
    refine G_seq (G_region ?_)
    (refine G_boxA rfl rfl rfl rfl (.none rfl) ?_; intro b1)
    refine G_val (V_assign rfl rfl) rfl rfl (.none rfl) ?_
    refine G_val (V_assign rfl rfl) rfl rfl (.none rfl) ?_
    refine G_end (X_then (G_seq (G_seq (G_region ?_))))
    refine G_val (V_loadA rfl rfl (Cells.own (.head _)) rfl) rfl rfl (.none rfl) ?_
    refine G_callv (k := 67) (.mk rfl rfl rfl rfl) rfl rfl (.none rfl) (GCheck_call _ _ _ _ (by assumption) (by assumption)) ?_
    refine G_val (V_assign rfl rfl) rfl rfl (.none rfl) ?_
    refine G_end (X_then (G_seq (G_region ?_)))
    refine G_val (V_move rfl rfl) rfl rfl (.none rfl) ?_
    refine G_val (V_neq rfl rfl rfl) rfl rfl (.none rfl) ?_
    refine G_end (X_then ?_)
    refine G_cond_t rfl (decide_eq_true (by omega)) ?_
    refine G_seq (G_region ?_)
    refine G_val (V_move rfl rfl) rfl rfl (.none rfl) ?_
    refine G_val (V_assign rfl rfl) rfl rfl (.none rfl) ?_
    refine G_val (V_assign rfl rfl) rfl rfl (.none rfl) ?_
    refine G_end (X_then (G_ret (X_then_ret ?_)))
    refine G_leaveS (.drop _ (.nil _)) (by exact (.cons (.tmp rfl) (.cons (.tmp rfl) (.nil)))) rfl ?_ ?_
    · exact (.refl _)
    exact ⟨_, ⟨_, ⟨rfl, ⟨(by assumption), rfl⟩⟩⟩⟩
theorem Trees_call (gv : Value) (g : Gr) (hg : GrE E gv g) (hl : Light g) : CallS Try.prog 42 #[gv] E L (fun r E' L' => ∃ p c, r = .tuple #[.slice p (okL g (treesM g)).length c, .int .i64 (gcheck g)] ∧ SlE E' 1 p (okL g (treesM g)).length (i64s (okL g (treesM g))) ∧ L' = L) := by
  have hg0 := hg
  obtain ⟨tp, tc, np, nc, pp, pc, rfl, ht, hn, ⟨rows, hrows, hps, hre⟩, k1, k2, k3⟩ := hg
  refine CallS.intro (l := [_]) _ Try.func42 rfl Try.ntmps42 rfl ?_
  by_cases hv : gcheck g = 0
  · have hva := valid_of hv
    have hw := hva.wf
    have hlen := treesM_len hva
    have q2 := hl.n
    have hs := small_none 1 (by decide)
    have hwh := trees_chosen hva
    rw [okL_pos hv, hv, hlen, ← hwh]
    refine G_seq (G_region ?_)
    (refine G_boxA rfl rfl rfl rfl (.none rfl) ?_; intro b1)
    refine G_val (V_assign rfl rfl) rfl rfl (.none rfl) ?_
    refine G_val (V_assign rfl rfl) rfl rfl (.none rfl) ?_
    refine G_end (X_then (G_seq (G_seq (G_region ?_))))
    refine G_val (V_loadA rfl rfl (Cells.own (.head _)) rfl) rfl rfl (.none rfl) ?_
    refine G_callv (k := 67) (.mk rfl rfl rfl rfl) rfl rfl (.none rfl) (GCheck_call _ _ _ _ (by assumption) (by assumption)) ?_
    refine G_val (V_assign rfl rfl) rfl rfl (.none rfl) ?_
    refine G_end (X_then (G_seq (G_region ?_)))
    refine G_val (V_move rfl rfl) rfl rfl (.none rfl) ?_
    refine G_val (V_neq rfl rfl rfl) rfl rfl (.none rfl) ?_
    refine G_end (X_then ?_)
    refine G_cond_f rfl (decide_eq_false (by omega)) ?_
    refine G_skip (X_then (G_seq (G_region ?_)))
    refine G_val (V_loadA rfl rfl (Cells.own (.head _)) rfl) rfl rfl (.none rfl) ?_
    refine G_call (k := 81) (.mk rfl rfl rfl rfl) rfl rfl (.none rfl) (costs_calln _ _ _ _ (by assumption) (by assumption) (by assumption)) ?_
    rintro r1 E2 L3 hE4 ⟨z5, ⟨rfl, ⟨Z6, rfl⟩⟩⟩
    replace hg0 := hg0.mono hE4
    replace ht := ht.mono hE4
    replace hn := hn.mono hE4
    replace hps := hps.mono hE4
    refine G_call (k := 86) (.mk rfl rfl rfl rfl) rfl rfl (.none rfl) (chosen_call _ _ _ _ _ _ _ (by assumption) (by omega)) ?_
    rintro r7 E8 L9 hE10 ⟨z11, ⟨rfl, ⟨Z12, rfl⟩⟩⟩
    replace Z6 := Z6.mono hE10
    replace hg0 := hg0.mono hE10
    replace ht := ht.mono hE10
    replace hn := hn.mono hE10
    replace hps := hps.mono hE10
    refine G_val (V_assign rfl rfl) rfl rfl (.none rfl) ?_
    refine G_val (V_assign rfl rfl) rfl rfl (.none rfl) ?_
    refine G_end (X_then (G_ret ?_))
    refine G_leaveS (.drop _ (.nil _)) (by exact (.cons (.tmp rfl) (.cons (.tmp rfl) (.nil)))) rfl ?_ ?_
    · exact (hE4.trans hE10)
    exact ⟨_, ⟨_, ⟨rfl, ⟨(by assumption), rfl⟩⟩⟩⟩
  · rw [okL_neg hv]
    have hnil := @SlE.nil E 1
    refine G_seq (G_region ?_)
    (refine G_boxA rfl rfl rfl rfl (.none rfl) ?_; intro b1)
    refine G_val (V_assign rfl rfl) rfl rfl (.none rfl) ?_
    refine G_val (V_assign rfl rfl) rfl rfl (.none rfl) ?_
    refine G_end (X_then (G_seq (G_seq (G_region ?_))))
    refine G_val (V_loadA rfl rfl (Cells.own (.head _)) rfl) rfl rfl (.none rfl) ?_
    refine G_callv (k := 67) (.mk rfl rfl rfl rfl) rfl rfl (.none rfl) (GCheck_call _ _ _ _ (by assumption) (by assumption)) ?_
    refine G_val (V_assign rfl rfl) rfl rfl (.none rfl) ?_
    refine G_end (X_then (G_seq (G_region ?_)))
    refine G_val (V_move rfl rfl) rfl rfl (.none rfl) ?_
    refine G_val (V_neq rfl rfl rfl) rfl rfl (.none rfl) ?_
    refine G_end (X_then ?_)
    refine G_cond_t rfl (decide_eq_true (by omega)) ?_
    refine G_seq (G_region ?_)
    refine G_val (V_move rfl rfl) rfl rfl (.none rfl) ?_
    refine G_val (V_assign rfl rfl) rfl rfl (.none rfl) ?_
    refine G_val (V_assign rfl rfl) rfl rfl (.none rfl) ?_
    refine G_end (X_then (G_ret (X_then_ret ?_)))
    refine G_leaveS (.drop _ (.nil _)) (by exact (.cons (.tmp rfl) (.cons (.tmp rfl) (.nil)))) rfl ?_ ?_
    · exact (.refl _)
    exact ⟨_, ⟨_, ⟨rfl, ⟨(by assumption), rfl⟩⟩⟩⟩
theorem Reached_call (gv : Value) (g : Gr) (hg : GrE E gv g) (hl : Light g) : CallS Try.prog 36 #[gv] E L (fun r E' L' => ∃ p c, r = .tuple #[.slice p (okL g (reachM g)).length c, .int .i64 (gcheck g)] ∧ SlE E' 1 p (okL g (reachM g)).length (bools (okL g (reachM g))) ∧ L' = L) := by
  have hg0 := hg
  obtain ⟨tp, tc, np, nc, pp, pc, rfl, ht, hn, ⟨rows, hrows, hps, hre⟩, k1, k2, k3⟩ := hg
  refine CallS.intro (l := [_]) _ Try.func36 rfl Try.ntmps36 rfl ?_
  by_cases hv : gcheck g = 0
  · have hva := valid_of hv
    have hw := hva.wf
    have hlen := reachM_len hva
    have q2 := hl.n
    have hst := hva.start
    rw [okL_pos hv, hv, hlen, reachM]
    refine G_seq (G_region ?_)
    (refine G_boxA rfl rfl rfl rfl (.none rfl) ?_; intro b1)
    refine G_val (V_assign rfl rfl) rfl rfl (.none rfl) ?_
    refine G_val (V_assign rfl rfl) rfl rfl (.none rfl) ?_
    refine G_end (X_then (G_seq (G_seq (G_region ?_))))
    refine G_val (V_loadA rfl rfl (Cells.own (.head _)) rfl) rfl rfl (.none rfl) ?_
    refine G_callv (k := 67) (.mk rfl rfl rfl rfl) rfl rfl (.none rfl) (GCheck_call _ _ _ _ (by assumption) (by assumption)) ?_
    refine G_val (V_assign rfl rfl) rfl rfl (.none rfl) ?_
    refine G_end (X_then (G_seq (G_region ?_)))
    refine G_val (V_move rfl rfl) rfl rfl (.none rfl) ?_
    refine G_val (V_neq rfl rfl rfl) rfl rfl (.none rfl) ?_
    refine G_end (X_then ?_)
    refine G_cond_f rfl (decide_eq_false (by omega)) ?_
    refine G_skip (X_then (G_seq (G_region ?_)))
    refine G_val (V_loadA rfl rfl (Cells.own (.head _)) rfl) rfl rfl (.none rfl) ?_
    refine G_val (V_fieldAddr rfl rfl (by decide)) rfl rfl (.none rfl) ?_
    refine G_val (V_load rfl rfl (Cell.own (.head _) rfl)) rfl rfl (.none rfl) ?_
    refine G_call (k := 83) (.mk rfl rfl rfl rfl) rfl rfl (.none rfl) (reached_call _ _ _ _ (by assumption) (by assumption) _ (by assumption) (by omega) (by omega)) ?_
    rintro r1 E2 L3 hE4 ⟨z5, ⟨rfl, ⟨Z6, rfl⟩⟩⟩
    replace hg0 := hg0.mono hE4
    replace ht := ht.mono hE4
    replace hn := hn.mono hE4
    replace hps := hps.mono hE4
    refine G_val (V_assign rfl rfl) rfl rfl (.none rfl) ?_
    refine G_val (V_assign rfl rfl) rfl rfl (.none rfl) ?_
    refine G_end (X_then (G_ret ?_))
    refine G_leaveS (.drop _ (.nil _)) (by exact (.cons (.tmp rfl) (.cons (.tmp rfl) (.nil)))) rfl ?_ ?_
    · exact hE4
    exact ⟨_, ⟨_, ⟨rfl, ⟨(by assumption), rfl⟩⟩⟩⟩
  · rw [okL_neg hv]
    have hnil := @SlE.nil E 1
    refine G_seq (G_region ?_)
    (refine G_boxA rfl rfl rfl rfl (.none rfl) ?_; intro b1)
    refine G_val (V_assign rfl rfl) rfl rfl (.none rfl) ?_
    refine G_val (V_assign rfl rfl) rfl rfl (.none rfl) ?_
    refine G_end (X_then (G_seq (G_seq (G_region ?_))))
    refine G_val (V_loadA rfl rfl (Cells.own (.head _)) rfl) rfl rfl (.none rfl) ?_
    refine G_callv (k := 67) (.mk rfl rfl rfl rfl) rfl rfl (.none rfl) (GCheck_call _ _ _ _ (by assumption) (by assumption)) ?_
    refine G_val (V_assign rfl rfl) rfl rfl (.none rfl) ?_
    refine G_end (X_then (G_seq (G_region ?_)))
    refine G_val (V_move rfl rfl) rfl rfl (.none rfl) ?_
    refine G_val (V_neq rfl rfl rfl) rfl rfl (.none rfl) ?_
    refine G_end (X_then ?_)
    refine G_cond_t rfl (decide_eq_true (by omega)) ?_
    refine G_seq (G_region ?_)
    refine G_val (V_move rfl rfl) rfl rfl (.none rfl) ?_
    refine G_val (V_assign rfl rfl) rfl rfl (.none rfl) ?_
    refine G_val (V_assign rfl rfl) rfl rfl (.none rfl) ?_
    refine G_end (X_then (G_ret (X_then_ret ?_)))
    refine G_leaveS (.drop _ (.nil _)) (by exact (.cons (.tmp rfl) (.cons (.tmp rfl) (.nil)))) rfl ?_ ?_
    · exact (.refl _)
    exact ⟨_, ⟨_, ⟨rfl, ⟨(by assumption), rfl⟩⟩⟩⟩
end
end Go.Proofs.Ytaoinojdijbhaaa
namespace Go.Proofs.Ytaoinojdijbhaaa
open Go.RowKit
theorem i64s_snoc (l : List Int) (n : Int) : i64s (l ++ [n]) = i64s l ++ [.int .i64 n] := by simp [i64s]
section
variable (E : Env) (L : List Res)
theorem Nullable_call' (gv : Value) (g : Gr) (hg : GrE E gv g) (hl : Light g) (hc : gcheck g = 0) : CallS Try.prog 38 #[gv] E L (fun r E' L' => ∃ p c, r = .tuple #[.slice p g.names.length c, .int .i64 0] ∧ SlE E' 1 p g.names.length (bools (nullM g)) ∧ L' = L) := by
  have h := Nullable_call E L gv g hg hl
  rwa [okL_pos hc, nullM_len (valid_of hc), hc] at h
end
end Go.Proofs.Ytaoinojdijbhaaa
set_option linter.unusedSimpArgs false
set_option linter.unusedVariables false
set_option maxHeartbeats 2000000
set_option maxRecDepth 20000
namespace Go.Proofs.Ytaoinojdijbhaaa
open Go.RowKit
/-! Sets of nonterminals as bits. -/
def bitL (s : Nat) : List Nat := (List.range 8).filter fun i => s.testBit i
def tz (s : Nat) : Nat := ((List.range 8).find? fun i => s.testBit i).getD 8
def ntz8 : List UInt8 := [8, 0, 1, 0, 2, 0, 1, 0, 3, 0, 1, 0, 2, 0, 1, 0, 4, 0, 1, 0, 2, 0, 1, 0, 3, 0, 1, 0, 2, 0, 1, 0, 5, 0, 1, 0, 2, 0, 1, 0, 3, 0, 1, 0, 2, 0, 1, 0, 4, 0, 1, 0, 2, 0, 1, 0, 3, 0, 1, 0, 2, 0, 1, 0, 6, 0, 1, 0, 2, 0, 1, 0, 3, 0, 1, 0, 2, 0, 1, 0, 4, 0, 1, 0, 2, 0, 1, 0, 3, 0, 1, 0, 2, 0, 1, 0, 5, 0, 1, 0, 2, 0, 1, 0, 3, 0, 1, 0, 2, 0, 1, 0, 4, 0, 1, 0, 2, 0, 1, 0, 3, 0, 1, 0, 2, 0, 1, 0, 7, 0, 1, 0, 2, 0, 1, 0, 3, 0, 1, 0, 2, 0, 1, 0, 4, 0, 1, 0, 2, 0, 1, 0, 3, 0, 1, 0, 2, 0, 1, 0, 5, 0, 1, 0, 2, 0, 1, 0, 3, 0, 1, 0, 2, 0, 1, 0, 4, 0, 1, 0, 2, 0, 1, 0, 3, 0, 1, 0, 2, 0, 1, 0, 6, 0, 1, 0, 2, 0, 1, 0, 3, 0, 1, 0, 2, 0, 1, 0, 4, 0, 1, 0, 2, 0, 1, 0, 3, 0, 1, 0, 2, 0, 1, 0, 5, 0, 1, 0, 2, 0, 1, 0, 3, 0, 1, 0, 2, 0, 1, 0, 4, 0, 1, 0, 2, 0, 1, 0, 3, 0, 1, 0, 2, 0, 1, 0]
theorem ntz8_all : (List.range 256).all (fun s => match ntz8[s]? with | some b => decide (b.toNat = tz s) | none => false) = true := by kernel_rfl
theorem ntz8_at {s : Nat} (hs : s < 256) : ∃ b, ntz8[s]? = some b ∧ b.toNat = tz s := by
  have h := List.all_eq_true.1 ntz8_all s (List.mem_range.2 hs)
  cases hb : ntz8[s]? with
  | none => rw [hb] at h; cases h
  | some b => rw [hb] at h; exact ⟨b, rfl, of_decide_eq_true h⟩
theorem has_all : (List.range 256).all (fun s => (List.range 8).all fun n => decide ((decide (andI .u8 (shrI .u8 (s : Int) (n : Int)) 1 = 1)) = s.testBit n)) = true := by kernel_rfl
theorem has_at {s n : Nat} (hs : s < 256) (hn : n < 8) : (decide (andI .u8 (shrI .u8 (s : Int) (n : Int)) 1 = 1)) = s.testBit n :=
  of_decide_eq_true (List.all_eq_true.1 (List.all_eq_true.1 has_all s (List.mem_range.2 hs)) n (List.mem_range.2 hn))
/-- One element less. -/
theorem bit_all : (List.range 256).all (fun s => decide (s = 0) || (decide (andI .u8 (s : Int) ((s : Int) - 1) = ((s &&& (s - 1) : Nat) : Int)) && decide (bitL s = tz s :: bitL (s &&& (s - 1))) && decide (s &&& (s - 1) < s))) = true := by kernel_rfl
theorem bit_at {s : Nat} (hs : s < 256) (h0 : s ≠ 0) : andI .u8 (s : Int) ((s : Int) - 1) = ((s &&& (s - 1) : Nat) : Int) ∧ bitL s = tz s :: bitL (s &&& (s - 1)) ∧ s &&& (s - 1) < s := by
  have h := List.all_eq_true.1 bit_all s (List.mem_range.2 hs)
  simp only [Bool.or_eq_true, Bool.and_eq_true, decide_eq_true_eq] at h
  rcases h with h | ⟨⟨h1, h2⟩, h3⟩
  · exact absurd h h0
  · exact ⟨h1, h2, h3⟩
/-- One element more. -/
theorem or_all : (List.range 256).all (fun s => (List.range 8).all fun n => decide (orI .u8 (s : Int) (shlI .u8 1 (n : Int)) = ((s ||| 2 ^ n : Nat) : Int)) && decide (s ||| 2 ^ n < 256)) = true := by kernel_rfl
theorem or_at {s n : Nat} (hs : s < 256) (hn : n < 8) : orI .u8 (s : Int) (shlI .u8 1 (n : Int)) = ((s ||| 2 ^ n : Nat) : Int) ∧ s ||| 2 ^ n < 256 := by
  have h := List.all_eq_true.1 (List.all_eq_true.1 or_all s (List.mem_range.2 hs)) n (List.mem_range.2 hn)
  simpa only [Bool.and_eq_true, decide_eq_true_eq] using h
section
variable (E : Env) (L : List Res)
theorem tz_call (s : Nat) (hs : s < 256) : CallV Try.prog 105 #[.int .u8 s] E L (.int .i64 (tz s)) := by
  refine CallS.toV (CallS.intro (l := [_]) _ Try.func105 rfl Try.ntmps105 rfl ?_)
  refine G_seq (G_region ?_)
  refine G_val (V_assign rfl rfl) rfl rfl (.none rfl) ?_
  refine G_end (X_then (G_seq (G_region ?_)))
  refine G_val (V_move rfl rfl) rfl rfl (.none rfl) ?_
  obtain ⟨b, hb, hb2⟩ := ntz8_at hs
  have hlt := b.toNat_lt
  refine G_val (V_sidx (a := ntz8) rfl rfl rfl (by omega) hb) rfl rfl (.none rfl) ?_
  rw [hb2] at hlt ⊢
  refine G_val (V_conv_i64 rfl rfl (by omega) (by omega)) rfl rfl (.none rfl) ?_
  refine G_val (V_assign rfl rfl) rfl rfl (.none rfl) ?_
  refine G_end (X_then (G_ret ?_))
  refine G_leaveS (.nil _) (by exact (.cons (.tmp rfl) (.nil))) rfl ?_ ?_
  · exact (.refl _)
  exact ⟨rfl, rfl⟩
theorem has_call (s n : Nat) (hs : s < 256) (hn : n < 8) : CallV Try.prog 91 #[.int .u8 s, .int .i64 n] E L (.bool (s.testBit n)) := by
  rw [← has_at hs hn]
  refine CallS.toV (CallS.intro (l := [_, _]) _ Try.func91 rfl Try.ntmps91 rfl ?_)
  refine G_seq (G_region ?_)
  refine G_val (V_assign rfl rfl) rfl rfl (.none rfl) ?_
  refine G_end (X_then (G_seq (G_region ?_)))
  refine G_val (V_move rfl rfl) rfl rfl (.none rfl) ?_
  refine G_val (V_move rfl rfl) rfl rfl (.none rfl) ?_
  refine G_val (V_shr rfl rfl rfl (by omega)) rfl rfl (.none rfl) ?_
  refine G_val (V_and rfl rfl rfl) rfl rfl (.none rfl) ?_
  refine G_val (V_eql rfl rfl rfl) rfl rfl (.none rfl) ?_
  refine G_val (V_assign rfl rfl) rfl rfl (.none rfl) ?_
  refine G_end (X_then (G_ret ?_))
  refine G_leaveS (.nil _) (by exact (.cons (.tmp rfl) (.nil))) rfl ?_ ?_
  · exact (.refl _)
  exact ⟨rfl, rfl⟩
end
end Go.Proofs.Ytaoinojdijbhaaa
set_option linter.unusedSimpArgs false
set_option linter.unusedVariables false
set_option maxHeartbeats 2000000
set_option maxRecDepth 20000
namespace Go.Proofs.Ytaoinojdijbhaaa
open Go.RowKit
def natsI (l : List Nat) : List Int := l.map fun n : Nat => (n : Int)
theorem natsI_snoc (l : List Nat) (n : Nat) : natsI (l ++ [n]) = natsI l ++ [(n : Int)] := by simp [natsI]
theorem natsI_len (l : List Nat) : (natsI l).length = l.length := List.length_map _
theorem bitL_zero : bitL 0 = [] := by kernel_rfl
theorem bitL_le (s : Nat) : (bitL s).length ≤ 8 := by
  have := List.length_filter_le (fun i => s.testBit i) (List.range 8)
  simpa [bitL] using this
/-- What a right side begins with. -/
def byS (nul : List Bool) : List Int → Nat
  | [] => 0
  | x :: r => if x < 16 then 0 else 2 ^ (x - 16).toNat ||| (if bget nul x = true then byS nul r else 0)
theorem byS_lt {n : Nat} (nul : List Bool) : ∀ r : List Int, (∀ s, s ∈ r → s < 16 + (n : Int)) → n ≤ 8 → byS nul r < 256 := by
  intro r
  induction r with
  | nil => intro _ _; exact Nat.le_of_ble_eq_true rfl
  | cons x r ih =>
    intro h hn
    rw [byS]
    by_cases h16 : x < 16
    · rw [if_pos h16]; exact Nat.le_of_ble_eq_true rfl
    · rw [if_neg h16]
      have h1 := h x (.head _)
      have h2 : 2 ^ (x - 16).toNat < 2 ^ 8 := Nat.pow_lt_pow_right (by decide) (by omega)
      have h3 := ih (fun s hs => h s (.tail _ hs)) hn
      refine Nat.or_lt_two_pow (n := 8) h2 ?_
      by_cases hb : bget nul x = true
      · rw [if_pos hb]; exact h3
      · rw [if_neg hb]; exact Nat.le_of_ble_eq_true rfl
theorem byS_drop {nul : List Bool} {r : List Int} {k : Nat} (h : k < r.length) : byS nul (r.drop k) = if r[k] < 16 then 0 else 2 ^ (r[k] - 16).toNat ||| (if bget nul r[k] = true then byS nul (r.drop (k + 1)) else 0) := by
  rw [List.drop_eq_getElem_cons h, byS]
section
variable (E : Env) (L : List Res)
theorem list_call (s : Nat) (hs : s < 256) : CallS Try.prog 70 #[.int .u8 s] E L (fun r E' L' => ∃ p c, r = .slice p (bitL s).length c ∧ SlE E' 1 p (bitL s).length (i64s (natsI (bitL s))) ∧ L' = L) := by
  refine CallS.intro (l := [_]) _ Try.func70 rfl Try.ntmps70 rfl ?_
  refine G_seq (G_region ?_)
  refine G_val (V_assign rfl rfl) rfl rfl (.none rfl) ?_
  refine G_end (X_then (G_seq (G_region ?_)))
  refine G_val (V_assign rfl rfl) rfl rfl (.none rfl) ?_
  refine G_end (X_then (G_seq (G_block ?_)))
  refine G.nilSl 3 1 ?_
  refine G_loop (α := Nat × Env × Option Addr × Nat × List Nat) (fun x => [(0, .int .u8 x.1), (3, .slice x.2.2.1 x.2.2.2.2.length x.2.2.2.1)]) (fun x => x.2.1) (fun x => .sl 3 1 x.2.2.1 x.2.2.2.2.length x.2.2.2.1 (i64s (natsI x.2.2.2.2)) :: L)
    (fun x => E.Le x.2.1 ∧ x.1 < 256 ∧ bitL s = x.2.2.2.2 ++ bitL x.1) (fun x => x.1) (s, E, none, 0, []) ⟨.refl _, hs, rfl⟩ ⟨rfl, rfl, trivial⟩ rfl rfl ?_
  rintro ⟨u, E1, a, c, out⟩ ⟨hE, hu, hb⟩
  simp only at hE hu hb ⊢
  have hl8 := bitL_le s
  have hlo : out.length ≤ 8 := by have := congrArg List.length hb; simp at this; omega
  have hol : (i64s (natsI out)).length = out.length := by rw [i64s, List.length_map, natsI_len]
  by_cases h0 : u = 0
  · have hbs : bitL s = out := by rw [hb, h0, bitL_zero, List.append_nil]
    rw [hbs]
    refine G.freezeSl (.head _ _) ?_
    intro E2 hE2 hsl hc
    refine G_seq (G_seq (G_region ?_))
    refine G_val (V_move rfl rfl) rfl rfl (.none rfl) ?_
    refine G_val (V_neq rfl rfl rfl) rfl rfl (.none rfl) ?_
    refine G_end (X_then ?_)
    refine G_cond_f rfl (decide_eq_false (by omega)) ?_
    refine G_exit (X_then_exit (X_then_exit (X_block_hit (X_then (G_seq (G_region ?_))))))
    refine G_val (V_move rfl rfl) rfl rfl (.none rfl) ?_
    refine G_val (V_assign rfl rfl) rfl rfl (.none rfl) ?_
    refine G_end (X_then (G_ret ?_))
    refine G_leaveS (.nil _) (by exact (.cons (.tmp rfl) (.nil))) rfl ?_ ?_
    · exact (hE.trans hE2)
    exact ⟨_, ⟨_, ⟨rfl, ⟨(by assumption), rfl⟩⟩⟩⟩
  · obtain ⟨b1, b2, b3⟩ := bit_at hu h0
    refine G_seq (G_seq (G_region ?_))
    refine G_val (V_move rfl rfl) rfl rfl (.none rfl) ?_
    refine G_val (V_neq rfl rfl rfl) rfl rfl (.none rfl) ?_
    refine G_end (X_then ?_)
    refine G_cond_t rfl (decide_eq_true (by omega)) ?_
    refine G_skip (X_then (G_seq (G_block (G_region ?_))))
    refine G_val (V_move rfl rfl) rfl rfl (.none rfl) ?_
    refine G_val (V_move rfl rfl) rfl rfl (.none rfl) ?_
    refine G_callv (k := 105) (.mk rfl rfl rfl rfl) rfl rfl (.none rfl) (tz_call _ _ _ (by assumption)) ?_
    (refine G_lit1 rfl rfl rfl rfl rfl (.none rfl) ?_; intro b13)
    (refine G_append rfl rfl rfl (Rd.lit (.head _) rfl) (by simp [Value.oneCell']) (by omega) (by omega) rfl rfl (.none rfl) (fun _ _ => (.tail _ (.head _ _ _))) ?_; intro a14 c14; refine G.rm (.head _ _) ?_)
    refine G_val (V_assign rfl rfl) rfl rfl (.none rfl) ?_
    refine G_end (X_block (X_then (G_region ?_)))
    refine G_val (V_move rfl rfl) rfl rfl (.none rfl) ?_
    refine G_val (V_move rfl rfl) rfl rfl (.none rfl) ?_
    refine G_val (V_sub_u8 rfl rfl rfl (by omega) (by omega)) rfl rfl (.none rfl) ?_
    refine G_val (V_and rfl rfl rfl) rfl rfl (.none rfl) ?_
    refine G_val (V_assign rfl rfl) rfl rfl (.none rfl) ?_
    refine G_end (X_then ?_)
    rw [b1]
    refine G_again (u &&& (u - 1), _, _, _, out ++ [tz u]) ⟨hE, by simp only; omega, by rw [hb, b2, List.append_assoc]; rfl⟩ b3 ⟨rfl, by rw [List.length_append]; rfl, trivial⟩ rfl (by rw [List.length_append, natsI_snoc, i64s_snoc]; rfl)
theorem by_call (gv : Value) (g : Gr) (hg : GrE E gv g) (hl : Light g) (hc : gcheck g = 0) (np : Option Addr) (nc : Nat) (hn : SlE E 1 np g.names.length (bools (nullM g))) (p : Nat) (hp : p < g.prods.length) :
    CallV Try.prog 76 #[gv, .slice np g.names.length nc, .int .i64 p] E L (.int .u8 (byS (nullM g) (g.prods.getD p (0, [])).2)) := by
  have hg0 := hg
  obtain ⟨tp, tc, np', nc', pp, pc, rfl, ht, hnm, ⟨rows, hrows, hps, hre⟩, k1, k2, k3⟩ := hg
  have hlen : g.prods.length = rows.length := by rw [← hrows]; simp
  have q1 := hl.t; have q2 := hl.n; have q3 := hl.p
  have hv := valid_of hc
  have hpl : p < rows.length := by omega
  have hyr := prows_right (List.getElem?_eq_getElem hpl)
  have hre1 := hre.get (List.getElem?_eq_getElem hpl)
  have hpp : rows[p].2.2 ∈ g.prods := by rw [← hrows]; exact List.mem_map.2 ⟨rows[p], List.getElem_mem hpl, rfl⟩
  have hpd : g.prods.getD p (0, []) = rows[p].2.2 := by rw [← hrows]; simp [List.getD, hpl]
  have h8 := hv.right _ hpp
  have hsy := hv.wf.syms _ hpp
  have hnn := hv.names
  have hnl : (nullM g).length = g.names.length := nullM_len hv
  rw [hpd]
  refine CallS.toV (CallS.intro (l := [_, _, _]) _ Try.func76 rfl Try.ntmps76 rfl ?_)
  refine G_seq (G_region ?_)
  (refine G_boxA rfl rfl rfl rfl (.none rfl) ?_; intro b3)
  refine G_val (V_assign rfl rfl) rfl rfl (.none rfl) ?_
  refine G_end (X_then (G_seq (G_region ?_)))
  refine G_val (V_assign rfl rfl) rfl rfl (.none rfl) ?_
  refine G_end (X_then (G_seq (G_seq (G_region ?_))))
  refine G_val (V_fieldAddr rfl rfl (by decide)) rfl rfl (.none rfl) ?_
  refine G_val (V_load rfl rfl (Cell.own (.head _) rfl)) rfl rfl (.none rfl) ?_
  refine G_val (V_move rfl rfl) rfl rfl (.none rfl) ?_
  refine G_val (V_idxAddr rfl rfl rfl (SlE.rd (by assumption)) (by omega) (by omega)) rfl rfl (.none rfl) ?_
  refine G_val (V_fieldAddrE rfl rfl (by assumption) (by omega) (by decide)) rfl rfl (.none rfl) ?_
  refine G_val (V_loadS rfl rfl (SlE.rd (by assumption)) (by assumption) (by simp)) rfl rfl (.none rfl) ?_
  refine G_val (V_lenS rfl rfl) rfl rfl (.none rfl) ?_
  refine G_val (V_move rfl rfl) rfl rfl (.none rfl) ?_
  refine G_end (X_then (G_block ?_))
  refine G_loop (α := Nat × Nat) (fun x => [(1, .slice np g.names.length nc), (7, .int .u8 x.2), (15, .slice rows[p].1 rows[p].2.2.2.length rows[p].2.1), (16, .int .i64 rows[p].2.2.2.length), (17, .int .i64 x.1)]) (fun _ => E) (fun _ => GB b3 g tp tc np' nc' pp pc :: L)
    (fun x => x.1 ≤ rows[p].2.2.2.length ∧ x.2 < 256 ∧ byS (nullM g) rows[p].2.2.2 = x.2 ||| byS (nullM g) (rows[p].2.2.2.drop x.1)) (fun x => rows[p].2.2.2.length - x.1) (0, 0) ⟨Nat.zero_le _, Nat.le_of_ble_eq_true rfl, by simp⟩ ⟨rfl, rfl, rfl, rfl, rfl, trivial⟩ rfl rfl ?_
  rintro ⟨k, u⟩ ⟨hk, hu, hb⟩
  simp only at hk hu hb ⊢
  by_cases hlt : k < rows[p].2.2.2.length
  · have hx := i64s_at hlt
    have hsk := hsy _ (List.getElem_mem hlt)
    have hd := byS_drop (nul := nullM g) hlt
    by_cases h16 : rows[p].2.2.2[k] < 16
    · rw [if_pos h16] at hd
      rw [hd, Nat.or_zero] at hb
      rw [hb]
      refine G_seq (G_region ?_)
      refine G_val (V_lss rfl rfl rfl) rfl rfl (.none rfl) ?_
      refine G_end (X_then (G_seq ?_))
      refine G_cond_t rfl (decide_eq_true (by omega)) ?_
      refine G_skip (X_then (G_seq (G_block (G_seq (G_region ?_)))))
      refine G_val (V_idxAddr rfl rfl rfl (SlE.rd (by assumption)) (by omega) (by omega)) rfl rfl (.none rfl) ?_
      refine G_val (V_loadS rfl rfl (SlE.rd (by assumption)) (by assumption) (by simp)) rfl rfl (.none rfl) ?_
      refine G_val (V_assign rfl rfl) rfl rfl (.none rfl) ?_
      refine G_end (X_then (G_seq (G_seq (G_region ?_))))
      refine G_val (V_move rfl rfl) rfl rfl (.none rfl) ?_
      refine G_val (V_lss rfl rfl rfl) rfl rfl (.none rfl) ?_
      refine G_end (X_then ?_)
      refine G_cond_t rfl (decide_eq_true (by omega)) ?_
      refine G_exit (X_then_exit ?_)
      refine X_block_miss rfl ?_
      refine X_then_exit (X_then_exit (X_block_hit (X_then (G_seq (G_region ?_)))))
      refine G_val (V_move rfl rfl) rfl rfl (.none rfl) ?_
      refine G_val (V_assign rfl rfl) rfl rfl (.none rfl) ?_
      refine G_end (X_then (G_ret ?_))
      refine G_leaveS (.drop _ (.nil _)) (by exact (.cons (.tmp rfl) (.nil))) rfl ?_ ?_
      · exact (.refl _)
      exact ⟨rfl, rfl⟩
    · rw [if_neg h16] at hd
      obtain ⟨o1, o2⟩ := or_at hu (show (rows[p].2.2.2[k] - 16).toNat < 8 by omega)
      have ex : (((rows[p].2.2.2[k] - 16).toNat : Nat) : Int) = rows[p].2.2.2[k] - 16 := by omega
      rw [ex] at o1
      have hnb : (bools (nullM g))[(rows[p].2.2.2[k] - 16).toNat]? = some (.bool (bget (nullM g) rows[p].2.2.2[k])) := by
        have h : (rows[p].2.2.2[k] - 16).toNat < (nullM g).length := by omega
        simp [bools, bget, h]
      cases hnu : bget (nullM g) rows[p].2.2.2[k] with
      | true =>
        rw [hnu, if_pos rfl] at hd
        rw [hnu] at hnb
        refine G_seq (G_region ?_)
        refine G_val (V_lss rfl rfl rfl) rfl rfl (.none rfl) ?_
        refine G_end (X_then (G_seq ?_))
        refine G_cond_t rfl (decide_eq_true (by omega)) ?_
        refine G_skip (X_then (G_seq (G_block (G_seq (G_region ?_)))))
        refine G_val (V_idxAddr rfl rfl rfl (SlE.rd (by assumption)) (by omega) (by omega)) rfl rfl (.none rfl) ?_
        refine G_val (V_loadS rfl rfl (SlE.rd (by assumption)) (by assumption) (by simp)) rfl rfl (.none rfl) ?_
        refine G_val (V_assign rfl rfl) rfl rfl (.none rfl) ?_
        refine G_end (X_then (G_seq (G_seq (G_region ?_))))
        refine G_val (V_move rfl rfl) rfl rfl (.none rfl) ?_
        refine G_val (V_lss rfl rfl rfl) rfl rfl (.none rfl) ?_
        refine G_end (X_then ?_)
        refine G_cond_f rfl (decide_eq_false (by omega)) ?_
        refine G_skip (X_then (G_seq (G_region ?_)))
        refine G_val (V_move rfl rfl) rfl rfl (.none rfl) ?_
        refine G_val (V_move rfl rfl) rfl rfl (.none rfl) ?_
        refine G_val (V_sub_i64 rfl rfl rfl (by omega) (by omega)) rfl rfl (.none rfl) ?_
        refine G_val (V_shl rfl rfl rfl (by omega)) rfl rfl (.none rfl) ?_
        refine G_val (V_or rfl rfl rfl) rfl rfl (.none rfl) ?_
        refine G_val (V_assign rfl rfl) rfl rfl (.none rfl) ?_
        refine G_end (X_then (G_seq (G_region ?_)))
        refine G_val (V_move rfl rfl) rfl rfl (.none rfl) ?_
        refine G_val (V_move rfl rfl) rfl rfl (.none rfl) ?_
        refine G_val (V_sub_i64 rfl rfl rfl (by omega) (by omega)) rfl rfl (.none rfl) ?_
        refine G_val (V_idxAddr rfl rfl rfl (SlE.rd (by assumption)) (by omega) (by omega)) rfl rfl (.none rfl) ?_
        refine G_val (V_loadS rfl rfl (SlE.rd (by assumption)) (by assumption) (by simp)) rfl rfl (.none rfl) ?_
        refine G_val (V_not rfl rfl) rfl rfl (.none rfl) ?_
        refine G_end (X_then ?_)
        refine G_cond_f rfl (by kernel_rfl) ?_
        refine G_skip (X_block (X_then (G_region ?_)))
        refine G_val (V_add_i64 rfl rfl rfl (by omega) (by omega)) rfl rfl (.none rfl) ?_
        refine G_val (V_move rfl rfl) rfl rfl (.none rfl) ?_
        refine G_end (X_then ?_)
        rw [o1]
        exact G_again (k + 1, u ||| 2 ^ (rows[p].2.2.2[k] - 16).toNat) ⟨hlt, o2, by rw [hb, hd, Nat.or_assoc]⟩ (by simp only; omega) ⟨rfl, rfl, rfl, rfl, rfl, trivial⟩ rfl rfl
      | false =>
        rw [hnu, if_neg (by decide), Nat.or_zero] at hd
        rw [hnu] at hnb
        rw [hd] at hb
        rw [hb, ← o1]
        refine G_seq (G_region ?_)
        refine G_val (V_lss rfl rfl rfl) rfl rfl (.none rfl) ?_
        refine G_end (X_then (G_seq ?_))
        refine G_cond_t rfl (decide_eq_true (by omega)) ?_
        refine G_skip (X_then (G_seq (G_block (G_seq (G_region ?_)))))
        refine G_val (V_idxAddr rfl rfl rfl (SlE.rd (by assumption)) (by omega) (by omega)) rfl rfl (.none rfl) ?_
        refine G_val (V_loadS rfl rfl (SlE.rd (by assumption)) (by assumption) (by simp)) rfl rfl (.none rfl) ?_
        refine G_val (V_assign rfl rfl) rfl rfl (.none rfl) ?_
        refine G_end (X_then (G_seq (G_seq (G_region ?_))))
        refine G_val (V_move rfl rfl) rfl rfl (.none rfl) ?_
        refine G_val (V_lss rfl rfl rfl) rfl rfl (.none rfl) ?_
        refine G_end (X_then ?_)
        refine G_cond_f rfl (decide_eq_false (by omega)) ?_
        refine G_skip (X_then (G_seq (G_region ?_)))
        refine G_val (V_move rfl rfl) rfl rfl (.none rfl) ?_
        refine G_val (V_move rfl rfl) rfl rfl (.none rfl) ?_
        refine G_val (V_sub_i64 rfl rfl rfl (by omega) (by omega)) rfl rfl (.none rfl) ?_
        refine G_val (V_shl rfl rfl rfl (by omega)) rfl rfl (.none rfl) ?_
        refine G_val (V_or rfl rfl rfl) rfl rfl (.none rfl) ?_
        refine G_val (V_assign rfl rfl) rfl rfl (.none rfl) ?_
        refine G_end (X_then (G_seq (G_region ?_)))
        refine G_val (V_move rfl rfl) rfl rfl (.none rfl) ?_
        refine G_val (V_move rfl rfl) rfl rfl (.none rfl) ?_
        refine G_val (V_sub_i64 rfl rfl rfl (by omega) (by omega)) rfl rfl (.none rfl) ?_
        refine G_val (V_idxAddr rfl rfl rfl (SlE.rd (by assumption)) (by omega) (by omega)) rfl rfl (.none rfl) ?_
        refine G_val (V_loadS rfl rfl (SlE.rd (by assumption)) (by assumption) (by simp)) rfl rfl (.none rfl) ?_
        refine G_val (V_not rfl rfl) rfl rfl (.none rfl) ?_
        refine G_end (X_then ?_)
        refine G_cond_t rfl (by kernel_rfl) ?_
        refine G_exit ?_
        refine X_block_miss rfl ?_
        refine X_then_exit (X_then_exit (X_block_hit (X_then (G_seq (G_region ?_)))))
        refine G_val (V_move rfl rfl) rfl rfl (.none rfl) ?_
        refine G_val (V_assign rfl rfl) rfl rfl (.none rfl) ?_
        refine G_end (X_then (G_ret ?_))
        refine G_leaveS (.drop _ (.nil _)) (by exact (.cons (.tmp rfl) (.nil))) rfl ?_ ?_
        · exact (.refl _)
        exact ⟨rfl, rfl⟩
  · rw [List.drop_of_length_le (by omega)] at hb
    have hb2 : byS (nullM g) rows[p].2.2.2 = u := by rw [hb]; simp [byS]
    rw [hb2]
    refine G_seq (G_region ?_)
    refine G_val (V_lss rfl rfl rfl) rfl rfl (.none rfl) ?_
    refine G_end (X_then (G_seq ?_))
    refine G_cond_f rfl (decide_eq_false (by omega)) ?_
    refine G_exit (X_then_exit (X_then_exit (X_block_hit (X_then (G_seq (G_region ?_))))))
    refine G_val (V_move rfl rfl) rfl rfl (.none rfl) ?_
    refine G_val (V_assign rfl rfl) rfl rfl (.none rfl) ?_
    refine G_end (X_then (G_ret ?_))
    refine G_leaveS (.drop _ (.nil _)) (by exact (.cons (.tmp rfl) (.nil))) rfl ?_ ?_
    · exact (.refl _)
    exact ⟨rfl, rfl⟩
end
end Go.Proofs.Ytaoinojdijbhaaa
