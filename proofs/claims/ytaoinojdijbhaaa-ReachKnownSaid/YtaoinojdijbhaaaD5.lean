import Derived.Test.YtaoinojdijbhaaaSep19
import Derived.Test.YtaoinojdijbhaaaSep20
import Derived.Test.YtaoinojdijbhaaaSep21
import Derived.Test.YtaoinojdijbhaaaSep22
import Derived.Test.YtaoinojdijbhaaaSep23
import Derived.Test.YtaoinojdijbhaaaSep24
import Derived.Test.YtaoinojdijbhaaaInst
import Derived.Test.YtaoinojdijbhaaaD4
set_option linter.unusedSimpArgs false
set_option linter.unusedVariables false
set_option maxHeartbeats 2000000
set_option maxRecDepth 20000
namespace Go.Proofs.Ytaoinojdijbhaaa
open Go.RowKit
def encC : Option Nat → Int
  | none => 9223372036854775807
  | some c => c
def bools (l : List Bool) : List Value := l.map fun b => .bool b
theorem bools_len (l : List Bool) : (bools l).length = l.length := List.length_map _
theorem take_set {α : Type} {l : List α} {n i : Nat} (z : α) (hl : l.length = n) (h : i < n) : (l.take i ++ List.replicate (n - i) z).set i (l[i]'(by omega)) = l.take (i + 1) ++ List.replicate (n - (i + 1)) z := by
  have e : n - i = (n - (i + 1)) + 1 := by omega
  have e2 : (l.take i).length = i := by rw [List.length_take]; omega
  rw [e, List.set_append_right _ _ (by omega), e2, Nat.sub_self, List.replicate_succ, List.set_cons_zero, List.take_succ_eq_append_getElem (by omega), List.append_assoc]
  rfl
theorem take_keep {α : Type} {l : List α} {n i : Nat} {z : α} (hl : l.length = n) (h : i < n) (hz : l[i]'(by omega) = z) : l.take i ++ List.replicate (n - i) z = l.take (i + 1) ++ List.replicate (n - (i + 1)) z := by
  have e : n - i = (n - (i + 1)) + 1 := by omega
  rw [e, List.replicate_succ, List.take_succ_eq_append_getElem (by omega), List.append_assoc, hz]
  rfl
theorem take_fill_len {α : Type} {l : List α} {n i : Nat} (z : α) (hl : l.length = n) (h : i ≤ n) : (l.take i ++ List.replicate (n - i) z).length = n := by simp; omega
section
variable (E : Env) (L : List Res)
theorem sum_call (x y : Option Nat) (hx : ∀ c, x = some c → c ≤ 1000000000000000000) (hy : ∀ c, y = some c → c ≤ 1000000000000000000) : CallV Try.prog 113 #[.int .i64 (encC x), .int .i64 (encC y)] E L (.int .i64 (encC (addO x y))) := by
  cases x with
  | none =>
    have e : encC (addO none y) = 9223372036854775807 := rfl
    rw [e]
    simp only [encC]
    refine CallS.toV (CallS.intro (l := [_, _]) _ Try.func113 rfl Try.ntmps113 rfl ?_)
    refine G_seq (G_region ?_)
    refine G_val (V_assign rfl rfl) rfl rfl (.none rfl) ?_
    refine G_end (X_then (G_seq (G_seq (G_region ?_))))
    refine G_val (V_move rfl rfl) rfl rfl (.none rfl) ?_
    refine G_val (V_eql rfl rfl rfl) rfl rfl (.none rfl) ?_
    refine G_val (V_move rfl rfl) rfl rfl (.none rfl) ?_
    refine G.bool_t 7 rfl (by kernel_rfl) ?_
    refine G_stay (.no rfl rfl rfl rfl) rfl rfl ?_
    refine G_stay (.no rfl rfl rfl rfl) rfl rfl ?_
    refine G_val (V_pick_t rfl rfl rfl) rfl rfl (.none rfl) ?_
    refine G_val (V_move rfl rfl) rfl rfl (.none rfl) ?_
    refine G_stay (.no rfl rfl rfl rfl) rfl rfl ?_
    refine G_stay (.no rfl rfl rfl rfl) rfl rfl ?_
    refine G_stay (.no rfl rfl rfl rfl) rfl rfl ?_
    refine G_stay (.no rfl rfl rfl rfl) rfl rfl ?_
    refine G_val (V_pick_t rfl rfl rfl) rfl rfl (.none rfl) ?_
    refine G_end (X_then ?_)
    refine G_cond_t rfl rfl ?_
    refine G_seq (G_region ?_)
    refine G_val (V_assign rfl rfl) rfl rfl (.none rfl) ?_
    refine G_end (X_then (G_ret (X_then_ret ?_)))
    refine G_leaveS (.nil _) (by exact (.cons (.tmp rfl) (.nil))) rfl ?_ ?_
    · exact (.refl _)
    exact ⟨(by kernel_rfl), rfl⟩
  | some a =>
    have ha := hx a rfl
    cases y with
    | none =>
      have e : encC (addO (some a) none) = 9223372036854775807 := rfl
      rw [e]
      simp only [encC]
      refine CallS.toV (CallS.intro (l := [_, _]) _ Try.func113 rfl Try.ntmps113 rfl ?_)
      refine G_seq (G_region ?_)
      refine G_val (V_assign rfl rfl) rfl rfl (.none rfl) ?_
      refine G_end (X_then (G_seq (G_seq (G_region ?_))))
      refine G_val (V_move rfl rfl) rfl rfl (.none rfl) ?_
      refine G_val (V_eql rfl rfl rfl) rfl rfl (.none rfl) ?_
      refine G_val (V_move rfl rfl) rfl rfl (.none rfl) ?_
      refine G.bool_f 7 rfl (decide_eq_false (by omega)) ?_
      refine G_val (V_move rfl rfl) rfl rfl (.yes rfl rfl rfl rfl) ?_
      refine G_val (V_eql rfl rfl rfl) rfl rfl (.yes rfl rfl rfl rfl) ?_
      refine G_val (V_pick_f rfl rfl rfl) rfl rfl (.none rfl) ?_
      refine G_val (V_move rfl rfl) rfl rfl (.none rfl) ?_
      refine G.bool_t 11 rfl (by kernel_rfl) ?_
      refine G_stay (.no rfl rfl rfl rfl) rfl rfl ?_
      refine G_stay (.no rfl rfl rfl rfl) rfl rfl ?_
      refine G_stay (.no rfl rfl rfl rfl) rfl rfl ?_
      refine G_stay (.no rfl rfl rfl rfl) rfl rfl ?_
      refine G_val (V_pick_t rfl rfl rfl) rfl rfl (.none rfl) ?_
      refine G_end (X_then ?_)
      refine G_cond_t rfl rfl ?_
      refine G_seq (G_region ?_)
      refine G_val (V_assign rfl rfl) rfl rfl (.none rfl) ?_
      refine G_end (X_then (G_ret (X_then_ret ?_)))
      refine G_leaveS (.nil _) (by exact (.cons (.tmp rfl) (.nil))) rfl ?_ ?_
      · exact (.refl _)
      exact ⟨(by kernel_rfl), rfl⟩
    | some b =>
      have hb := hy b rfl
      have e : encC (addO (some a) (some b)) = (a : Int) + b := by simp [encC, addO]
      rw [e]
      simp only [encC]
      refine CallS.toV (CallS.intro (l := [_, _]) _ Try.func113 rfl Try.ntmps113 rfl ?_)
      refine G_seq (G_region ?_)
      refine G_val (V_assign rfl rfl) rfl rfl (.none rfl) ?_
      refine G_end (X_then (G_seq (G_seq (G_region ?_))))
      refine G_val (V_move rfl rfl) rfl rfl (.none rfl) ?_
      refine G_val (V_eql rfl rfl rfl) rfl rfl (.none rfl) ?_
      refine G_val (V_move rfl rfl) rfl rfl (.none rfl) ?_
      refine G.bool_f 7 rfl (decide_eq_false (by omega)) ?_
      refine G_val (V_move rfl rfl) rfl rfl (.yes rfl rfl rfl rfl) ?_
      refine G_val (V_eql rfl rfl rfl) rfl rfl (.yes rfl rfl rfl rfl) ?_
      refine G_val (V_pick_f rfl rfl rfl) rfl rfl (.none rfl) ?_
      refine G_val (V_move rfl rfl) rfl rfl (.none rfl) ?_
      refine G.bool_f 11 rfl (decide_eq_false (by omega)) ?_
      refine G_val (V_move rfl rfl) rfl rfl (.yes rfl rfl rfl rfl) ?_
      refine G_val (V_move rfl rfl) rfl rfl (.yes rfl rfl rfl rfl) ?_
      refine G_val (V_sub_i64 rfl rfl rfl (by omega) (by omega)) rfl rfl (.yes rfl rfl rfl rfl) ?_
      refine G_val (V_gtr rfl rfl rfl) rfl rfl (.yes rfl rfl rfl rfl) ?_
      refine G_val (V_pick_f rfl rfl rfl) rfl rfl (.none rfl) ?_
      refine G_end (X_then ?_)
      refine G_cond_f rfl (decide_eq_false (by omega)) ?_
      refine G_skip (X_then (G_seq (G_region ?_)))
      refine G_val (V_move rfl rfl) rfl rfl (.none rfl) ?_
      refine G_val (V_move rfl rfl) rfl rfl (.none rfl) ?_
      refine G_val (V_add_i64 rfl rfl rfl (by omega) (by omega)) rfl rfl (.none rfl) ?_
      refine G_val (V_assign rfl rfl) rfl rfl (.none rfl) ?_
      refine G_end (X_then (G_ret ?_))
      refine G_leaveS (.nil _) (by exact (.cons (.tmp rfl) (.nil))) rfl ?_ ?_
      · exact (.refl _)
      exact ⟨rfl, rfl⟩
theorem i64s_at {l : List Int} {i : Nat} (h : i < l.length) : (i64s l)[i]? = some (.int .i64 l[i]) := by simp [i64s, h]
theorem which_call (p : Option Addr) (n c : Nat) (xs : List Int) (hx : SlE E 1 p n (i64s xs)) (hn : n ≤ 1000) : CallS Try.prog 80 #[.slice p n c] E L (fun r E' L' => ∃ b, r = .slice (some ⟨b, 0, none⟩) n n ∧ SlE E' 1 (some ⟨b, 0, none⟩) n (bools (xs.map fun c => decide (c ≠ 9223372036854775807))) ∧ L' = L) := by
  have e1 : n = xs.length := by have := hx.1; simp [i64s] at this; exact this.symm
  subst e1
  refine CallS.intro (l := [_]) _ Try.func80 rfl Try.ntmps80 rfl ?_
  refine G_seq (G_region ?_)
  refine G_val (V_assign rfl rfl) rfl rfl (.none rfl) ?_
  refine G_end (X_then (G_seq (G_region ?_)))
  refine G_val (V_move rfl rfl) rfl rfl (.none rfl) ?_
  refine G_val (V_lenS rfl rfl) rfl rfl (.none rfl) ?_
  refine G_call (k := 110) (.mk rfl rfl rfl rfl) rfl rfl (.none rfl) (filledB_call _ _ _ _ (by assumption)) ?_
  rintro r1 E2 L3 hE4 ⟨z5, ⟨rfl, ⟨rfl, rfl⟩⟩⟩
  replace hx := hx.mono hE4
  refine G_val (V_assign rfl rfl) rfl rfl (.none rfl) ?_
  refine G_end (X_then (G_seq (G_seq (G_region ?_))))
  refine G_val (V_move rfl rfl) rfl rfl (.none rfl) ?_
  refine G_val (V_lenS rfl rfl) rfl rfl (.none rfl) ?_
  refine G_val (V_move rfl rfl) rfl rfl (.none rfl) ?_
  refine G_end (X_then (G_block ?_))
  have hl : (bools (xs.map fun c => decide (c ≠ 9223372036854775807))).length = xs.length := by simp [bools]
  refine G_loop (α := Nat) (fun i => [(3, .slice (some ⟨z5, 0, none⟩) xs.length xs.length), (9, .slice p xs.length c), (10, .int .i64 xs.length), (11, .int .i64 i)]) (fun _ => E) (fun i => .blk z5 (.cells ((bools (xs.map fun c => decide (c ≠ 9223372036854775807))).take i ++ List.replicate (xs.length - i) (Value.bool false)).toArray 4 (0, 0)) :: L)
    (fun i => i ≤ xs.length) (fun i => xs.length - i) 0 (Nat.zero_le _) ⟨rfl, rfl, rfl, rfl, trivial⟩ rfl (by simp) ?_
  intro i hi
  have hlen := take_fill_len (Value.bool false) hl hi
  by_cases hlt : i < xs.length
  · have hy := i64s_at hlt
    have hs := take_set (Value.bool false) hl hlt
    have hg : (bools (xs.map fun c => decide (c ≠ 9223372036854775807)))[i]'(by omega) = .bool (decide (xs[i] ≠ 9223372036854775807)) := by simp [bools]
    rw [hg] at hs
    refine G_seq (G_region ?_)
    refine G_val (V_lss rfl rfl rfl) rfl rfl (.none rfl) ?_
    refine G_end (X_then (G_seq ?_))
    refine G_cond_t rfl (decide_eq_true (by omega)) ?_
    refine G_skip (X_then (G_seq (G_block (G_seq (G_region ?_)))))
    refine G_val (V_move rfl rfl) rfl rfl (.none rfl) ?_
    refine G_val (V_idxAddr rfl rfl rfl (SlE.rd (by assumption)) (by omega) (by omega)) rfl rfl (.none rfl) ?_
    refine G_val (V_loadS rfl rfl (SlE.rd (by assumption)) (by assumption) (by simp)) rfl rfl (.none rfl) ?_
    refine G_val (V_assign rfl rfl) rfl rfl (.none rfl) ?_
    refine G_val (V_assign rfl rfl) rfl rfl (.none rfl) ?_
    refine G_end (X_then (G_region ?_))
    refine G_val (V_move rfl rfl) rfl rfl (.none rfl) ?_
    refine G_val (V_move rfl rfl) rfl rfl (.none rfl) ?_
    refine G_val (V_move rfl rfl) rfl rfl (.none rfl) ?_
    refine G_val (V_neq rfl rfl rfl) rfl rfl (.none rfl) ?_
    refine G_val (V_idxB1n rfl rfl rfl (by omega)) rfl rfl (.none rfl) ?_
    refine G_storeB rfl rfl rfl rfl rfl rfl (.none rfl) (.head _ _ _) (by omega) ?_
    refine G_end (X_block (X_then (G_region ?_)))
    refine G_val (V_add_i64 rfl rfl rfl (by omega) (by omega)) rfl rfl (.none rfl) ?_
    refine G_val (V_move rfl rfl) rfl rfl (.none rfl) ?_
    refine G_end (X_then ?_)
    rw [hs]
    exact G_again (i + 1) hlt (by omega) ⟨rfl, rfl, rfl, rfl, trivial⟩ rfl rfl
  · have e : xs.length - i = 0 := by omega
    have e2 : i = xs.length := by omega
    subst e2
    rw [e, List.replicate_zero, List.append_nil, List.take_of_length_le (by omega)]
    refine G.freezeB (.head _ _) (k := xs.length) (sz := 1) (by rw [hl, Nat.mul_one]) ?_
    intro E1 hE1 hs1
    refine G_seq (G_region ?_)
    refine G_val (V_lss rfl rfl rfl) rfl rfl (.none rfl) ?_
    refine G_end (X_then (G_seq ?_))
    refine G_cond_f rfl (decide_eq_false (by omega)) ?_
    refine G_exit (X_then_exit (X_then_exit (X_block_hit (X_then (G_seq (G_region ?_))))))
    refine G_val (V_move rfl rfl) rfl rfl (.none rfl) ?_
    refine G_val (V_assign rfl rfl) rfl rfl (.none rfl) ?_
    refine G_end (X_then (G_ret ?_))
    refine G_leaveS (.nil _) (by exact (.cons (.tmp rfl) (.nil))) rfl ?_ ?_
    · exact hE1
    exact ⟨_, ⟨rfl, ⟨(by assumption), rfl⟩⟩⟩
    
theorem chosen_call (p : Option Addr) (n c : Nat) (xs : List Int) (o : Int) (hx : SlE E 1 p n (i64s xs)) (hn : n ≤ 1000) : CallS Try.prog 86 #[.slice p n c, .int .i64 o] E L (fun r E' L' => ∃ b, r = .slice (some ⟨b, 0, none⟩) n n ∧ SlE E' 1 (some ⟨b, 0, none⟩) n (i64s (xs.map fun c => if c = 9223372036854775807 then o else c)) ∧ L' = L) := by
  have e1 : n = xs.length := by have := hx.1; simp [i64s] at this; exact this.symm
  subst e1
  refine CallS.intro (l := [_, _]) _ Try.func86 rfl Try.ntmps86 rfl ?_
  refine G_seq (G_region ?_)
  refine G_val (V_assign rfl rfl) rfl rfl (.none rfl) ?_
  refine G_end (X_then (G_seq (G_region ?_)))
  refine G_val (V_move rfl rfl) rfl rfl (.none rfl) ?_
  refine G_val (V_lenS rfl rfl) rfl rfl (.none rfl) ?_
  refine G_val (V_move rfl rfl) rfl rfl (.none rfl) ?_
  refine G_call (k := 114) (.mk rfl rfl rfl rfl) rfl rfl (.none rfl) (filledI_call _ _ _ _ (by assumption)) ?_
  rintro r1 E2 L3 hE4 ⟨z5, ⟨rfl, ⟨rfl, rfl⟩⟩⟩
  replace hx := hx.mono hE4
  refine G_val (V_assign rfl rfl) rfl rfl (.none rfl) ?_
  refine G_end (X_then (G_seq (G_seq (G_region ?_))))
  refine G_val (V_move rfl rfl) rfl rfl (.none rfl) ?_
  refine G_val (V_lenS rfl rfl) rfl rfl (.none rfl) ?_
  refine G_val (V_move rfl rfl) rfl rfl (.none rfl) ?_
  refine G_end (X_then (G_block ?_))
  have hl : (i64s (xs.map fun c => if c = 9223372036854775807 then o else c)).length = xs.length := by simp [i64s]
  refine G_loop (α := Nat) (fun i => [(5, .slice (some ⟨z5, 0, none⟩) xs.length xs.length), (12, .slice p xs.length c), (13, .int .i64 xs.length), (14, .int .i64 i)]) (fun _ => E) (fun i => .blk z5 (.cells ((i64s (xs.map fun c => if c = 9223372036854775807 then o else c)).take i ++ List.replicate (xs.length - i) (Value.int .i64 o)).toArray 3 (0, 0)) :: L)
    (fun i => i ≤ xs.length) (fun i => xs.length - i) 0 (Nat.zero_le _) ⟨rfl, rfl, rfl, rfl, trivial⟩ rfl (by simp) ?_
  intro i hi
  have hlen := take_fill_len (Value.int .i64 o) hl hi
  by_cases hlt : i < xs.length
  · have hy := i64s_at hlt
    have hs := take_set (Value.int .i64 o) hl hlt
    have hg : (i64s (xs.map fun c => if c = 9223372036854775807 then o else c))[i]'(by omega) = .int .i64 (if xs[i] = 9223372036854775807 then o else xs[i]) := by simp [i64s]
    by_cases hn0 : xs[i] = 9223372036854775807
    · rw [if_pos hn0] at hg
      have hk := take_keep hl hlt hg
      refine G_seq (G_region ?_)
      refine G_val (V_lss rfl rfl rfl) rfl rfl (.none rfl) ?_
      refine G_end (X_then (G_seq ?_))
      refine G_cond_t rfl (decide_eq_true (by omega)) ?_
      refine G_skip (X_then (G_seq (G_block (G_seq (G_region ?_)))))
      refine G_val (V_move rfl rfl) rfl rfl (.none rfl) ?_
      refine G_val (V_idxAddr rfl rfl rfl (SlE.rd (by assumption)) (by omega) (by omega)) rfl rfl (.none rfl) ?_
      refine G_val (V_loadS rfl rfl (SlE.rd (by assumption)) (by assumption) (by simp)) rfl rfl (.none rfl) ?_
      refine G_val (V_assign rfl rfl) rfl rfl (.none rfl) ?_
      refine G_val (V_assign rfl rfl) rfl rfl (.none rfl) ?_
      refine G_end (X_then (G_seq (G_region ?_)))
      refine G_val (V_move rfl rfl) rfl rfl (.none rfl) ?_
      refine G_val (V_neq rfl rfl rfl) rfl rfl (.none rfl) ?_
      refine G_end (X_then ?_)
      refine G_cond_f rfl (decide_eq_false (by omega)) ?_
      refine G_skip (X_block (X_then (G_region ?_)))
      refine G_val (V_add_i64 rfl rfl rfl (by omega) (by omega)) rfl rfl (.none rfl) ?_
      refine G_val (V_move rfl rfl) rfl rfl (.none rfl) ?_
      refine G_end (X_then ?_)
      rw [hk]
      exact G_again (i + 1) hlt (by omega) ⟨rfl, rfl, rfl, rfl, trivial⟩ rfl rfl
    · rw [if_neg hn0] at hg
      rw [hg] at hs
      refine G_seq (G_region ?_)
      refine G_val (V_lss rfl rfl rfl) rfl rfl (.none rfl) ?_
      refine G_end (X_then (G_seq ?_))
      refine G_cond_t rfl (decide_eq_true (by omega)) ?_
      refine G_skip (X_then (G_seq (G_block (G_seq (G_region ?_)))))
      refine G_val (V_move rfl rfl) rfl rfl (.none rfl) ?_
      refine G_val (V_idxAddr rfl rfl rfl (SlE.rd (by assumption)) (by omega) (by omega)) rfl rfl (.none rfl) ?_
      refine G_val (V_loadS rfl rfl (SlE.rd (by assumption)) (by assumption) (by simp)) rfl rfl (.none rfl) ?_
      refine G_val (V_assign rfl rfl) rfl rfl (.none rfl) ?_
      refine G_val (V_assign rfl rfl) rfl rfl (.none rfl) ?_
      refine G_end (X_then (G_seq (G_region ?_)))
      refine G_val (V_move rfl rfl) rfl rfl (.none rfl) ?_
      refine G_val (V_neq rfl rfl rfl) rfl rfl (.none rfl) ?_
      refine G_end (X_then ?_)
      refine G_cond_t rfl (decide_eq_true (by omega)) ?_
      refine G_region ?_
      refine G_val (V_move rfl rfl) rfl rfl (.none rfl) ?_
      refine G_val (V_move rfl rfl) rfl rfl (.none rfl) ?_
      refine G_val (V_move rfl rfl) rfl rfl (.none rfl) ?_
      refine G_val (V_idxB1n rfl rfl rfl (by omega)) rfl rfl (.none rfl) ?_
      refine G_storeB rfl rfl rfl rfl rfl rfl (.none rfl) (.head _ _ _) (by omega) ?_
      refine G_end (X_block (X_then (G_region ?_)))
      refine G_val (V_add_i64 rfl rfl rfl (by omega) (by omega)) rfl rfl (.none rfl) ?_
      refine G_val (V_move rfl rfl) rfl rfl (.none rfl) ?_
      refine G_end (X_then ?_)
      rw [hs]
      exact G_again (i + 1) hlt (by omega) ⟨rfl, rfl, rfl, rfl, trivial⟩ rfl rfl
  · have e : xs.length - i = 0 := by omega
    have e2 : i = xs.length := by omega
    subst e2
    rw [e, List.replicate_zero, List.append_nil, List.take_of_length_le (by omega)]
    refine G.freezeB (.head _ _) (k := xs.length) (sz := 1) (by rw [hl, Nat.mul_one]) ?_
    intro E1 hE1 hs1
    refine G_seq (G_region ?_)
    refine G_val (V_lss rfl rfl rfl) rfl rfl (.none rfl) ?_
    refine G_end (X_then (G_seq ?_))
    refine G_cond_f rfl (decide_eq_false (by omega)) ?_
    refine G_exit (X_then_exit (X_then_exit (X_block_hit (X_then (G_seq (G_region ?_))))))
    refine G_val (V_move rfl rfl) rfl rfl (.none rfl) ?_
    refine G_val (V_assign rfl rfl) rfl rfl (.none rfl) ?_
    refine G_end (X_then (G_ret ?_))
    refine G_leaveS (.nil _) (by exact (.cons (.tmp rfl) (.nil))) rfl ?_ ?_
    · exact hE1
    exact ⟨_, ⟨rfl, ⟨(by assumption), rfl⟩⟩⟩
    
end
end Go.Proofs.Ytaoinojdijbhaaa
