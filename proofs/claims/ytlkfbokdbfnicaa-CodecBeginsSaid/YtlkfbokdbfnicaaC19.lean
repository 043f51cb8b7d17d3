import Derived.Test.YtlkfbokdbfnicaaSep17
import Derived.Test.YtlkfbokdbfnicaaInst
import Derived.Test.YtlkfbokdbfnicaaC18
set_option linter.unusedSimpArgs false
set_option linter.unusedVariables false
set_option maxHeartbeats 2000000
set_option maxRecDepth 20000
namespace Go.Proofs.Ytlkfbokdbfnicaa
open Go.RowKit

theorem Begins5_call (E : Env) (L : List Res) (s : List UInt8) (m : Int) :
    CallV Try.prog 3 #[.string (S s), .int .i64 m] E L (.bool true) := by
  refine CallS.toV (CallS.intro (l := [.string (S s), .int .i64 m]) _ Try.func3 rfl Try.ntmps3 rfl ?_)
  by_cases hb : 30 < s.length ∨ m < 0 ∨ 700 < m
  · refine G_seq ?_
    refine G_region ?_
    refine G_val (V_assign rfl rfl) rfl rfl (.none rfl) ?_
    refine G_end ?_
    refine X_then ?_
    refine G_seq ?_
    refine G_seq ?_
    refine G_region ?_
    refine G_val (V_move rfl rfl) rfl rfl (.none rfl) ?_
    refine G_val (V_len rfl rfl) rfl rfl (.none rfl) ?_
    refine G_val (V_gtr rfl rfl rfl) rfl rfl (.none rfl) ?_
    refine G_val (V_move rfl rfl) rfl rfl (.none rfl) ?_
    apply G_joinOr 3 10 13 rfl
    · intro H1
      dsimp only [List.take]
      simp only [Bool.and_eq_true, Bool.or_eq_true, Bool.not_eq_true', Bool.not_eq_false', Bool.and_eq_false_iff, Bool.or_eq_false_iff, Bool.not_not, decide_eq_true_eq, decide_eq_false_iff_not, ne_eq, Decidable.not_not, Bool.decide_eq_true] at H1
      refine G_stay (.no rfl rfl rfl rfl) rfl rfl ?_
      refine G_stay (.no rfl rfl rfl rfl) rfl rfl ?_
      refine G_val (V_pick_t rfl rfl rfl) rfl rfl (.none rfl) ?_
      refine G_end ?_
      exact JQ_end 3 rfl rfl (by kernel_rfl)
    · intro H2
      dsimp only [List.take]
      simp only [Bool.and_eq_true, Bool.or_eq_true, Bool.not_eq_true', Bool.not_eq_false', Bool.and_eq_false_iff, Bool.or_eq_false_iff, Bool.not_not, decide_eq_true_eq, decide_eq_false_iff_not, ne_eq, Decidable.not_not, Bool.decide_eq_true] at H2
      refine G_val (V_move rfl rfl) rfl rfl (.yes rfl rfl rfl rfl) ?_
      refine G_val (V_lss rfl rfl rfl) rfl rfl (.yes rfl rfl rfl rfl) ?_
      refine G_val (V_pick_f rfl rfl rfl) rfl rfl (.none rfl) ?_
      refine G_end ?_
      exact JQ_end 3 rfl rfl (by kernel_rfl)
    dsimp only [List.drop]
    refine G_val (V_move rfl rfl) rfl rfl (.none rfl) ?_
    apply G_joinOr 3 14 17 rfl
    · intro H3
      dsimp only [List.take]
      simp only [Bool.and_eq_true, Bool.or_eq_true, Bool.not_eq_true', Bool.not_eq_false', Bool.and_eq_false_iff, Bool.or_eq_false_iff, Bool.not_not, decide_eq_true_eq, decide_eq_false_iff_not, ne_eq, Decidable.not_not, Bool.decide_eq_true] at H3
      refine G_stay (.no rfl rfl rfl rfl) rfl rfl ?_
      refine G_stay (.no rfl rfl rfl rfl) rfl rfl ?_
      refine G_val (V_pick_t rfl rfl rfl) rfl rfl (.none rfl) ?_
      refine G_end ?_
      exact JQ_end 3 rfl rfl (by kernel_rfl)
    · intro H4
      dsimp only [List.take]
      simp only [Bool.and_eq_true, Bool.or_eq_true, Bool.not_eq_true', Bool.not_eq_false', Bool.and_eq_false_iff, Bool.or_eq_false_iff, Bool.not_not, decide_eq_true_eq, decide_eq_false_iff_not, ne_eq, Decidable.not_not, Bool.decide_eq_true] at H4
      refine G_val (V_move rfl rfl) rfl rfl (.yes rfl rfl rfl rfl) ?_
      refine G_val (V_gtr rfl rfl rfl) rfl rfl (.yes rfl rfl rfl rfl) ?_
      refine G_val (V_pick_f rfl rfl rfl) rfl rfl (.none rfl) ?_
      refine G_end ?_
      exact JQ_end 3 rfl rfl (by kernel_rfl)
    dsimp only [List.drop]
    refine G_end ?_
    refine X_then ?_
    refine G_cond rfl (fun H5 => ?_) (fun H5 => ?_)
    · simp only [Bool.and_eq_true, Bool.or_eq_true, Bool.not_eq_true', Bool.not_eq_false', Bool.and_eq_false_iff, Bool.or_eq_false_iff, Bool.not_not, decide_eq_true_eq, decide_eq_false_iff_not, ne_eq, Decidable.not_not, Bool.decide_eq_true] at H5
      refine G_seq ?_
      refine G_region ?_
      refine G_callv (k := 12) (.mk rfl rfl rfl rfl) rfl rfl (.none rfl) (awake5_call _ _) ?_
      refine G_val (V_assign rfl rfl) rfl rfl (.none rfl) ?_
      refine G_end ?_
      refine X_then ?_
      refine G_ret ?_
      refine X_then_ret ?_
      refine G_leaveS (.nil _) (by exact (.cons (.tmp rfl) (.nil))) rfl ?_ ?_
      · exact (.refl _)
      exact ⟨(by kernel_rfl), rfl⟩
    simp only [Bool.and_eq_true, Bool.or_eq_true, Bool.not_eq_true', Bool.not_eq_false', Bool.and_eq_false_iff, Bool.or_eq_false_iff, Bool.not_not, decide_eq_true_eq, decide_eq_false_iff_not, ne_eq, Decidable.not_not, Bool.decide_eq_true] at H5
    (exfalso; omega)
  obtain ⟨M, rfl⟩ : ∃ M : Nat, m = M := ⟨m.toNat, by omega⟩
  refine G_seq ?_
  refine G_region ?_
  refine G_val (V_assign rfl rfl) rfl rfl (.none rfl) ?_
  refine G_end ?_
  refine X_then ?_
  refine G_seq ?_
  refine G_seq ?_
  refine G_region ?_
  refine G_val (V_move rfl rfl) rfl rfl (.none rfl) ?_
  refine G_val (V_len rfl rfl) rfl rfl (.none rfl) ?_
  refine G_val (V_gtr rfl rfl rfl) rfl rfl (.none rfl) ?_
  refine G_val (V_move rfl rfl) rfl rfl (.none rfl) ?_
  refine G.bool_f 10 rfl (decide_eq_false (by omega)) ?_
  refine G_val (V_move rfl rfl) rfl rfl (.yes rfl rfl rfl rfl) ?_
  refine G_val (V_lss rfl rfl rfl) rfl rfl (.yes rfl rfl rfl rfl) ?_
  refine G_val (V_pick_f rfl rfl rfl) rfl rfl (.none rfl) ?_
  refine G_val (V_move rfl rfl) rfl rfl (.none rfl) ?_
  refine G.bool_f 14 rfl (decide_eq_false (by omega)) ?_
  refine G_val (V_move rfl rfl) rfl rfl (.yes rfl rfl rfl rfl) ?_
  refine G_val (V_gtr rfl rfl rfl) rfl rfl (.yes rfl rfl rfl rfl) ?_
  refine G_val (V_pick_f rfl rfl rfl) rfl rfl (.none rfl) ?_
  refine G_end ?_
  refine X_then ?_
  refine G_cond_f rfl (decide_eq_false (by omega)) ?_
  refine G_skip ?_
  refine X_then ?_
  refine G_seq ?_
  refine G_region ?_
  refine G_val (V_assign rfl rfl) rfl rfl (.none rfl) ?_
  refine G_end ?_
  refine X_then ?_
  refine G_seq ?_
  refine G_seq ?_
  refine G_region ?_
  refine G_val (V_assign rfl rfl) rfl rfl (.none rfl) ?_
  refine G_end ?_
  refine X_then ?_
  refine G_block ?_
  refine G_loop (α := Nat × List UInt8) (fun x => [(0, .string (S s)), (1, .int .i64 M), (5, .string (S x.2)), (6, .int .i64 x.1)]) (fun _ => E) (fun _ => L)
    (fun x => x.1 ≤ M ∧ x.2.length ≤ 30 * x.1) (fun x => M - x.1) (0, []) ⟨Nat.zero_le _, by simp⟩ ⟨rfl, rfl, rfl, rfl, trivial⟩ rfl rfl ?_
  rintro ⟨k, t⟩ ⟨hk, ht⟩
  simp only at hk ht ⊢
  by_cases hlt : k < M
  · refine G_seq ?_
    refine G_seq ?_
    refine G_region ?_
    refine G_val (V_move rfl rfl) rfl rfl (.none rfl) ?_
    refine G_val (V_move rfl rfl) rfl rfl (.none rfl) ?_
    refine G_val (V_lss rfl rfl rfl) rfl rfl (.none rfl) ?_
    refine G_end ?_
    refine X_then ?_
    refine G_cond_t rfl (decide_eq_true (by omega)) ?_
    refine G_skip ?_
    refine X_then ?_
    refine G_seq ?_
    refine G_block ?_
    refine G_region ?_
    refine G_val (V_move rfl rfl) rfl rfl (.none rfl) ?_
    refine G_val (V_move rfl rfl) rfl rfl (.none rfl) ?_
    refine G_val (V_cat rfl rfl rfl (by omega)) rfl rfl (.none rfl) ?_
    refine G_val (V_assign rfl rfl) rfl rfl (.none rfl) ?_
    refine G_end ?_
    refine X_block ?_
    refine X_then ?_
    refine G_region ?_
    refine G_val (V_move rfl rfl) rfl rfl (.none rfl) ?_
    refine G_val (V_add_i64 rfl rfl rfl (by omega) (by omega)) rfl rfl (.none rfl) ?_
    refine G_val (V_assign rfl rfl) rfl rfl (.none rfl) ?_
    refine G_end ?_
    refine X_then ?_
    exact G_again (k + 1, t ++ s) ⟨hlt, by simp only [List.length_append]; omega⟩ (by simp only; omega) ⟨rfl, rfl, rfl, rfl, trivial⟩ rfl rfl
  · refine G_seq ?_
    refine G_seq ?_
    refine G_region ?_
    refine G_val (V_move rfl rfl) rfl rfl (.none rfl) ?_
    refine G_val (V_move rfl rfl) rfl rfl (.none rfl) ?_
    refine G_val (V_lss rfl rfl rfl) rfl rfl (.none rfl) ?_
    refine G_end ?_
    refine X_then ?_
    refine G_cond_f rfl (decide_eq_false (by omega)) ?_
    refine G_exit ?_
    refine X_then_exit ?_
    refine X_then_exit ?_
    refine X_block_hit ?_
    refine X_then ?_
    refine G_seq ?_
    refine G_region ?_
    refine G_val (V_move rfl rfl) rfl rfl (.none rfl) ?_
    refine G_callv (k := 13) (.mk rfl rfl rfl rfl) rfl rfl (.none rfl) (Read_codec_call _ _ _ (by first | assumption | exact SlE.toI (by assumption) rfl | exact SlE.toS (by assumption) rfl | omega | (simp; omega) | (simp; done))) ?_
    dsimp only [Go.Proofs.Ytlkfbokdbfnicaa.Rdr.v]
    refine G_val (V_move rfl rfl) rfl rfl (.none rfl) ?_
    refine G_callv (k := 14) (.mk rfl rfl rfl rfl) rfl rfl (.none rfl) (Read_ref5_call _ _ _ (by first | assumption | exact SlE.toI (by assumption) rfl | exact SlE.toS (by assumption) rfl | omega | (simp; omega) | (simp; done))) ?_
    dsimp only [Go.Proofs.Ytlkfbokdbfnicaa.Rdr.v]
    refine G_val (V_aeql_27 rfl rfl rfl) rfl rfl (.none rfl) ?_
    refine G_val (V_move rfl rfl) rfl rfl (.none rfl) ?_
    refine G.bool_t 32 rfl (by simp [*]; done) ?_
    refine G_callv (k := 12) (.mk rfl rfl rfl rfl) rfl rfl (.yes rfl rfl rfl rfl) (awake5_call _ _) ?_
    refine G_val (V_pick_t rfl rfl rfl) rfl rfl (.none rfl) ?_
    refine G_val (V_assign rfl rfl) rfl rfl (.none rfl) ?_
    refine G_end ?_
    refine X_then ?_
    refine G_ret ?_
    refine G_leaveS (.nil _) (by exact (.cons (.tmp rfl) (.nil))) rfl ?_ ?_
    · exact (.refl _)
    exact ⟨(by kernel_rfl), rfl⟩
end Go.Proofs.Ytlkfbokdbfnicaa
