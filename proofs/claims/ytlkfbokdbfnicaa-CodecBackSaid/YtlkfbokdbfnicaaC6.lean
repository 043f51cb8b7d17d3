import Derived.Test.YtlkfbokdbfnicaaSep17
import Derived.Test.YtlkfbokdbfnicaaInst
import Derived.Test.YtlkfbokdbfnicaaC5
import Derived.Lib.Hide
set_option linter.unusedSimpArgs false
set_option linter.unusedVariables false
set_option maxHeartbeats 2000000
set_option maxRecDepth 20000
namespace Go.Proofs.Ytlkfbokdbfnicaa
open Go.RowKit

theorem Ints1_call (E : Env) (L : List Res) (c0 c1 c2 c3 c4 b : Nat) (q : Rdr) (hq : q.s.length ≤ 20000) (h0 : q.e = 0) (hf : q.fa = 0) (ha : 0 ≤ q.at') (hl : q.at' ≤ q.s.length) (most least great : Int) (hm : most ≤ 9223372036854775807) :
    CallS Try.prog 91 #[.pointer (some ⟨c0, 0, none⟩), .pointer (some ⟨c1, 0, none⟩), .pointer (some ⟨c2, 0, none⟩), .pointer (some ⟨c3, 0, none⟩), .pointer (some ⟨c4, 0, none⟩)] E
      (RB b q :: PB c0 b :: IB c2 least :: IB c3 great :: LB c4 none 0 0 :: .sl 3 1 none 0 0 [] :: IB c1 most :: L)
      (fun _ E' L' => E = E' ∧ ∃ p' cap', L' = RB b (rints q most least great).1 :: PB c0 b :: IB c2 least :: IB c3 great :: LB c4 p' (rints q most least great).2.length cap' :: .sl 3 1 p' (rints q most least great).2.length cap' (i64s (rints q most least great).2) :: IB c1 most :: L) := by
  refine CallS.intro (l := [.pointer (some ⟨c0, 0, none⟩), .pointer (some ⟨c1, 0, none⟩), .pointer (some ⟨c2, 0, none⟩), .pointer (some ⟨c3, 0, none⟩), .pointer (some ⟨c4, 0, none⟩)]) _ Try.func91 rfl Try.ntmps91 rfl ?_
  have he := rwide_props q h0 hf ha hl
  have hs := rwide_s q
  have hs' := congrArg List.length hs
  by_cases H1 : most < 0 ∨ great < least
  · refine G_seq ?_
    refine G_region ?_
    refine G_val (V_load rfl rfl (Cell.own1 (.tail _ (.head _)))) rfl rfl (.none rfl) ?_
    refine G_val (V_nilCheck rfl rfl) rfl rfl (.none rfl) ?_
    refine G_val (V_fieldAddr rfl rfl (by decide)) rfl rfl (.none rfl) ?_
    refine G_val (V_fieldAddr rfl rfl (by decide)) rfl rfl (.none rfl) ?_
    refine G_val (V_load rfl rfl (Cell.own (.head _) rfl)) rfl rfl (.none rfl) ?_
    refine G_val (V_assign rfl rfl) rfl rfl (.none rfl) ?_
    refine G_end ?_
    refine X_then ?_
    refine G_seq ?_
    refine G_seq ?_
    refine G_region ?_
    refine G_val (V_load rfl rfl (Cell.own1 (.tail _ (.tail _ (.tail _ (.tail _ (.tail _ (.tail _ (.head _))))))))) rfl rfl (.none rfl) ?_
    refine G_val (V_lss rfl rfl rfl) rfl rfl (.none rfl) ?_
    refine G_val (V_move rfl rfl) rfl rfl (.none rfl) ?_
    apply G_joinOr 4 15 19 rfl
    · intro H2
      dsimp only [List.take]
      simp only [Bool.and_eq_true, Bool.or_eq_true, Bool.not_eq_true', Bool.not_eq_false', Bool.and_eq_false_iff, Bool.or_eq_false_iff, Bool.not_not, decide_eq_true_eq, decide_eq_false_iff_not, ne_eq, Decidable.not_not, Bool.decide_eq_true] at H2
      refine G_stay (.no rfl rfl rfl rfl) rfl rfl ?_
      refine G_stay (.no rfl rfl rfl rfl) rfl rfl ?_
      refine G_stay (.no rfl rfl rfl rfl) rfl rfl ?_
      refine G_val (V_pick_t rfl rfl rfl) rfl rfl (.none rfl) ?_
      refine G_end ?_
      exact JQ_end 4 rfl rfl (by kernel_rfl)
    · intro H3
      dsimp only [List.take]
      simp only [Bool.and_eq_true, Bool.or_eq_true, Bool.not_eq_true', Bool.not_eq_false', Bool.and_eq_false_iff, Bool.or_eq_false_iff, Bool.not_not, decide_eq_true_eq, decide_eq_false_iff_not, ne_eq, Decidable.not_not, Bool.decide_eq_true] at H3
      refine G_val (V_load rfl rfl (Cell.own1 (.tail _ (.tail _ (.head _))))) rfl rfl (.yes rfl rfl rfl rfl) ?_
      refine G_val (V_load rfl rfl (Cell.own1 (.tail _ (.tail _ (.tail _ (.head _)))))) rfl rfl (.yes rfl rfl rfl rfl) ?_
      refine G_val (V_gtr rfl rfl rfl) rfl rfl (.yes rfl rfl rfl rfl) ?_
      refine G_val (V_pick_f rfl rfl rfl) rfl rfl (.none rfl) ?_
      refine G_end ?_
      exact JQ_end 4 rfl rfl (by kernel_rfl)
    dsimp only [List.drop]
    refine G_end ?_
    refine X_then ?_
    refine G_cond_t rfl (by simp [*]; done) ?_
    refine G_seq ?_
    refine G_region ?_
    refine G_val (V_load rfl rfl (Cell.own1 (.tail _ (.head _)))) rfl rfl (.none rfl) ?_
    refine G_val (V_move rfl rfl) rfl rfl (.none rfl) ?_
    refine G_call (k := 87) (.mk rfl rfl rfl rfl) rfl rfl (.none rfl) (fails_call _ _ _ _ _ _) ?_
    rintro r4 E5 L6 hE7 ⟨rfl, ⟨rfl, rfl⟩⟩
    refine G_end ?_
    refine X_then ?_
    refine G_ret ?_
    refine X_then_ret ?_
    refine G_leaveS (.keep _ (.keep _ (.keep _ (.keep _ (.keep _ (.keep _ (.keep _ (.nil _)))))))) (by exact (.nil)) rfl ?_ ?_
    · exact (.refl _)
    exact ⟨(by first | rfl | (simp (discharger := omega) only [resVal, rints, if_pos, if_neg]; first | done | rfl) | (simp [resVal, rints, *]; done) | ((try simp only [resVal, rints]); (repeat' split) <;> first | rfl | (exfalso; omega) | (simp_all; done) | (simp_all; omega))), ⟨_, ⟨_, (by first | rfl | (simp (discharger := omega) only [resVal, rints, if_pos, if_neg]; first | done | rfl) | (simp [resVal, rints, *]; done) | ((try simp only [resVal, rints]); (repeat' split) <;> first | rfl | (exfalso; omega) | (simp_all; done) | (simp_all; omega)))⟩⟩⟩
  by_cases H2 : (rwide q).1.e ≠ 0
  · refine G_seq ?_
    refine G_region ?_
    refine G_val (V_load rfl rfl (Cell.own1 (.tail _ (.head _)))) rfl rfl (.none rfl) ?_
    refine G_val (V_nilCheck rfl rfl) rfl rfl (.none rfl) ?_
    refine G_val (V_fieldAddr rfl rfl (by decide)) rfl rfl (.none rfl) ?_
    refine G_val (V_fieldAddr rfl rfl (by decide)) rfl rfl (.none rfl) ?_
    refine G_val (V_load rfl rfl (Cell.own (.head _) rfl)) rfl rfl (.none rfl) ?_
    refine G_val (V_assign rfl rfl) rfl rfl (.none rfl) ?_
    refine G_end ?_
    refine X_then ?_
    refine G_seq ?_
    refine G_seq ?_
    refine G_region ?_
    refine G_val (V_load rfl rfl (Cell.own1 (.tail _ (.tail _ (.tail _ (.tail _ (.tail _ (.tail _ (.head _))))))))) rfl rfl (.none rfl) ?_
    refine G_val (V_lss rfl rfl rfl) rfl rfl (.none rfl) ?_
    refine G_val (V_move rfl rfl) rfl rfl (.none rfl) ?_
    refine G.bool_f 15 rfl (decide_eq_false (by omega)) ?_
    refine G_val (V_load rfl rfl (Cell.own1 (.tail _ (.tail _ (.head _))))) rfl rfl (.yes rfl rfl rfl rfl) ?_
    refine G_val (V_load rfl rfl (Cell.own1 (.tail _ (.tail _ (.tail _ (.head _)))))) rfl rfl (.yes rfl rfl rfl rfl) ?_
    refine G_val (V_gtr rfl rfl rfl) rfl rfl (.yes rfl rfl rfl rfl) ?_
    refine G_val (V_pick_f rfl rfl rfl) rfl rfl (.none rfl) ?_
    refine G_end ?_
    refine X_then ?_
    refine G_cond_f rfl (decide_eq_false (by omega)) ?_
    refine G_skip ?_
    refine X_then ?_
    refine G_seq ?_
    refine G_region ?_
    refine G_val (V_load rfl rfl (Cell.own1 (.tail _ (.head _)))) rfl rfl (.none rfl) ?_
    refine G_call (k := 88) (.mk rfl rfl rfl rfl) rfl rfl (.none rfl) (wide_call _ _ _ _ (by first | assumption | omega | (simp; omega) | (simp; done))) ?_
    rintro r1 E2 L3 hE4 ⟨rfl, ⟨rfl, rfl⟩⟩
    refine G_val (V_assign rfl rfl) rfl rfl (.none rfl) ?_
    refine G_end ?_
    refine X_then ?_
    refine G_seq ?_
    refine G_seq ?_
    refine G_region ?_
    refine G_val (V_load rfl rfl (Cell.own1 (.tail _ (.head _)))) rfl rfl (.none rfl) ?_
    refine G_val (V_nilCheck rfl rfl) rfl rfl (.none rfl) ?_
    refine G_val (V_fieldAddr rfl rfl (by decide)) rfl rfl (.none rfl) ?_
    refine G_val (V_fieldAddr rfl rfl (by decide)) rfl rfl (.none rfl) ?_
    refine G_val (V_fieldAddr rfl rfl (by decide)) rfl rfl (.none rfl) ?_
    refine G_val (V_load rfl rfl (Cell.own (.head _) rfl)) rfl rfl (.none rfl) ?_
    refine G_val (V_eql rfl rfl rfl) rfl rfl (.none rfl) ?_
    refine G_val (V_move rfl rfl) rfl rfl (.none rfl) ?_
    refine G.bool_f 32 rfl (decide_eq_false (by omega)) ?_
    refine G_stay (.no rfl rfl rfl rfl) rfl rfl ?_
    refine G_stay (.no rfl rfl rfl rfl) rfl rfl ?_
    refine G_stay (.no rfl rfl rfl rfl) rfl rfl ?_
    refine G_stay (.no rfl rfl rfl rfl) rfl rfl ?_
    refine G_val (V_pick_f rfl rfl rfl) rfl rfl (.none rfl) ?_
    refine G_end ?_
    refine X_then ?_
    refine G_cond_f rfl rfl ?_
    refine G_skip ?_
    refine X_then ?_
    refine G_seq ?_
    refine G_region ?_
    refine G_val (V_makeFunc rfl rfl rfl) rfl rfl (.none rfl) ?_
    refine G_val (V_assign rfl rfl) rfl rfl (.none rfl) ?_
    refine G_end ?_
    refine X_then ?_
    refine G_seq ?_
    refine G_seq ?_
    refine G_region ?_
    refine G_val (V_load rfl rfl (Cell.own1 (.tail _ (.head _)))) rfl rfl (.none rfl) ?_
    refine G_val (V_nilCheck rfl rfl) rfl rfl (.none rfl) ?_
    refine G_val (V_fieldAddr rfl rfl (by decide)) rfl rfl (.none rfl) ?_
    refine G_val (V_fieldAddr rfl rfl (by decide)) rfl rfl (.none rfl) ?_
    refine G_val (V_fieldAddr rfl rfl (by decide)) rfl rfl (.none rfl) ?_
    refine G_val (V_load rfl rfl (Cell.own (.head _) rfl)) rfl rfl (.none rfl) ?_
    refine G_val (V_neq rfl rfl rfl) rfl rfl (.none rfl) ?_
    refine G_end ?_
    refine X_then ?_
    refine G_cond_t rfl (decide_eq_true (by omega)) ?_
    refine G_ret ?_
    refine X_then_ret ?_
    refine G_leaveS (.keep _ (.keep _ (.keep _ (.keep _ (.keep _ (.keep _ (.keep _ (.nil _)))))))) (by exact (.nil)) rfl ?_ ?_
    · exact (.refl _)
    exact ⟨(by first | rfl | (simp (discharger := omega) only [resVal, rints, if_pos, if_neg]; first | done | rfl) | (simp [resVal, rints, *]; done) | ((try simp only [resVal, rints]); (repeat' split) <;> first | rfl | (exfalso; omega) | (simp_all; done) | (simp_all; omega))), ⟨_, ⟨_, (by first | rfl | (simp (discharger := omega) only [resVal, rints, if_pos, if_neg]; first | done | rfl) | (simp [resVal, rints, *]; done) | ((try simp only [resVal, rints]); (repeat' split) <;> first | rfl | (exfalso; omega) | (simp_all; done) | (simp_all; omega)))⟩⟩⟩
  by_cases H3 : most < ((rwide q).2 : Int)
  · refine G_seq ?_
    refine G_region ?_
    refine G_val (V_load rfl rfl (Cell.own1 (.tail _ (.head _)))) rfl rfl (.none rfl) ?_
    refine G_val (V_nilCheck rfl rfl) rfl rfl (.none rfl) ?_
    refine G_val (V_fieldAddr rfl rfl (by decide)) rfl rfl (.none rfl) ?_
    refine G_val (V_fieldAddr rfl rfl (by decide)) rfl rfl (.none rfl) ?_
    refine G_val (V_load rfl rfl (Cell.own (.head _) rfl)) rfl rfl (.none rfl) ?_
    refine G_val (V_assign rfl rfl) rfl rfl (.none rfl) ?_
    refine G_end ?_
    refine X_then ?_
    refine G_seq ?_
    refine G_seq ?_
    refine G_region ?_
    refine G_val (V_load rfl rfl (Cell.own1 (.tail _ (.tail _ (.tail _ (.tail _ (.tail _ (.tail _ (.head _))))))))) rfl rfl (.none rfl) ?_
    refine G_val (V_lss rfl rfl rfl) rfl rfl (.none rfl) ?_
    refine G_val (V_move rfl rfl) rfl rfl (.none rfl) ?_
    refine G.bool_f 15 rfl (decide_eq_false (by omega)) ?_
    refine G_val (V_load rfl rfl (Cell.own1 (.tail _ (.tail _ (.head _))))) rfl rfl (.yes rfl rfl rfl rfl) ?_
    refine G_val (V_load rfl rfl (Cell.own1 (.tail _ (.tail _ (.tail _ (.head _)))))) rfl rfl (.yes rfl rfl rfl rfl) ?_
    refine G_val (V_gtr rfl rfl rfl) rfl rfl (.yes rfl rfl rfl rfl) ?_
    refine G_val (V_pick_f rfl rfl rfl) rfl rfl (.none rfl) ?_
    refine G_end ?_
    refine X_then ?_
    refine G_cond_f rfl (decide_eq_false (by omega)) ?_
    refine G_skip ?_
    refine X_then ?_
    refine G_seq ?_
    refine G_region ?_
    refine G_val (V_load rfl rfl (Cell.own1 (.tail _ (.head _)))) rfl rfl (.none rfl) ?_
    refine G_call (k := 88) (.mk rfl rfl rfl rfl) rfl rfl (.none rfl) (wide_call _ _ _ _ (by first | assumption | omega | (simp; omega) | (simp; done))) ?_
    rintro r1 E2 L3 hE4 ⟨rfl, ⟨rfl, rfl⟩⟩
    refine G_val (V_assign rfl rfl) rfl rfl (.none rfl) ?_
    refine G_end ?_
    refine X_then ?_
    refine G_seq ?_
    refine G_seq ?_
    refine G_region ?_
    refine G_val (V_load rfl rfl (Cell.own1 (.tail _ (.head _)))) rfl rfl (.none rfl) ?_
    refine G_val (V_nilCheck rfl rfl) rfl rfl (.none rfl) ?_
    refine G_val (V_fieldAddr rfl rfl (by decide)) rfl rfl (.none rfl) ?_
    refine G_val (V_fieldAddr rfl rfl (by decide)) rfl rfl (.none rfl) ?_
    refine G_val (V_fieldAddr rfl rfl (by decide)) rfl rfl (.none rfl) ?_
    refine G_val (V_load rfl rfl (Cell.own (.head _) rfl)) rfl rfl (.none rfl) ?_
    refine G_val (V_eql rfl rfl rfl) rfl rfl (.none rfl) ?_
    refine G_val (V_move rfl rfl) rfl rfl (.none rfl) ?_
    refine G.bool_t 32 rfl (decide_eq_true (by omega)) ?_
    refine G_val (V_move rfl rfl) rfl rfl (.yes rfl rfl rfl rfl) ?_
    refine G_val (V_load rfl rfl (Cell.own1 (.tail _ (.tail _ (.tail _ (.tail _ (.tail _ (.tail _ (.head _))))))))) rfl rfl (.yes rfl rfl rfl rfl) ?_
    refine G_val (V_conv_u64 rfl rfl (by omega) (by omega)) rfl rfl (.yes rfl rfl rfl rfl) ?_
    refine G_val (V_gtr rfl rfl rfl) rfl rfl (.yes rfl rfl rfl rfl) ?_
    refine G_val (V_pick_t rfl rfl rfl) rfl rfl (.none rfl) ?_
    refine G_end ?_
    refine X_then ?_
    refine G_cond_t rfl (decide_eq_true (by omega)) ?_
    refine G_region ?_
    refine G_val (V_load rfl rfl (Cell.own1 (.tail _ (.head _)))) rfl rfl (.none rfl) ?_
    refine G_val (V_move rfl rfl) rfl rfl (.none rfl) ?_
    refine G_call (k := 87) (.mk rfl rfl rfl rfl) rfl rfl (.none rfl) (fails_call _ _ _ _ _ _) ?_
    rintro r5 E6 L7 hE8 ⟨rfl, ⟨rfl, rfl⟩⟩
    refine G_end ?_
    refine X_then ?_
    refine G_seq ?_
    refine G_region ?_
    refine G_val (V_makeFunc rfl rfl rfl) rfl rfl (.none rfl) ?_
    refine G_val (V_assign rfl rfl) rfl rfl (.none rfl) ?_
    refine G_end ?_
    refine X_then ?_
    refine G_seq ?_
    refine G_seq ?_
    refine G_region ?_
    refine G_val (V_load rfl rfl (Cell.own1 (.tail _ (.head _)))) rfl rfl (.none rfl) ?_
    refine G_val (V_nilCheck rfl rfl) rfl rfl (.none rfl) ?_
    refine G_val (V_fieldAddr rfl rfl (by decide)) rfl rfl (.none rfl) ?_
    refine G_val (V_fieldAddr rfl rfl (by decide)) rfl rfl (.none rfl) ?_
    refine G_val (V_fieldAddr rfl rfl (by decide)) rfl rfl (.none rfl) ?_
    refine G_val (V_load rfl rfl (Cell.own (.head _) rfl)) rfl rfl (.none rfl) ?_
    refine G_val (V_neq rfl rfl rfl) rfl rfl (.none rfl) ?_
    refine G_end ?_
    refine X_then ?_
    refine G_cond_t rfl rfl ?_
    refine G_ret ?_
    refine X_then_ret ?_
    refine G_leaveS (.keep _ (.keep _ (.keep _ (.keep _ (.keep _ (.keep _ (.keep _ (.nil _)))))))) (by exact (.nil)) rfl ?_ ?_
    · exact (.refl _)
    exact ⟨(by first | rfl | (simp (discharger := omega) only [resVal, rints, if_pos, if_neg]; first | done | rfl) | (simp [resVal, rints, *]; done) | ((try simp only [resVal, rints]); (repeat' split) <;> first | rfl | (exfalso; omega) | (simp_all; done) | (simp_all; omega))), ⟨_, ⟨_, (by first | rfl | (simp (discharger := omega) only [resVal, rints, if_pos, if_neg]; first | done | rfl) | (simp [resVal, rints, *]; done) | ((try simp only [resVal, rints]); (repeat' split) <;> first | rfl | (exfalso; omega) | (simp_all; done) | (simp_all; omega)))⟩⟩⟩
  have hr : rints q most least great = rintsK least great (rwide q).2 (rwide q).1 [] := by rw [rints, if_neg H1, if_neg H2, if_neg H3]
  rw [hr]
  have hw : (rwide q).1.e = 0 := by omega
  have hw2 := he.1 hw
  clear he
  have HR := Lib.hid hr
  clear hr
  refine G_seq ?_
  refine G_region ?_
  refine G_val (V_load rfl rfl (Cell.own1 (.tail _ (.head _)))) rfl rfl (.none rfl) ?_
  refine G_val (V_nilCheck rfl rfl) rfl rfl (.none rfl) ?_
  refine G_val (V_fieldAddr rfl rfl (by decide)) rfl rfl (.none rfl) ?_
  refine G_val (V_fieldAddr rfl rfl (by decide)) rfl rfl (.none rfl) ?_
  refine G_val (V_load rfl rfl (Cell.own (.head _) rfl)) rfl rfl (.none rfl) ?_
  refine G_val (V_assign rfl rfl) rfl rfl (.none rfl) ?_
  refine G_end ?_
  refine X_then ?_
  refine G_seq ?_
  refine G_seq ?_
  refine G_region ?_
  refine G_val (V_load rfl rfl (Cell.own1 (.tail _ (.tail _ (.tail _ (.tail _ (.tail _ (.tail _ (.head _))))))))) rfl rfl (.none rfl) ?_
  refine G_val (V_lss rfl rfl rfl) rfl rfl (.none rfl) ?_
  refine G_val (V_move rfl rfl) rfl rfl (.none rfl) ?_
  refine G.bool_f 15 rfl (decide_eq_false (by omega)) ?_
  refine G_val (V_load rfl rfl (Cell.own1 (.tail _ (.tail _ (.head _))))) rfl rfl (.yes rfl rfl rfl rfl) ?_
  refine G_val (V_load rfl rfl (Cell.own1 (.tail _ (.tail _ (.tail _ (.head _)))))) rfl rfl (.yes rfl rfl rfl rfl) ?_
  refine G_val (V_gtr rfl rfl rfl) rfl rfl (.yes rfl rfl rfl rfl) ?_
  refine G_val (V_pick_f rfl rfl rfl) rfl rfl (.none rfl) ?_
  refine G_end ?_
  refine X_then ?_
  refine G_cond_f rfl (decide_eq_false (by omega)) ?_
  refine G_skip ?_
  refine X_then ?_
  refine G_seq ?_
  refine G_region ?_
  refine G_val (V_load rfl rfl (Cell.own1 (.tail _ (.head _)))) rfl rfl (.none rfl) ?_
  refine G_call (k := 88) (.mk rfl rfl rfl rfl) rfl rfl (.none rfl) (wide_call _ _ _ _ (by first | assumption | omega | (simp; omega) | (simp; done))) ?_
  rintro r1 E2 L3 hE4 ⟨rfl, ⟨rfl, rfl⟩⟩
  refine G_val (V_assign rfl rfl) rfl rfl (.none rfl) ?_
  refine G_end ?_
  refine X_then ?_
  refine G_seq ?_
  refine G_seq ?_
  refine G_region ?_
  refine G_val (V_load rfl rfl (Cell.own1 (.tail _ (.head _)))) rfl rfl (.none rfl) ?_
  refine G_val (V_nilCheck rfl rfl) rfl rfl (.none rfl) ?_
  refine G_val (V_fieldAddr rfl rfl (by decide)) rfl rfl (.none rfl) ?_
  refine G_val (V_fieldAddr rfl rfl (by decide)) rfl rfl (.none rfl) ?_
  refine G_val (V_fieldAddr rfl rfl (by decide)) rfl rfl (.none rfl) ?_
  refine G_val (V_load rfl rfl (Cell.own (.head _) rfl)) rfl rfl (.none rfl) ?_
  refine G_val (V_eql rfl rfl rfl) rfl rfl (.none rfl) ?_
  refine G_val (V_move rfl rfl) rfl rfl (.none rfl) ?_
  refine G.bool_t 32 rfl (decide_eq_true (by omega)) ?_
  refine G_val (V_move rfl rfl) rfl rfl (.yes rfl rfl rfl rfl) ?_
  refine G_val (V_load rfl rfl (Cell.own1 (.tail _ (.tail _ (.tail _ (.tail _ (.tail _ (.tail _ (.head _))))))))) rfl rfl (.yes rfl rfl rfl rfl) ?_
  refine G_val (V_conv_u64 rfl rfl (by omega) (by omega)) rfl rfl (.yes rfl rfl rfl rfl) ?_
  refine G_val (V_gtr rfl rfl rfl) rfl rfl (.yes rfl rfl rfl rfl) ?_
  refine G_val (V_pick_t rfl rfl rfl) rfl rfl (.none rfl) ?_
  refine G_end ?_
  refine X_then ?_
  refine G_cond_f rfl (decide_eq_false (by omega)) ?_
  refine G_skip ?_
  refine X_then ?_
  refine G_seq ?_
  refine G_region ?_
  refine G_val (V_makeFunc rfl rfl rfl) rfl rfl (.none rfl) ?_
  refine G_val (V_assign rfl rfl) rfl rfl (.none rfl) ?_
  refine G_end ?_
  refine X_then ?_
  refine G_seq ?_
  refine G_seq ?_
  refine G_region ?_
  refine G_val (V_load rfl rfl (Cell.own1 (.tail _ (.head _)))) rfl rfl (.none rfl) ?_
  refine G_val (V_nilCheck rfl rfl) rfl rfl (.none rfl) ?_
  refine G_val (V_fieldAddr rfl rfl (by decide)) rfl rfl (.none rfl) ?_
  refine G_val (V_fieldAddr rfl rfl (by decide)) rfl rfl (.none rfl) ?_
  refine G_val (V_fieldAddr rfl rfl (by decide)) rfl rfl (.none rfl) ?_
  refine G_val (V_load rfl rfl (Cell.own (.head _) rfl)) rfl rfl (.none rfl) ?_
  refine G_val (V_neq rfl rfl rfl) rfl rfl (.none rfl) ?_
  refine G_end ?_
  refine X_then ?_
  refine G_cond_f rfl (decide_eq_false (by omega)) ?_
  refine G_skip ?_
  refine X_then ?_
  refine G_seq ?_
  refine G_region ?_
  refine G_val (V_move rfl rfl) rfl rfl (.none rfl) ?_
  refine G_val (V_min rfl rfl rfl) rfl rfl (.none rfl) ?_
  refine G_val (V_conv_i64 rfl rfl (by omega) (by omega)) rfl rfl (.none rfl) ?_
  refine G_val (V_move rfl rfl) rfl rfl (.none rfl) ?_
  refine G_end ?_
  refine X_then ?_
  refine G_block ?_
  generalize (rwide q).2 = N at *
  refine G_loop (α := Nat × Rdr × List Int × Option Addr × Nat) (fun x => [(0, .pointer (some ⟨c0, 0, none⟩)), (7, .func (.func 92) #[] #[.pointer (some ⟨c0, 0, none⟩), .pointer (some ⟨c2, 0, none⟩), .pointer (some ⟨c3, 0, none⟩), .pointer (some ⟨c4, 0, none⟩)]), (51, .int .i64 (min (N : Int) 9223372036854775807)), (52, .int .i64 x.1)]) (fun _ => E)
    (fun x => RB b x.2.1 :: PB c0 b :: IB c2 least :: IB c3 great :: LB c4 x.2.2.2.1 x.2.2.1.length x.2.2.2.2 :: .sl 3 1 x.2.2.2.1 x.2.2.1.length x.2.2.2.2 (i64s x.2.2.1) :: IB c1 most :: L)
    (fun x => rintsK least great N (rwide q).1 [] = rintsK least great (N - x.1) x.2.1 x.2.2.1 ∧ x.1 ≤ N ∧ x.2.1.e = 0 ∧ x.2.1.fa = 0 ∧ x.2.1.s = q.s ∧ x.2.1.at' ≤ q.s.length ∧ (x.2.2.1.length : Int) ≤ x.2.1.at') (fun x => N - x.1) (0, (rwide q).1, [], none, 0)
    ⟨rfl, Nat.zero_le _, hw, hw2.2.2.1, hs, hw2.2.1, by simp; omega⟩ ⟨rfl, rfl, rfl, rfl, trivial⟩ rfl rfl ?_
  rintro ⟨k, q', ys, p, cap⟩ ⟨hv, hk, hi1, hi2, hi3, hi4, hi5⟩
  simp only at hv hk hi1 hi2 hi3 hi4 hi5 ⊢
  have hl' := congrArg List.length hi3
  by_cases hlt : k < N
  · rw [show N - k = (N - (k + 1)) + 1 by omega] at hv
    have HV := Lib.hid hv
    clear hv
    have hp := rone_props q' hi1 hi2 (by omega) (by omega) least great
    have hp1 := congrArg List.length hp.1
    by_cases H8 : (rone q' least great).1.e = 0
    · have HV2 := Lib.hid (HV.out.trans (if_pos H8))
      have hp2 := hp.2.1 H8
      clear hp
      refine G_seq ?_
      refine G_region ?_
      refine G_val (V_lss rfl rfl rfl) rfl rfl (.none rfl) ?_
      refine G_end ?_
      refine X_then ?_
      refine G_seq ?_
      refine G_cond_t rfl (decide_eq_true (by omega)) ?_
      refine G_skip ?_
      refine X_then ?_
      refine G_seq ?_
      refine G_block ?_
      refine G_seq ?_
      refine G_region ?_
      refine G_val (V_move rfl rfl) rfl rfl (.none rfl) ?_
      refine G_call (k := 92) (.mk rfl rfl rfl rfl) rfl rfl (.none rfl) (Ints11_call _ _ _ _ _ _ _ _ (by first | assumption | omega | (simp; omega) | (simp; done)) (by first | assumption | omega | (simp; omega) | (simp; done)) (by first | assumption | omega | (simp; omega) | (simp; done)) (by first | assumption | omega | (simp; omega) | (simp; done)) (by first | assumption | omega | (simp; omega) | (simp; done)) _ _ _ _ _ (by first | assumption | omega | (simp; omega) | (simp; done))) ?_
      rintro r1 E2 L3 hE5 ⟨z6, ⟨z7, ⟨rfl, ⟨rfl, rfl⟩⟩⟩⟩
      refine G_val (V_not rfl rfl) rfl rfl (.none rfl) ?_
      refine G_end ?_
      refine X_then ?_
      refine G_cond_f rfl (by simp [*]; done) ?_
      refine G_skip ?_
      refine X_block ?_
      refine X_then ?_
      refine G_region ?_
      refine G_val (V_add_i64 rfl rfl rfl (by omega) (by omega)) rfl rfl (.none rfl) ?_
      refine G_val (V_move rfl rfl) rfl rfl (.none rfl) ?_
      refine G_end ?_
      refine X_then ?_
      exact G_again (k + 1, (rone q' least great).1, ys ++ [(rone q' least great).2], z6, z7) ⟨HV2.out, hlt, H8, hp2.2.2, by simp only; rw [← hi3, (rone_props q' hi1 hi2 (by omega) (by omega) least great).1], by simp only; omega, by simp only [List.length_append, List.length_singleton]; omega⟩ (by simp only; omega)
        ⟨rfl, rfl, rfl, rfl, trivial⟩ rfl (by simp only [List.length_append, List.length_singleton, i64s, List.map_append, List.map_cons, List.map_nil])
    · have HV2 := Lib.hid (HV.out.trans (if_neg H8))
      rw [HV2.out]
      refine G_seq ?_
      refine G_region ?_
      refine G_val (V_lss rfl rfl rfl) rfl rfl (.none rfl) ?_
      refine G_end ?_
      refine X_then ?_
      refine G_seq ?_
      refine G_cond_t rfl (decide_eq_true (by omega)) ?_
      refine G_skip ?_
      refine X_then ?_
      refine G_seq ?_
      refine G_block ?_
      refine G_seq ?_
      refine G_region ?_
      refine G_val (V_move rfl rfl) rfl rfl (.none rfl) ?_
      refine G_call (k := 92) (.mk rfl rfl rfl rfl) rfl rfl (.none rfl) (Ints11_call _ _ _ _ _ _ _ _ (by first | assumption | omega | (simp; omega) | (simp; done)) (by first | assumption | omega | (simp; omega) | (simp; done)) (by first | assumption | omega | (simp; omega) | (simp; done)) (by first | assumption | omega | (simp; omega) | (simp; done)) (by first | assumption | omega | (simp; omega) | (simp; done)) _ _ _ _ _ (by first | assumption | omega | (simp; omega) | (simp; done))) ?_
      rintro r1 E2 L3 hE5 ⟨z6, ⟨z7, ⟨rfl, ⟨rfl, rfl⟩⟩⟩⟩
      refine G_val (V_not rfl rfl) rfl rfl (.none rfl) ?_
      refine G_end ?_
      refine X_then ?_
      refine G_cond_t rfl (by simp [*]; done) ?_
      refine G_ret ?_
      refine X_block_ret ?_
      refine X_then_ret ?_
      refine X_then_ret ?_
      refine X_block_ret ?_
      refine G_leaveS (.keep _ (.keep _ (.keep _ (.keep _ (.keep _ (.keep _ (.keep _ (.nil _)))))))) (by exact (.nil)) rfl ?_ ?_
      · exact (.refl _)
      exact ⟨rfl, z6, z7, by simp only [List.length_append, List.length_singleton, i64s, List.map_append, List.map_cons, List.map_nil]⟩
  · have HV2 : rintsK least great N (rwide q).1 [] = (q', ys) := by rw [hv, show N - k = 0 by omega]; rfl
    rw [HV2]
    refine G_seq ?_
    refine G_region ?_
    refine G_val (V_lss rfl rfl rfl) rfl rfl (.none rfl) ?_
    refine G_end ?_
    refine X_then ?_
    refine G_seq ?_
    refine G_cond_f rfl (decide_eq_false (by omega)) ?_
    refine G_exit ?_
    refine X_then_exit ?_
    refine X_then_exit ?_
    refine X_block_hit ?_
    refine G_leaveS_n (.keep _ (.keep _ (.keep _ (.keep _ (.keep _ (.keep _ (.keep _ (.nil _)))))))) (by exact (.nil)) rfl ?_ ?_
    · exact (.refl _)
    exact ⟨rfl, ⟨_, ⟨_, rfl⟩⟩⟩
end Go.Proofs.Ytlkfbokdbfnicaa
