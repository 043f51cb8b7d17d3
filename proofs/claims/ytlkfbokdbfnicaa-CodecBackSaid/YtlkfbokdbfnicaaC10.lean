import Derived.Test.YtlkfbokdbfnicaaSep17
import Derived.Test.YtlkfbokdbfnicaaInst
import Derived.Test.YtlkfbokdbfnicaaC7
set_option linter.unusedSimpArgs false
set_option linter.unusedVariables false
set_option maxHeartbeats 2000000
set_option maxRecDepth 20000
namespace Go.Proofs.Ytlkfbokdbfnicaa
open Go.RowKit

theorem rbegin_of_ok {q : Rdr} (h : q.ok) : rbegin q = q := by rw [rbegin, if_pos h]
theorem rbegin_eta {q : Rdr} (h : q.ok) : rbegin ⟨q.s, q.at', q.e, q.fa⟩ = q := rbegin_of_ok h

theorem reader_call (E : Env) (L : List Res) (s : List UInt8) (hs : s.length ≤ 1000000000000) (a e f : Int) :
    CallV Try.prog 69 #[.agg #[.string (S s), .int .i64 a, .int .i64 e, .int .i64 f]] E L (rbegin ⟨s, a, e, f⟩).v := by
  refine CallS.toV (CallS.intro (l := [.agg #[.string (S s), .int .i64 a, .int .i64 e, .int .i64 f]]) _ Try.func69 rfl Try.ntmps69 rfl ?_)
  refine G_seq ?_
  refine G_region ?_
  (refine G_boxA rfl rfl rfl rfl (.none rfl) ?_; intro b1)
  (refine G_alloc rfl rfl rfl (.none rfl) ?_; intro b2)
  refine G_end ?_
  refine X_then ?_
  refine G_seq ?_
  refine G_region ?_
  refine G_val (V_fieldAddr rfl rfl (by decide)) rfl rfl (.none rfl) ?_
  refine G_val (V_load rfl rfl (Cell.own (.tail _ (.head _)) rfl)) rfl rfl (.none rfl) ?_
  refine G_val (V_len rfl rfl) rfl rfl (.none rfl) ?_
  refine G_val (V_leq rfl rfl rfl) rfl rfl (.none rfl) ?_
  refine G_val (V_move rfl rfl) rfl rfl (.none rfl) ?_
  apply G_joinAnd 4 8 12 rfl
  · intro H1
    dsimp only [List.take]
    simp only [Bool.and_eq_true, Bool.or_eq_true, Bool.not_eq_true', Bool.not_eq_false', Bool.and_eq_false_iff, Bool.or_eq_false_iff, Bool.not_not, decide_eq_true_eq, decide_eq_false_iff_not, ne_eq, Decidable.not_not, Bool.decide_eq_true] at H1
    refine G_val (V_fieldAddr rfl rfl (by decide)) rfl rfl (.yes rfl rfl rfl rfl) ?_
    refine G_val (V_load rfl rfl (Cell.own (.tail _ (.head _)) rfl)) rfl rfl (.yes rfl rfl rfl rfl) ?_
    refine G_val (V_geq rfl rfl rfl) rfl rfl (.yes rfl rfl rfl rfl) ?_
    refine G_val (V_pick_t rfl rfl rfl) rfl rfl (.none rfl) ?_
    refine G_end ?_
    exact JQ_end 4 rfl rfl (by kernel_rfl)
  · intro H2
    dsimp only [List.take]
    simp only [Bool.and_eq_true, Bool.or_eq_true, Bool.not_eq_true', Bool.not_eq_false', Bool.and_eq_false_iff, Bool.or_eq_false_iff, Bool.not_not, decide_eq_true_eq, decide_eq_false_iff_not, ne_eq, Decidable.not_not, Bool.decide_eq_true] at H2
    refine G_stay (.no rfl rfl rfl rfl) rfl rfl ?_
    refine G_stay (.no rfl rfl rfl rfl) rfl rfl ?_
    refine G_stay (.no rfl rfl rfl rfl) rfl rfl ?_
    refine G_val (V_pick_f rfl rfl rfl) rfl rfl (.none rfl) ?_
    refine G_end ?_
    exact JQ_end 4 rfl rfl (by kernel_rfl)
  dsimp only [List.drop]
  refine G_val (V_move rfl rfl) rfl rfl (.none rfl) ?_
  apply G_joinAnd 7 13 20 rfl
  · intro H3
    dsimp only [List.take]
    simp only [Bool.and_eq_true, Bool.or_eq_true, Bool.not_eq_true', Bool.not_eq_false', Bool.and_eq_false_iff, Bool.or_eq_false_iff, Bool.not_not, decide_eq_true_eq, decide_eq_false_iff_not, ne_eq, Decidable.not_not, Bool.decide_eq_true] at H3
    refine G_val (V_fieldAddr rfl rfl (by decide)) rfl rfl (.yes rfl rfl rfl rfl) ?_
    refine G_val (V_load rfl rfl (Cell.own (.tail _ (.head _)) rfl)) rfl rfl (.yes rfl rfl rfl rfl) ?_
    refine G_val (V_fieldAddr rfl rfl (by decide)) rfl rfl (.yes rfl rfl rfl rfl) ?_
    refine G_val (V_load rfl rfl (Cell.own (.tail _ (.head _)) rfl)) rfl rfl (.yes rfl rfl rfl rfl) ?_
    refine G_val (V_len rfl rfl) rfl rfl (.yes rfl rfl rfl rfl) ?_
    refine G_val (V_leq rfl rfl rfl) rfl rfl (.yes rfl rfl rfl rfl) ?_
    refine G_val (V_pick_t rfl rfl rfl) rfl rfl (.none rfl) ?_
    refine G_end ?_
    exact JQ_end 7 rfl rfl (by kernel_rfl)
  · intro H4
    dsimp only [List.take]
    simp only [Bool.and_eq_true, Bool.or_eq_true, Bool.not_eq_true', Bool.not_eq_false', Bool.and_eq_false_iff, Bool.or_eq_false_iff, Bool.not_not, decide_eq_true_eq, decide_eq_false_iff_not, ne_eq, Decidable.not_not, Bool.decide_eq_true] at H4
    refine G_stay (.no rfl rfl rfl rfl) rfl rfl ?_
    refine G_stay (.no rfl rfl rfl rfl) rfl rfl ?_
    refine G_stay (.no rfl rfl rfl rfl) rfl rfl ?_
    refine G_stay (.no rfl rfl rfl rfl) rfl rfl ?_
    refine G_stay (.no rfl rfl rfl rfl) rfl rfl ?_
    refine G_stay (.no rfl rfl rfl rfl) rfl rfl ?_
    refine G_val (V_pick_f rfl rfl rfl) rfl rfl (.none rfl) ?_
    refine G_end ?_
    exact JQ_end 7 rfl rfl (by kernel_rfl)
  dsimp only [List.drop]
  refine G_val (V_assign rfl rfl) rfl rfl (.none rfl) ?_
  refine G_end ?_
  refine X_then ?_
  refine G_seq ?_
  refine G_seq ?_
  refine G_region ?_
  refine G_val (V_fieldAddr rfl rfl (by decide)) rfl rfl (.none rfl) ?_
  refine G_val (V_fieldAddr rfl rfl (by decide)) rfl rfl (.none rfl) ?_
  refine G_val (V_load rfl rfl (Cell.own (.tail _ (.head _)) rfl)) rfl rfl (.none rfl) ?_
  refine G_val (V_eql rfl rfl rfl) rfl rfl (.none rfl) ?_
  refine G_end ?_
  refine X_then ?_
  refine G_cond rfl (fun H5 => ?_) (fun H5 => ?_)
  · simp only [Bool.and_eq_true, Bool.or_eq_true, Bool.not_eq_true', Bool.not_eq_false', Bool.and_eq_false_iff, Bool.or_eq_false_iff, Bool.not_not, decide_eq_true_eq, decide_eq_false_iff_not, ne_eq, Decidable.not_not, Bool.decide_eq_true] at H5
    refine G_region ?_
    refine G_val (V_move rfl rfl) rfl rfl (.none rfl) ?_
    refine G_val (V_move rfl rfl) rfl rfl (.none rfl) ?_
    apply G_joinAnd 5 26 31 rfl
    · intro H6
      dsimp only [List.take]
      simp only [Bool.and_eq_true, Bool.or_eq_true, Bool.not_eq_true', Bool.not_eq_false', Bool.and_eq_false_iff, Bool.or_eq_false_iff, Bool.not_not, decide_eq_true_eq, decide_eq_false_iff_not, ne_eq, Decidable.not_not, Bool.decide_eq_true] at H6
      refine G_val (V_fieldAddr rfl rfl (by decide)) rfl rfl (.yes rfl rfl rfl rfl) ?_
      refine G_val (V_fieldAddr rfl rfl (by decide)) rfl rfl (.yes rfl rfl rfl rfl) ?_
      refine G_val (V_load rfl rfl (Cell.own (.tail _ (.head _)) rfl)) rfl rfl (.yes rfl rfl rfl rfl) ?_
      refine G_val (V_eql rfl rfl rfl) rfl rfl (.yes rfl rfl rfl rfl) ?_
      refine G_val (V_pick_t rfl rfl rfl) rfl rfl (.none rfl) ?_
      refine G_end ?_
      exact JQ_end 5 rfl rfl (by kernel_rfl)
    · intro H7
      dsimp only [List.take]
      simp only [Bool.and_eq_true, Bool.or_eq_true, Bool.not_eq_true', Bool.not_eq_false', Bool.and_eq_false_iff, Bool.or_eq_false_iff, Bool.not_not, decide_eq_true_eq, decide_eq_false_iff_not, ne_eq, Decidable.not_not, Bool.decide_eq_true] at H7
      refine G_stay (.no rfl rfl rfl rfl) rfl rfl ?_
      refine G_stay (.no rfl rfl rfl rfl) rfl rfl ?_
      refine G_stay (.no rfl rfl rfl rfl) rfl rfl ?_
      refine G_stay (.no rfl rfl rfl rfl) rfl rfl ?_
      refine G_val (V_pick_f rfl rfl rfl) rfl rfl (.none rfl) ?_
      refine G_end ?_
      exact JQ_end 5 rfl rfl (by kernel_rfl)
    dsimp only [List.drop]
    refine G_val (V_assign rfl rfl) rfl rfl (.none rfl) ?_
    refine G_end ?_
    refine X_then ?_
    refine G_seq ?_
    refine G_seq ?_
    refine G_region ?_
    refine G_val (V_move rfl rfl) rfl rfl (.none rfl) ?_
    refine G_val (V_not rfl rfl) rfl rfl (.none rfl) ?_
    refine G_end ?_
    refine X_then ?_
    refine G_cond rfl (fun H8 => ?_) (fun H8 => ?_)
    · simp only [Bool.and_eq_true, Bool.or_eq_true, Bool.not_eq_true', Bool.not_eq_false', Bool.and_eq_false_iff, Bool.or_eq_false_iff, Bool.not_not, decide_eq_true_eq, decide_eq_false_iff_not, ne_eq, Decidable.not_not, Bool.decide_eq_true] at H8
      refine G_seq ?_
      refine G_region ?_
      refine G_val (V_build rfl rfl (by simp [fillV, setLs, setL, Value.cells]; rfl)) rfl rfl (.none rfl) ?_
      refine G_val (V_build rfl rfl (by simp [fillV, setLs, setL, Value.cells]; rfl)) rfl rfl (.none rfl) ?_
      refine G_storeA rfl rfl rfl rfl (by simp [Value.oneCell']) rfl (.none rfl) (.head _ _ _) rfl ?_
      refine G_end ?_
      refine X_then ?_
      refine G_ret ?_
      refine X_then_ret ?_
      refine G_leaveS (.drop _ (.drop _ (.nil _))) (by exact (.cons (.cellA rfl (Cells.own (.head _)) rfl) (.nil))) rfl ?_ ?_
      · exact (.refl _)
      exact ⟨(by first | rfl | (simp (discharger := omega) only [resVal, rbegin, Rdr.ok, if_pos, if_neg]; first | done | rfl) | (simp [resVal, rbegin, Rdr.ok, *]; done) | ((try simp only [resVal, rbegin, Rdr.ok]); (repeat' split) <;> first | rfl | (exfalso; omega) | (simp_all; done) | (simp_all; omega))), (by first | rfl | (simp (discharger := omega) only [resVal, rbegin, Rdr.ok, if_pos, if_neg]; first | done | rfl) | (simp [resVal, rbegin, Rdr.ok, *]; done) | ((try simp only [resVal, rbegin, Rdr.ok]); (repeat' split) <;> first | rfl | (exfalso; omega) | (simp_all; done) | (simp_all; omega)))⟩
    simp only [Bool.and_eq_true, Bool.or_eq_true, Bool.not_eq_true', Bool.not_eq_false', Bool.and_eq_false_iff, Bool.or_eq_false_iff, Bool.not_not, decide_eq_true_eq, decide_eq_false_iff_not, ne_eq, Decidable.not_not, Bool.decide_eq_true] at H8
    refine G_skip ?_
    refine X_then ?_
    refine G_seq ?_
    refine G_region ?_
    refine G_val (V_loadA rfl rfl (Cells.own (.tail _ (.head _))) rfl) rfl rfl (.none rfl) ?_
    refine G_storeA rfl rfl rfl rfl (by simp [Value.oneCell']) rfl (.none rfl) (.head _ _ _) rfl ?_
    refine G_end ?_
    refine X_then ?_
    refine G_ret ?_
    refine G_leaveS (.drop _ (.drop _ (.nil _))) (by exact (.cons (.cellA rfl (Cells.own (.head _)) rfl) (.nil))) rfl ?_ ?_
    · exact (.refl _)
    exact ⟨(by first | rfl | (simp (discharger := omega) only [resVal, rbegin, Rdr.ok, if_pos, if_neg]; first | done | rfl) | (simp [resVal, rbegin, Rdr.ok, *]; done) | ((try simp only [resVal, rbegin, Rdr.ok]); (repeat' split) <;> first | rfl | (exfalso; omega) | (simp_all; done) | (simp_all; omega))), (by first | rfl | (simp (discharger := omega) only [resVal, rbegin, Rdr.ok, if_pos, if_neg]; first | done | rfl) | (simp [resVal, rbegin, Rdr.ok, *]; done) | ((try simp only [resVal, rbegin, Rdr.ok]); (repeat' split) <;> first | rfl | (exfalso; omega) | (simp_all; done) | (simp_all; omega)))⟩
  simp only [Bool.and_eq_true, Bool.or_eq_true, Bool.not_eq_true', Bool.not_eq_false', Bool.and_eq_false_iff, Bool.or_eq_false_iff, Bool.not_not, decide_eq_true_eq, decide_eq_false_iff_not, ne_eq, Decidable.not_not, Bool.decide_eq_true] at H5
  refine G_region ?_
  refine G_val (V_move rfl rfl) rfl rfl (.none rfl) ?_
  refine G_val (V_move rfl rfl) rfl rfl (.none rfl) ?_
  apply G_joinAnd 5 33 38 rfl
  · intro H9
    dsimp only [List.take]
    simp only [Bool.and_eq_true, Bool.or_eq_true, Bool.not_eq_true', Bool.not_eq_false', Bool.and_eq_false_iff, Bool.or_eq_false_iff, Bool.not_not, decide_eq_true_eq, decide_eq_false_iff_not, ne_eq, Decidable.not_not, Bool.decide_eq_true] at H9
    refine G_val (V_fieldAddr rfl rfl (by decide)) rfl rfl (.yes rfl rfl rfl rfl) ?_
    refine G_val (V_fieldAddr rfl rfl (by decide)) rfl rfl (.yes rfl rfl rfl rfl) ?_
    refine G_val (V_load rfl rfl (Cell.own (.tail _ (.head _)) rfl)) rfl rfl (.yes rfl rfl rfl rfl) ?_
    refine G_val (V_geq rfl rfl rfl) rfl rfl (.yes rfl rfl rfl rfl) ?_
    refine G_val (V_pick_t rfl rfl rfl) rfl rfl (.none rfl) ?_
    refine G_end ?_
    exact JQ_end 5 rfl rfl (by kernel_rfl)
  · intro H10
    dsimp only [List.take]
    simp only [Bool.and_eq_true, Bool.or_eq_true, Bool.not_eq_true', Bool.not_eq_false', Bool.and_eq_false_iff, Bool.or_eq_false_iff, Bool.not_not, decide_eq_true_eq, decide_eq_false_iff_not, ne_eq, Decidable.not_not, Bool.decide_eq_true] at H10
    refine G_stay (.no rfl rfl rfl rfl) rfl rfl ?_
    refine G_stay (.no rfl rfl rfl rfl) rfl rfl ?_
    refine G_stay (.no rfl rfl rfl rfl) rfl rfl ?_
    refine G_stay (.no rfl rfl rfl rfl) rfl rfl ?_
    refine G_val (V_pick_f rfl rfl rfl) rfl rfl (.none rfl) ?_
    refine G_end ?_
    exact JQ_end 5 rfl rfl (by kernel_rfl)
  dsimp only [List.drop]
  refine G_val (V_move rfl rfl) rfl rfl (.none rfl) ?_
  apply G_joinAnd 5 39 44 rfl
  · intro H11
    dsimp only [List.take]
    simp only [Bool.and_eq_true, Bool.or_eq_true, Bool.not_eq_true', Bool.not_eq_false', Bool.and_eq_false_iff, Bool.or_eq_false_iff, Bool.not_not, decide_eq_true_eq, decide_eq_false_iff_not, ne_eq, Decidable.not_not, Bool.decide_eq_true] at H11
    refine G_val (V_fieldAddr rfl rfl (by decide)) rfl rfl (.yes rfl rfl rfl rfl) ?_
    refine G_val (V_fieldAddr rfl rfl (by decide)) rfl rfl (.yes rfl rfl rfl rfl) ?_
    refine G_val (V_load rfl rfl (Cell.own (.tail _ (.head _)) rfl)) rfl rfl (.yes rfl rfl rfl rfl) ?_
    refine G_val (V_leq rfl rfl rfl) rfl rfl (.yes rfl rfl rfl rfl) ?_
    refine G_val (V_pick_t rfl rfl rfl) rfl rfl (.none rfl) ?_
    refine G_end ?_
    exact JQ_end 5 rfl rfl (by kernel_rfl)
  · intro H12
    dsimp only [List.take]
    simp only [Bool.and_eq_true, Bool.or_eq_true, Bool.not_eq_true', Bool.not_eq_false', Bool.and_eq_false_iff, Bool.or_eq_false_iff, Bool.not_not, decide_eq_true_eq, decide_eq_false_iff_not, ne_eq, Decidable.not_not, Bool.decide_eq_true] at H12
    refine G_stay (.no rfl rfl rfl rfl) rfl rfl ?_
    refine G_stay (.no rfl rfl rfl rfl) rfl rfl ?_
    refine G_stay (.no rfl rfl rfl rfl) rfl rfl ?_
    refine G_stay (.no rfl rfl rfl rfl) rfl rfl ?_
    refine G_val (V_pick_f rfl rfl rfl) rfl rfl (.none rfl) ?_
    refine G_end ?_
    exact JQ_end 5 rfl rfl (by kernel_rfl)
  dsimp only [List.drop]
  refine G_val (V_move rfl rfl) rfl rfl (.none rfl) ?_
  apply G_joinAnd 5 45 50 rfl
  · intro H13
    dsimp only [List.take]
    simp only [Bool.and_eq_true, Bool.or_eq_true, Bool.not_eq_true', Bool.not_eq_false', Bool.and_eq_false_iff, Bool.or_eq_false_iff, Bool.not_not, decide_eq_true_eq, decide_eq_false_iff_not, ne_eq, Decidable.not_not, Bool.decide_eq_true] at H13
    refine G_val (V_fieldAddr rfl rfl (by decide)) rfl rfl (.yes rfl rfl rfl rfl) ?_
    refine G_val (V_fieldAddr rfl rfl (by decide)) rfl rfl (.yes rfl rfl rfl rfl) ?_
    refine G_val (V_load rfl rfl (Cell.own (.tail _ (.head _)) rfl)) rfl rfl (.yes rfl rfl rfl rfl) ?_
    refine G_val (V_geq rfl rfl rfl) rfl rfl (.yes rfl rfl rfl rfl) ?_
    refine G_val (V_pick_t rfl rfl rfl) rfl rfl (.none rfl) ?_
    refine G_end ?_
    exact JQ_end 5 rfl rfl (by kernel_rfl)
  · intro H14
    dsimp only [List.take]
    simp only [Bool.and_eq_true, Bool.or_eq_true, Bool.not_eq_true', Bool.not_eq_false', Bool.and_eq_false_iff, Bool.or_eq_false_iff, Bool.not_not, decide_eq_true_eq, decide_eq_false_iff_not, ne_eq, Decidable.not_not, Bool.decide_eq_true] at H14
    refine G_stay (.no rfl rfl rfl rfl) rfl rfl ?_
    refine G_stay (.no rfl rfl rfl rfl) rfl rfl ?_
    refine G_stay (.no rfl rfl rfl rfl) rfl rfl ?_
    refine G_stay (.no rfl rfl rfl rfl) rfl rfl ?_
    refine G_val (V_pick_f rfl rfl rfl) rfl rfl (.none rfl) ?_
    refine G_end ?_
    exact JQ_end 5 rfl rfl (by kernel_rfl)
  dsimp only [List.drop]
  refine G_val (V_move rfl rfl) rfl rfl (.none rfl) ?_
  apply G_joinAnd 8 51 59 rfl
  · intro H15
    dsimp only [List.take]
    simp only [Bool.and_eq_true, Bool.or_eq_true, Bool.not_eq_true', Bool.not_eq_false', Bool.and_eq_false_iff, Bool.or_eq_false_iff, Bool.not_not, decide_eq_true_eq, decide_eq_false_iff_not, ne_eq, Decidable.not_not, Bool.decide_eq_true] at H15
    refine G_val (V_fieldAddr rfl rfl (by decide)) rfl rfl (.yes rfl rfl rfl rfl) ?_
    refine G_val (V_fieldAddr rfl rfl (by decide)) rfl rfl (.yes rfl rfl rfl rfl) ?_
    refine G_val (V_load rfl rfl (Cell.own (.tail _ (.head _)) rfl)) rfl rfl (.yes rfl rfl rfl rfl) ?_
    refine G_val (V_fieldAddr rfl rfl (by decide)) rfl rfl (.yes rfl rfl rfl rfl) ?_
    refine G_val (V_load rfl rfl (Cell.own (.tail _ (.head _)) rfl)) rfl rfl (.yes rfl rfl rfl rfl) ?_
    refine G_val (V_len rfl rfl) rfl rfl (.yes rfl rfl rfl rfl) ?_
    refine G_val (V_leq rfl rfl rfl) rfl rfl (.yes rfl rfl rfl rfl) ?_
    refine G_val (V_pick_t rfl rfl rfl) rfl rfl (.none rfl) ?_
    refine G_end ?_
    exact JQ_end 8 rfl rfl (by kernel_rfl)
  · intro H16
    dsimp only [List.take]
    simp only [Bool.and_eq_true, Bool.or_eq_true, Bool.not_eq_true', Bool.not_eq_false', Bool.and_eq_false_iff, Bool.or_eq_false_iff, Bool.not_not, decide_eq_true_eq, decide_eq_false_iff_not, ne_eq, Decidable.not_not, Bool.decide_eq_true] at H16
    refine G_stay (.no rfl rfl rfl rfl) rfl rfl ?_
    refine G_stay (.no rfl rfl rfl rfl) rfl rfl ?_
    refine G_stay (.no rfl rfl rfl rfl) rfl rfl ?_
    refine G_stay (.no rfl rfl rfl rfl) rfl rfl ?_
    refine G_stay (.no rfl rfl rfl rfl) rfl rfl ?_
    refine G_stay (.no rfl rfl rfl rfl) rfl rfl ?_
    refine G_stay (.no rfl rfl rfl rfl) rfl rfl ?_
    refine G_val (V_pick_f rfl rfl rfl) rfl rfl (.none rfl) ?_
    refine G_end ?_
    exact JQ_end 8 rfl rfl (by kernel_rfl)
  dsimp only [List.drop]
  refine G_val (V_assign rfl rfl) rfl rfl (.none rfl) ?_
  refine G_end ?_
  refine X_then ?_
  refine G_seq ?_
  refine G_seq ?_
  refine G_region ?_
  refine G_val (V_move rfl rfl) rfl rfl (.none rfl) ?_
  refine G_val (V_not rfl rfl) rfl rfl (.none rfl) ?_
  refine G_end ?_
  refine X_then ?_
  refine G_cond rfl (fun H17 => ?_) (fun H17 => ?_)
  · simp only [Bool.and_eq_true, Bool.or_eq_true, Bool.not_eq_true', Bool.not_eq_false', Bool.and_eq_false_iff, Bool.or_eq_false_iff, Bool.not_not, decide_eq_true_eq, decide_eq_false_iff_not, ne_eq, Decidable.not_not, Bool.decide_eq_true] at H17
    refine G_seq ?_
    refine G_region ?_
    refine G_val (V_build rfl rfl (by simp [fillV, setLs, setL, Value.cells]; rfl)) rfl rfl (.none rfl) ?_
    refine G_val (V_build rfl rfl (by simp [fillV, setLs, setL, Value.cells]; rfl)) rfl rfl (.none rfl) ?_
    refine G_storeA rfl rfl rfl rfl (by simp [Value.oneCell']) rfl (.none rfl) (.head _ _ _) rfl ?_
    refine G_end ?_
    refine X_then ?_
    refine G_ret ?_
    refine X_then_ret ?_
    refine G_leaveS (.drop _ (.drop _ (.nil _))) (by exact (.cons (.cellA rfl (Cells.own (.head _)) rfl) (.nil))) rfl ?_ ?_
    · exact (.refl _)
    exact ⟨(by first | rfl | (simp (discharger := omega) only [resVal, rbegin, Rdr.ok, if_pos, if_neg]; first | done | rfl) | (simp [resVal, rbegin, Rdr.ok, *]; done) | ((try simp only [resVal, rbegin, Rdr.ok]); (repeat' split) <;> first | rfl | (exfalso; omega) | (simp_all; done) | (simp_all; omega))), (by first | rfl | (simp (discharger := omega) only [resVal, rbegin, Rdr.ok, if_pos, if_neg]; first | done | rfl) | (simp [resVal, rbegin, Rdr.ok, *]; done) | ((try simp only [resVal, rbegin, Rdr.ok]); (repeat' split) <;> first | rfl | (exfalso; omega) | (simp_all; done) | (simp_all; omega)))⟩
  simp only [Bool.and_eq_true, Bool.or_eq_true, Bool.not_eq_true', Bool.not_eq_false', Bool.and_eq_false_iff, Bool.or_eq_false_iff, Bool.not_not, decide_eq_true_eq, decide_eq_false_iff_not, ne_eq, Decidable.not_not, Bool.decide_eq_true] at H17
  refine G_skip ?_
  refine X_then ?_
  refine G_seq ?_
  refine G_region ?_
  refine G_val (V_loadA rfl rfl (Cells.own (.tail _ (.head _))) rfl) rfl rfl (.none rfl) ?_
  refine G_storeA rfl rfl rfl rfl (by simp [Value.oneCell']) rfl (.none rfl) (.head _ _ _) rfl ?_
  refine G_end ?_
  refine X_then ?_
  refine G_ret ?_
  refine G_leaveS (.drop _ (.drop _ (.nil _))) (by exact (.cons (.cellA rfl (Cells.own (.head _)) rfl) (.nil))) rfl ?_ ?_
  · exact (.refl _)
  exact ⟨(by first | rfl | (simp (discharger := omega) only [resVal, rbegin, Rdr.ok, if_pos, if_neg]; first | done | rfl) | (simp [resVal, rbegin, Rdr.ok, *]; done) | ((try simp only [resVal, rbegin, Rdr.ok]); (repeat' split) <;> first | rfl | (exfalso; omega) | (simp_all; done) | (simp_all; omega))), (by first | rfl | (simp (discharger := omega) only [resVal, rbegin, Rdr.ok, if_pos, if_neg]; first | done | rfl) | (simp [resVal, rbegin, Rdr.ok, *]; done) | ((try simp only [resVal, rbegin, Rdr.ok]); (repeat' split) <;> first | rfl | (exfalso; omega) | (simp_all; done) | (simp_all; omega)))⟩
theorem fine_call (E : Env) (L : List Res) (s : List UInt8) (a e f : Int) :
    CallV Try.prog 96 #[.agg #[.string (S s), .int .i64 a, .int .i64 e, .int .i64 f]] E L (.bool (decide (e = 0))) := by
  refine CallS.toV (CallS.intro (l := [.agg #[.string (S s), .int .i64 a, .int .i64 e, .int .i64 f]]) _ Try.func96 rfl Try.ntmps96 rfl ?_)
  refine G_seq ?_
  refine G_region ?_
  (refine G_boxA rfl rfl rfl rfl (.none rfl) ?_; intro b1)
  refine G_val (V_assign rfl rfl) rfl rfl (.none rfl) ?_
  refine G_end ?_
  refine X_then ?_
  refine G_seq ?_
  refine G_region ?_
  refine G_val (V_fieldAddr rfl rfl (by decide)) rfl rfl (.none rfl) ?_
  refine G_val (V_fieldAddr rfl rfl (by decide)) rfl rfl (.none rfl) ?_
  refine G_val (V_load rfl rfl (Cell.own (.head _) rfl)) rfl rfl (.none rfl) ?_
  refine G_val (V_eql rfl rfl rfl) rfl rfl (.none rfl) ?_
  refine G_val (V_assign rfl rfl) rfl rfl (.none rfl) ?_
  refine G_end ?_
  refine X_then ?_
  refine G_ret ?_
  refine G_leaveS (.drop _ (.nil _)) (by exact (.cons (.tmp rfl) (.nil))) rfl ?_ ?_
  · exact (.refl _)
  exact ⟨rfl, rfl⟩
def rwith (q : Rdr) (e f : Int) : Rdr := if q.e = 0 then ⟨q.s, q.at', e, f⟩ else q
theorem with_call (E : Env) (L : List Res) (s : List UInt8) (a e f e' f' : Int) :
    CallV Try.prog 99 #[.agg #[.string (S s), .int .i64 a, .int .i64 e, .int .i64 f], .agg #[.int .i64 e', .int .i64 f']] E L (rwith ⟨s, a, e, f⟩ e' f').v := by
  refine CallS.toV (CallS.intro (l := [.agg #[.string (S s), .int .i64 a, .int .i64 e, .int .i64 f], .agg #[.int .i64 e', .int .i64 f']]) _ Try.func99 rfl Try.ntmps99 rfl ?_)
  refine G_seq ?_
  refine G_region ?_
  (refine G_boxA rfl rfl rfl rfl (.none rfl) ?_; intro b2)
  (refine G_boxA rfl rfl rfl rfl (.none rfl) ?_; intro b3)
  (refine G_alloc rfl rfl rfl (.none rfl) ?_; intro b4)
  refine G_end ?_
  refine X_then ?_
  refine G_seq ?_
  refine G_seq ?_
  refine G_region ?_
  refine G_val (V_loadA rfl rfl (Cells.own (.tail _ (.tail _ (.head _)))) rfl) rfl rfl (.none rfl) ?_
  refine G_callv (k := 96) (.mk rfl rfl rfl rfl) rfl rfl (.none rfl) (fine_call _ _ _ _ _ _) ?_
  refine G_end ?_
  refine X_then ?_
  refine G_cond rfl (fun H1 => ?_) (fun H1 => ?_)
  · simp only [Bool.and_eq_true, Bool.or_eq_true, Bool.not_eq_true', Bool.not_eq_false', Bool.and_eq_false_iff, Bool.or_eq_false_iff, Bool.not_not, decide_eq_true_eq, decide_eq_false_iff_not, ne_eq, Decidable.not_not, Bool.decide_eq_true] at H1
    refine G_region ?_
    refine G_val (V_loadA rfl rfl (Cells.own (.tail _ (.head _))) rfl) rfl rfl (.none rfl) ?_
    refine G_val (V_fieldAddr rfl rfl (by decide)) rfl rfl (.none rfl) ?_
    refine G_storeF rfl rfl rfl rfl (by simp [Value.oneCell']) rfl (.none rfl) (.tail _ (.tail _ (.head _ _ _))) (Nat.le_of_ble_eq_true rfl) (by simp only [putAll, Nat.zero_add, Nat.reduceAdd, List.setIfInBounds_toArray, List.set_cons_succ, List.set_cons_zero]; rfl) ?_
    refine G_end ?_
    refine X_then ?_
    refine G_seq ?_
    refine G_region ?_
    refine G_val (V_loadA rfl rfl (Cells.own (.tail _ (.tail _ (.head _)))) rfl) rfl rfl (.none rfl) ?_
    refine G_storeA rfl rfl rfl rfl (by simp [Value.oneCell']) rfl (.none rfl) (.head _ _ _) rfl ?_
    refine G_end ?_
    refine X_then ?_
    refine G_ret ?_
    refine G_leaveS (.drop _ (.drop _ (.drop _ (.nil _)))) (by exact (.cons (.cellA rfl (Cells.own (.head _)) rfl) (.nil))) rfl ?_ ?_
    · exact (.refl _)
    exact ⟨(by first | rfl | (simp (discharger := omega) only [resVal, rwith, if_pos, if_neg]; first | done | rfl) | (simp [resVal, rwith, *]; done) | ((try simp only [resVal, rwith]); (repeat' split) <;> first | rfl | (exfalso; omega) | (simp_all; done) | (simp_all; omega))), (by first | rfl | (simp (discharger := omega) only [resVal, rwith, if_pos, if_neg]; first | done | rfl) | (simp [resVal, rwith, *]; done) | ((try simp only [resVal, rwith]); (repeat' split) <;> first | rfl | (exfalso; omega) | (simp_all; done) | (simp_all; omega)))⟩
  simp only [Bool.and_eq_true, Bool.or_eq_true, Bool.not_eq_true', Bool.not_eq_false', Bool.and_eq_false_iff, Bool.or_eq_false_iff, Bool.not_not, decide_eq_true_eq, decide_eq_false_iff_not, ne_eq, Decidable.not_not, Bool.decide_eq_true] at H1
  refine G_skip ?_
  refine X_then ?_
  refine G_seq ?_
  refine G_region ?_
  refine G_val (V_loadA rfl rfl (Cells.own (.tail _ (.tail _ (.head _)))) rfl) rfl rfl (.none rfl) ?_
  refine G_storeA rfl rfl rfl rfl (by simp [Value.oneCell']) rfl (.none rfl) (.head _ _ _) rfl ?_
  refine G_end ?_
  refine X_then ?_
  refine G_ret ?_
  refine G_leaveS (.drop _ (.drop _ (.drop _ (.nil _)))) (by exact (.cons (.cellA rfl (Cells.own (.head _)) rfl) (.nil))) rfl ?_ ?_
  · exact (.refl _)
  exact ⟨(by first | rfl | (simp (discharger := omega) only [resVal, rwith, if_pos, if_neg]; first | done | rfl) | (simp [resVal, rwith, *]; done) | ((try simp only [resVal, rwith]); (repeat' split) <;> first | rfl | (exfalso; omega) | (simp_all; done) | (simp_all; omega))), (by first | rfl | (simp (discharger := omega) only [resVal, rwith, if_pos, if_neg]; first | done | rfl) | (simp [resVal, rwith, *]; done) | ((try simp only [resVal, rwith]); (repeat' split) <;> first | rfl | (exfalso; omega) | (simp_all; done) | (simp_all; omega)))⟩
theorem fail_call (E : Env) (L : List Res) (s : List UInt8) (a e f e' f' : Int) :
    CallV Try.prog 95 #[.agg #[.string (S s), .int .i64 a, .int .i64 e, .int .i64 f], .int .i64 e', .int .i64 f'] E L (rwith ⟨s, a, e, f⟩ e' f').v := by
  refine CallS.toV (CallS.intro (l := [.agg #[.string (S s), .int .i64 a, .int .i64 e, .int .i64 f], .int .i64 e', .int .i64 f']) _ Try.func95 rfl Try.ntmps95 rfl ?_)
  refine G_seq ?_
  refine G_region ?_
  (refine G_boxA rfl rfl rfl rfl (.none rfl) ?_; intro b3)
  (refine G_alloc rfl rfl rfl (.none rfl) ?_; intro b6)
  refine G_end ?_
  refine X_then ?_
  refine G_seq ?_
  refine G_region ?_
  refine G_val (V_loadA rfl rfl (Cells.own (.tail _ (.head _))) rfl) rfl rfl (.none rfl) ?_
  refine G_val (V_move rfl rfl) rfl rfl (.none rfl) ?_
  refine G_val (V_move rfl rfl) rfl rfl (.none rfl) ?_
  refine G_val (V_build rfl rfl (by simp [fillV, setLs, setL, Value.cells]; rfl)) rfl rfl (.none rfl) ?_
  refine G_callv (k := 99) (.mk rfl rfl rfl rfl) rfl rfl (.none rfl) (with_call _ _ _ _ _ _ _ _) ?_
  refine G_storeA rfl rfl rfl rfl (by simp [Value.oneCell']) rfl (.none rfl) (.head _ _ _) rfl ?_
  refine G_end ?_
  refine X_then ?_
  refine G_ret ?_
  refine G_leaveS (.drop _ (.drop _ (.nil _))) (by exact (.cons (.cellA rfl (Cells.own (.head _)) rfl) (.nil))) rfl ?_ ?_
  · exact (.refl _)
  exact ⟨rfl, rfl⟩
theorem Read_ref5_call (E : Env) (L : List Res) (s : List UInt8) (hs : s.length ≤ 1000000000000) :
    CallV Try.prog 14 #[.string (S s)] E L (rbegin ⟨s, 0, 0, 0⟩).v := by
  refine CallS.toV (CallS.intro (l := [.string (S s)]) _ Try.func14 rfl Try.ntmps14 rfl ?_)
  refine G_seq ?_
  refine G_region ?_
  (refine G_alloc rfl rfl rfl (.none rfl) ?_; intro b2)
  refine G_end ?_
  refine X_then ?_
  refine G_seq ?_
  refine G_region ?_
  refine G_val (V_move rfl rfl) rfl rfl (.none rfl) ?_
  refine G_val (V_build rfl rfl (by simp [fillV, setLs, setL, Value.cells]; rfl)) rfl rfl (.none rfl) ?_
  refine G_callv (k := 69) (.mk rfl rfl rfl rfl) rfl rfl (.none rfl) (reader_call _ _ _ (by first | assumption | omega | (simp; omega) | (simp; done)) _ _ _) ?_
  refine G_storeA rfl rfl rfl rfl (by simp [Value.oneCell']) rfl (.none rfl) (.head _ _ _) rfl ?_
  refine G_end ?_
  refine X_then ?_
  refine G_ret ?_
  refine G_leaveS (.drop _ (.nil _)) (by exact (.cons (.cellA rfl (Cells.own (.head _)) rfl) (.nil))) rfl ?_ ?_
  · exact (.refl _)
  exact ⟨rfl, rfl⟩
theorem Wide2_call (E : Env) (L : List Res) (s : List UInt8) (hs : s.length ≤ 1000000000000) (a e f : Int) (most : Nat) :
    CallV Try.prog 61 #[.agg #[.string (S s), .int .i64 a, .int .i64 e, .int .i64 f], .int .u64 most] E L
      (.tuple #[(rfield (rbegin ⟨s, a, e, f⟩) (rwd (rbegin ⟨s, a, e, f⟩) most) 0).1.v, .int .u64 (rfield (rbegin ⟨s, a, e, f⟩) (rwd (rbegin ⟨s, a, e, f⟩) most) 0).2]) := by
  refine CallS.toV (CallS.intro (l := [.agg #[.string (S s), .int .i64 a, .int .i64 e, .int .i64 f], .int .u64 most]) _ Try.func61 rfl Try.ntmps61 rfl ?_)
  have hok := rbegin_ok ⟨s, a, e, f⟩
  refine G_seq ?_
  refine G_region ?_
  (refine G_boxA rfl rfl rfl rfl (.none rfl) ?_; intro b2)
  (refine G_alloc rfl rfl rfl (.none rfl) ?_; intro b4)
  refine G_val (V_assign rfl rfl) rfl rfl (.none rfl) ?_
  refine G_end ?_
  refine X_then ?_
  refine G_seq ?_
  refine G_region ?_
  refine G_val (V_loadA rfl rfl (Cells.own (.tail _ (.head _))) rfl) rfl rfl (.none rfl) ?_
  refine G_callv (k := 69) (.mk rfl rfl rfl rfl) rfl rfl (.none rfl) (reader_call _ _ _ (by first | assumption | omega | (simp; omega) | (simp; done)) _ _ _) ?_
  refine G_storeA rfl rfl rfl rfl (by simp [Value.oneCell']) rfl (.none rfl) (.tail _ (.head _ _ _)) rfl ?_
  refine G_end ?_
  refine X_then ?_
  refine G_seq ?_
  refine G_seq ?_
  refine G_region ?_
  refine G_val (V_loadA rfl rfl (Cells.own (.tail _ (.head _))) rfl) rfl rfl (.none rfl) ?_
  refine G_callv (k := 96) (.mk rfl rfl rfl rfl) rfl rfl (.none rfl) (fine_call _ _ _ _ _ _) ?_
  refine G_val (V_not rfl rfl) rfl rfl (.none rfl) ?_
  refine G_end ?_
  refine X_then ?_
  generalize rbegin ⟨s, a, e, f⟩ = q at *
  obtain ⟨h1, h2, h3, h4⟩ := hok
  by_cases h5 : q.e = 0
  · have hv := vread_props q.s q.at'
    refine G_cond_f rfl (by simp [*]; done) ?_
    refine G_skip ?_
    refine X_then ?_
    refine G_seq ?_
    refine G_region ?_
    refine G_val (V_fieldAddr rfl rfl (by decide)) rfl rfl (.none rfl) ?_
    refine G_val (V_load rfl rfl (Cell.own (.tail _ (.head _)) rfl)) rfl rfl (.none rfl) ?_
    refine G_val (V_fieldAddr rfl rfl (by decide)) rfl rfl (.none rfl) ?_
    refine G_val (V_load rfl rfl (Cell.own (.tail _ (.head _)) rfl)) rfl rfl (.none rfl) ?_
    refine G_callv (k := 98) (.mk rfl rfl rfl rfl) rfl rfl (.none rfl) (Read2_call _ _ _ (by first | assumption | omega | (simp; omega) | (simp; done)) _) ?_
    dsimp only [rdV]
    refine G_val (V_move rfl rfl) rfl rfl (.none rfl) ?_
    refine G_val (V_extract rfl rfl rfl) rfl rfl (.none rfl) ?_
    refine G_val (V_extract rfl rfl rfl) rfl rfl (.none rfl) ?_
    refine G_val (V_extract rfl rfl rfl) rfl rfl (.none rfl) ?_
    (refine G_alloc rfl rfl rfl (.none rfl) ?_; intro b8)
    refine G_val (V_assign rfl rfl) rfl rfl (.none rfl) ?_
    refine G_val (V_assign rfl rfl) rfl rfl (.none rfl) ?_
    refine G_storeA rfl rfl rfl rfl (by simp [Value.oneCell']) rfl (.none rfl) (.head _ _ _) rfl ?_
    refine G_end ?_
    refine X_then ?_
    refine G_seq ?_
    refine G_seq ?_
    refine G_region ?_
    refine G_val (V_fieldAddr rfl rfl (by decide)) rfl rfl (.none rfl) ?_
    refine G_val (V_load rfl rfl (Cell.own (.head _) rfl)) rfl rfl (.none rfl) ?_
    refine G_val (V_neq rfl rfl rfl) rfl rfl (.none rfl) ?_
    refine G_end ?_
    refine X_then ?_
    refine G_cond rfl (fun H1 => ?_) (fun H1 => ?_)
    · simp only [Bool.and_eq_true, Bool.or_eq_true, Bool.not_eq_true', Bool.not_eq_false', Bool.and_eq_false_iff, Bool.or_eq_false_iff, Bool.not_not, decide_eq_true_eq, decide_eq_false_iff_not, ne_eq, Decidable.not_not, Bool.decide_eq_true] at H1
      refine G_seq ?_
      refine G_region ?_
      refine G_val (V_loadA rfl rfl (Cells.own (.tail _ (.tail _ (.head _)))) rfl) rfl rfl (.none rfl) ?_
      refine G_val (V_loadA rfl rfl (Cells.own (.head _)) rfl) rfl rfl (.none rfl) ?_
      refine G_callv (k := 99) (.mk rfl rfl rfl rfl) rfl rfl (.none rfl) (with_call _ _ _ _ _ _ _ _) ?_
      refine G_storeA rfl rfl rfl rfl (by simp [Value.oneCell']) rfl (.none rfl) (.tail _ (.head _ _ _)) rfl ?_
      refine G_val (V_assign rfl rfl) rfl rfl (.none rfl) ?_
      refine G_end ?_
      refine X_then ?_
      refine G_ret ?_
      refine X_then_ret ?_
      refine G_leaveS (.drop _ (.drop _ (.drop _ (.nil _)))) (by exact (.cons (.cellA rfl (Cells.own (.tail _ (.head _))) rfl) (.cons (.tmp rfl) (.nil)))) rfl ?_ ?_
      · exact (.refl _)
      exact ⟨(by first | rfl | (simp (discharger := omega) only [resVal, rfield, rwd, rwide, rback, rwith, if_pos, if_neg]; first | done | rfl) | (simp [resVal, rfield, rwd, rwide, rback, rwith, *]; done) | ((try simp only [resVal, rfield, rwd, rwide, rback, rwith]); (repeat' split) <;> first | rfl | (exfalso; omega) | (simp_all; done) | (simp_all; omega))), (by first | rfl | (simp (discharger := omega) only [resVal, rfield, rwd, rwide, rback, rwith, if_pos, if_neg]; first | done | rfl) | (simp [resVal, rfield, rwd, rwide, rback, rwith, *]; done) | ((try simp only [resVal, rfield, rwd, rwide, rback, rwith]); (repeat' split) <;> first | rfl | (exfalso; omega) | (simp_all; done) | (simp_all; omega)))⟩
    simp only [Bool.and_eq_true, Bool.or_eq_true, Bool.not_eq_true', Bool.not_eq_false', Bool.and_eq_false_iff, Bool.or_eq_false_iff, Bool.not_not, decide_eq_true_eq, decide_eq_false_iff_not, ne_eq, Decidable.not_not, Bool.decide_eq_true] at H1
    refine G_skip ?_
    refine X_then ?_
    refine G_seq ?_
    refine G_seq ?_
    refine G_region ?_
    refine G_val (V_move rfl rfl) rfl rfl (.none rfl) ?_
    refine G_val (V_move rfl rfl) rfl rfl (.none rfl) ?_
    refine G_val (V_gtr rfl rfl rfl) rfl rfl (.none rfl) ?_
    refine G_end ?_
    refine X_then ?_
    refine G_cond rfl (fun H2 => ?_) (fun H2 => ?_)
    · simp only [Bool.and_eq_true, Bool.or_eq_true, Bool.not_eq_true', Bool.not_eq_false', Bool.and_eq_false_iff, Bool.or_eq_false_iff, Bool.not_not, decide_eq_true_eq, decide_eq_false_iff_not, ne_eq, Decidable.not_not, Bool.decide_eq_true] at H2
      refine G_seq ?_
      refine G_region ?_
      refine G_val (V_loadA rfl rfl (Cells.own (.tail _ (.tail _ (.head _)))) rfl) rfl rfl (.none rfl) ?_
      refine G_val (V_fieldAddr rfl rfl (by decide)) rfl rfl (.none rfl) ?_
      refine G_val (V_load rfl rfl (Cell.own (.tail _ (.tail _ (.head _))) rfl)) rfl rfl (.none rfl) ?_
      refine G_callv (k := 95) (.mk rfl rfl rfl rfl) rfl rfl (.none rfl) (fail_call _ _ _ _ _ _ _ _) ?_
      refine G_storeA rfl rfl rfl rfl (by simp [Value.oneCell']) rfl (.none rfl) (.tail _ (.head _ _ _)) rfl ?_
      refine G_val (V_assign rfl rfl) rfl rfl (.none rfl) ?_
      refine G_end ?_
      refine X_then ?_
      refine G_ret ?_
      refine X_then_ret ?_
      refine G_leaveS (.drop _ (.drop _ (.drop _ (.nil _)))) (by exact (.cons (.cellA rfl (Cells.own (.tail _ (.head _))) rfl) (.cons (.tmp rfl) (.nil)))) rfl ?_ ?_
      · exact (.refl _)
      exact ⟨(by first | rfl | (simp (discharger := omega) only [resVal, rfield, rwd, rwide, rback, rwith, if_pos, if_neg]; first | done | rfl) | (simp [resVal, rfield, rwd, rwide, rback, rwith, *]; done) | ((try simp only [resVal, rfield, rwd, rwide, rback, rwith]); (repeat' split) <;> first | rfl | (exfalso; omega) | (simp_all; done) | (simp_all; omega))), (by first | rfl | (simp (discharger := omega) only [resVal, rfield, rwd, rwide, rback, rwith, if_pos, if_neg]; first | done | rfl) | (simp [resVal, rfield, rwd, rwide, rback, rwith, *]; done) | ((try simp only [resVal, rfield, rwd, rwide, rback, rwith]); (repeat' split) <;> first | rfl | (exfalso; omega) | (simp_all; done) | (simp_all; omega)))⟩
    simp only [Bool.and_eq_true, Bool.or_eq_true, Bool.not_eq_true', Bool.not_eq_false', Bool.and_eq_false_iff, Bool.or_eq_false_iff, Bool.not_not, decide_eq_true_eq, decide_eq_false_iff_not, ne_eq, Decidable.not_not, Bool.decide_eq_true] at H2
    refine G_skip ?_
    refine X_then ?_
    refine G_seq ?_
    refine G_region ?_
    refine G_val (V_move rfl rfl) rfl rfl (.none rfl) ?_
    refine G_val (V_fieldAddr rfl rfl (by decide)) rfl rfl (.none rfl) ?_
    refine G_storeAt rfl rfl rfl rfl rfl rfl (.none rfl) (.tail _ (.tail _ (.head _ _ _))) (Nat.le_of_ble_eq_true rfl) (by simp only [putAll, Nat.zero_add, Nat.reduceAdd, List.setIfInBounds_toArray, List.set_cons_succ, List.set_cons_zero]; rfl) ?_
    refine G_end ?_
    refine X_then ?_
    refine G_seq ?_
    refine G_region ?_
    refine G_val (V_loadA rfl rfl (Cells.own (.tail _ (.tail _ (.head _)))) rfl) rfl rfl (.none rfl) ?_
    refine G_val (V_move rfl rfl) rfl rfl (.none rfl) ?_
    refine G_storeA rfl rfl rfl rfl (by simp [Value.oneCell']) rfl (.none rfl) (.tail _ (.head _ _ _)) rfl ?_
    refine G_val (V_assign rfl rfl) rfl rfl (.none rfl) ?_
    refine G_end ?_
    refine X_then ?_
    refine G_ret ?_
    refine G_leaveS (.drop _ (.drop _ (.drop _ (.nil _)))) (by exact (.cons (.cellA rfl (Cells.own (.tail _ (.head _))) rfl) (.cons (.tmp rfl) (.nil)))) rfl ?_ ?_
    · exact (.refl _)
    exact ⟨(by first | rfl | (simp (discharger := omega) only [resVal, rfield, rwd, rwide, rback, rwith, if_pos, if_neg]; first | done | rfl) | (simp [resVal, rfield, rwd, rwide, rback, rwith, *]; done) | ((try simp only [resVal, rfield, rwd, rwide, rback, rwith]); (repeat' split) <;> first | rfl | (exfalso; omega) | (simp_all; done) | (simp_all; omega))), (by first | rfl | (simp (discharger := omega) only [resVal, rfield, rwd, rwide, rback, rwith, if_pos, if_neg]; first | done | rfl) | (simp [resVal, rfield, rwd, rwide, rback, rwith, *]; done) | ((try simp only [resVal, rfield, rwd, rwide, rback, rwith]); (repeat' split) <;> first | rfl | (exfalso; omega) | (simp_all; done) | (simp_all; omega)))⟩
  · refine G_cond_t rfl (by simp [*]; done) ?_
    refine G_seq ?_
    refine G_region ?_
    refine G_val (V_loadA rfl rfl (Cells.own (.tail _ (.head _))) rfl) rfl rfl (.none rfl) ?_
    refine G_storeA rfl rfl rfl rfl (by simp [Value.oneCell']) rfl (.none rfl) (.head _ _ _) rfl ?_
    refine G_val (V_assign rfl rfl) rfl rfl (.none rfl) ?_
    refine G_end ?_
    refine X_then ?_
    refine G_ret ?_
    refine X_then_ret ?_
    refine G_leaveS (.drop _ (.drop _ (.nil _))) (by exact (.cons (.cellA rfl (Cells.own (.head _)) rfl) (.cons (.tmp rfl) (.nil)))) rfl ?_ ?_
    · exact (.refl _)
    exact ⟨(by first | rfl | (simp (discharger := omega) only [resVal, rfield, if_pos, if_neg]; first | done | rfl) | (simp [resVal, rfield, *]; done) | ((try simp only [resVal, rfield]); (repeat' split) <;> first | rfl | (exfalso; omega) | (simp_all; done) | (simp_all; omega))), (by first | rfl | (simp (discharger := omega) only [resVal, rfield, if_pos, if_neg]; first | done | rfl) | (simp [resVal, rfield, *]; done) | ((try simp only [resVal, rfield]); (repeat' split) <;> first | rfl | (exfalso; omega) | (simp_all; done) | (simp_all; omega)))⟩
end Go.Proofs.Ytlkfbokdbfnicaa
