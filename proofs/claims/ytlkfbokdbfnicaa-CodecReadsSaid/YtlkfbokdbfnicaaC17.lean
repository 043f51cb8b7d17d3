import Derived.Test.YtlkfbokdbfnicaaSep17
import Derived.Test.YtlkfbokdbfnicaaInst
import Derived.Test.YtlkfbokdbfnicaaC16
set_option linter.unusedSimpArgs false
set_option linter.unusedVariables false
set_option maxHeartbeats 2000000
set_option maxRecDepth 20000
namespace Go.Proofs.Ytlkfbokdbfnicaa
open Go.RowKit

set_option maxHeartbeats 4000000 in
theorem Reads5_call (E : Env) (L : List Res) (s : List UInt8) (a e f least most n : Int) (wide : Nat) (err : Int) (hm : most ≤ 9223372036854775807) (hn : n ≤ 9223372036854775807) :
    CallS Try.prog 10 #[.agg #[.string (S s), .int .i64 a, .int .i64 e, .int .i64 f], .int .i64 least, .int .i64 most, .int .i64 n, .int .u64 wide, .int .i64 err] E L (fun r _ L' => r = .bool true ∧ L' = L) := by
  refine CallS.intro (l := [.agg #[.string (S s), .int .i64 a, .int .i64 e, .int .i64 f], .int .i64 least, .int .i64 most, .int .i64 n, .int .u64 wide, .int .i64 err]) _ Try.func10 rfl Try.ntmps10 rfl ?_
  by_cases hlen : 100 < s.length
  · refine G_seq ?_
    refine G_region ?_
    (refine G_boxA rfl rfl rfl rfl (.none rfl) ?_; intro b6)
    refine G_val (V_assign rfl rfl) rfl rfl (.none rfl) ?_
    refine G_end ?_
    refine X_then ?_
    refine G_seq ?_
    refine G_seq ?_
    refine G_region ?_
    refine G_val (V_fieldAddr rfl rfl (by decide)) rfl rfl (.none rfl) ?_
    refine G_val (V_load rfl rfl (Cell.own (.head _) rfl)) rfl rfl (.none rfl) ?_
    refine G_val (V_len rfl rfl) rfl rfl (.none rfl) ?_
    refine G_val (V_gtr rfl rfl rfl) rfl rfl (.none rfl) ?_
    refine G_end ?_
    refine X_then ?_
    refine G_cond_t rfl (decide_eq_true (by omega)) ?_
    refine G_seq ?_
    refine G_region ?_
    refine G_callv (k := 12) (.mk rfl rfl rfl rfl) rfl rfl (.none rfl) (awake5_call _ _) ?_
    refine G_val (V_assign rfl rfl) rfl rfl (.none rfl) ?_
    refine G_end ?_
    refine X_then ?_
    refine G_ret ?_
    refine X_then_ret ?_
    refine G_leaveS (.drop _ (.nil _)) (by exact (.cons (.tmp rfl) (.nil))) rfl ?_ ?_
    · exact (.refl _)
    exact ⟨(by kernel_rfl), rfl⟩
  refine G_seq ?_
  refine G_region ?_
  (refine G_boxA rfl rfl rfl rfl (.none rfl) ?_; intro b6)
  refine G_val (V_assign rfl rfl) rfl rfl (.none rfl) ?_
  refine G_end ?_
  refine X_then ?_
  refine G_seq ?_
  refine G_seq ?_
  refine G_region ?_
  refine G_val (V_fieldAddr rfl rfl (by decide)) rfl rfl (.none rfl) ?_
  refine G_val (V_load rfl rfl (Cell.own (.head _) rfl)) rfl rfl (.none rfl) ?_
  refine G_val (V_len rfl rfl) rfl rfl (.none rfl) ?_
  refine G_val (V_gtr rfl rfl rfl) rfl rfl (.none rfl) ?_
  refine G_end ?_
  refine X_then ?_
  refine G_cond_f rfl (decide_eq_false (by omega)) ?_
  refine G_skip ?_
  refine X_then ?_
  refine G_seq ?_
  refine G_region ?_
  refine G_val (V_loadA rfl rfl (Cells.own (.head _)) rfl) rfl rfl (.none rfl) ?_
  refine G_val (V_move rfl rfl) rfl rfl (.none rfl) ?_
  refine G_val (V_move rfl rfl) rfl rfl (.none rfl) ?_
  refine G_callv (k := 51) (.mk rfl rfl rfl rfl) rfl rfl (.none rfl) (Number_call' _ _ _ (by first | assumption | exact SlE.toI (by assumption) rfl | exact SlE.toS (by assumption) rfl | omega | (simp; omega) | (simp; done)) _ _ _ _ _ (by first | assumption | exact SlE.toI (by assumption) rfl | exact SlE.toS (by assumption) rfl | omega | (simp; omega) | (simp; done))) ?_
  refine G_val (V_move rfl rfl) rfl rfl (.none rfl) ?_
  refine G_val (V_extract rfl rfl rfl) rfl rfl (.none rfl) ?_
  refine G_val (V_extract rfl rfl rfl) rfl rfl (.none rfl) ?_
  (refine G_alloc rfl rfl rfl (.none rfl) ?_; intro b13)
  refine G_storeA rfl rfl rfl rfl (by simp [Value.oneCell']) rfl (.none rfl) (.head _ _ _) rfl ?_
  refine G_val (V_assign rfl rfl) rfl rfl (.none rfl) ?_
  refine G_end ?_
  refine X_then ?_
  refine G_seq ?_
  refine G_region ?_
  refine G_val (V_loadA rfl rfl (Cells.own (.tail _ (.head _))) rfl) rfl rfl (.none rfl) ?_
  refine G_val (V_move rfl rfl) rfl rfl (.none rfl) ?_
  refine G_val (V_move rfl rfl) rfl rfl (.none rfl) ?_
  refine G_callv (k := 59) (.mk rfl rfl rfl rfl) rfl rfl (.none rfl) (Number2_call' _ _ _ (by first | assumption | exact SlE.toI (by assumption) rfl | exact SlE.toS (by assumption) rfl | omega | (simp; omega) | (simp; done)) _ _ _ _ _ (by first | assumption | exact SlE.toI (by assumption) rfl | exact SlE.toS (by assumption) rfl | omega | (simp; omega) | (simp; done))) ?_
  refine G_val (V_move rfl rfl) rfl rfl (.none rfl) ?_
  refine G_val (V_extract rfl rfl rfl) rfl rfl (.none rfl) ?_
  refine G_val (V_extract rfl rfl rfl) rfl rfl (.none rfl) ?_
  (refine G_alloc rfl rfl rfl (.none rfl) ?_; intro b15)
  refine G_storeA rfl rfl rfl rfl (by simp [Value.oneCell']) rfl (.none rfl) (.head _ _ _) rfl ?_
  refine G_val (V_assign rfl rfl) rfl rfl (.none rfl) ?_
  refine G_end ?_
  refine X_then ?_
  refine G_seq ?_
  refine G_seq ?_
  refine G_region ?_
  refine G_val (V_loadA rfl rfl (Cells.own (.tail _ (.head _))) rfl) rfl rfl (.none rfl) ?_
  refine G_val (V_loadA rfl rfl (Cells.own (.head _)) rfl) rfl rfl (.none rfl) ?_
  refine G_val (V_aneq_27 rfl rfl rfl) rfl rfl (.none rfl) ?_
  refine G_val (V_move rfl rfl) rfl rfl (.none rfl) ?_
  refine G.bool_f 45 rfl (by simp [*]; done) ?_
  refine G_val (V_move rfl rfl) rfl rfl (.yes rfl rfl rfl rfl) ?_
  refine G_val (V_move rfl rfl) rfl rfl (.yes rfl rfl rfl rfl) ?_
  refine G_val (V_neq rfl rfl rfl) rfl rfl (.yes rfl rfl rfl rfl) ?_
  refine G_val (V_pick_f rfl rfl rfl) rfl rfl (.none rfl) ?_
  refine G_end ?_
  refine X_then ?_
  refine G_cond_f rfl (decide_eq_false (by omega)) ?_
  refine G_skip ?_
  refine X_then ?_
  refine G_seq ?_
  refine G_region ?_
  refine G_val (V_loadA rfl rfl (Cells.own (.tail _ (.tail _ (.head _)))) rfl) rfl rfl (.none rfl) ?_
  refine G_val (V_move rfl rfl) rfl rfl (.none rfl) ?_
  refine G_callv (k := 60) (.mk rfl rfl rfl rfl) rfl rfl (.none rfl) (Wide_call' _ _ _ (by first | assumption | exact SlE.toI (by assumption) rfl | exact SlE.toS (by assumption) rfl | omega | (simp; omega) | (simp; done)) _ _ _ _) ?_
  refine G_val (V_move rfl rfl) rfl rfl (.none rfl) ?_
  refine G_val (V_extract rfl rfl rfl) rfl rfl (.none rfl) ?_
  refine G_val (V_extract rfl rfl rfl) rfl rfl (.none rfl) ?_
  refine G_storeA rfl rfl rfl rfl (by simp [Value.oneCell']) rfl (.none rfl) (.tail _ (.head _ _ _)) rfl ?_
  refine G_val (V_assign rfl rfl) rfl rfl (.none rfl) ?_
  refine G_end ?_
  refine X_then ?_
  refine G_seq ?_
  refine G_region ?_
  refine G_val (V_loadA rfl rfl (Cells.own (.tail _ (.tail _ (.head _)))) rfl) rfl rfl (.none rfl) ?_
  refine G_val (V_move rfl rfl) rfl rfl (.none rfl) ?_
  refine G_callv (k := 61) (.mk rfl rfl rfl rfl) rfl rfl (.none rfl) (Wide2_call' _ _ _ (by first | assumption | exact SlE.toI (by assumption) rfl | exact SlE.toS (by assumption) rfl | omega | (simp; omega) | (simp; done)) _ _ _ _) ?_
  refine G_val (V_move rfl rfl) rfl rfl (.none rfl) ?_
  refine G_val (V_extract rfl rfl rfl) rfl rfl (.none rfl) ?_
  refine G_val (V_extract rfl rfl rfl) rfl rfl (.none rfl) ?_
  refine G_storeA rfl rfl rfl rfl (by simp [Value.oneCell']) rfl (.none rfl) (.head _ _ _) rfl ?_
  refine G_val (V_assign rfl rfl) rfl rfl (.none rfl) ?_
  refine G_end ?_
  refine X_then ?_
  refine G_seq ?_
  refine G_seq ?_
  refine G_region ?_
  refine G_val (V_loadA rfl rfl (Cells.own (.tail _ (.head _))) rfl) rfl rfl (.none rfl) ?_
  refine G_val (V_loadA rfl rfl (Cells.own (.head _)) rfl) rfl rfl (.none rfl) ?_
  refine G_val (V_aneq_27 rfl rfl rfl) rfl rfl (.none rfl) ?_
  refine G_val (V_move rfl rfl) rfl rfl (.none rfl) ?_
  refine G.bool_f 65 rfl (by simp [*]; done) ?_
  refine G_val (V_move rfl rfl) rfl rfl (.yes rfl rfl rfl rfl) ?_
  refine G_val (V_move rfl rfl) rfl rfl (.yes rfl rfl rfl rfl) ?_
  refine G_val (V_neq rfl rfl rfl) rfl rfl (.yes rfl rfl rfl rfl) ?_
  refine G_val (V_pick_f rfl rfl rfl) rfl rfl (.none rfl) ?_
  refine G_end ?_
  refine X_then ?_
  refine G_cond_f rfl (decide_eq_false (by omega)) ?_
  refine G_skip ?_
  refine X_then ?_
  refine G_seq ?_
  refine G_region ?_
  refine G_val (V_loadA rfl rfl (Cells.own (.tail _ (.tail _ (.head _)))) rfl) rfl rfl (.none rfl) ?_
  refine G_val (V_move rfl rfl) rfl rfl (.none rfl) ?_
  refine G_callv (k := 52) (.mk rfl rfl rfl rfl) rfl rfl (.none rfl) (String_call' _ _ _ (by first | assumption | exact SlE.toI (by assumption) rfl | exact SlE.toS (by assumption) rfl | omega | (simp; omega) | (simp; done)) _ _ _ _ (by first | assumption | exact SlE.toI (by assumption) rfl | exact SlE.toS (by assumption) rfl | omega | (simp; omega) | (simp; done))) ?_
  refine G_val (V_move rfl rfl) rfl rfl (.none rfl) ?_
  refine G_val (V_extract rfl rfl rfl) rfl rfl (.none rfl) ?_
  refine G_val (V_extract rfl rfl rfl) rfl rfl (.none rfl) ?_
  refine G_storeA rfl rfl rfl rfl (by simp [Value.oneCell']) rfl (.none rfl) (.tail _ (.head _ _ _)) rfl ?_
  refine G_val (V_assign rfl rfl) rfl rfl (.none rfl) ?_
  refine G_end ?_
  refine X_then ?_
  refine G_seq ?_
  refine G_region ?_
  refine G_val (V_loadA rfl rfl (Cells.own (.tail _ (.tail _ (.head _)))) rfl) rfl rfl (.none rfl) ?_
  refine G_val (V_move rfl rfl) rfl rfl (.none rfl) ?_
  refine G_callv (k := 62) (.mk rfl rfl rfl rfl) rfl rfl (.none rfl) (String2_call' _ _ _ (by first | assumption | exact SlE.toI (by assumption) rfl | exact SlE.toS (by assumption) rfl | omega | (simp; omega) | (simp; done)) _ _ _ _ (by first | assumption | exact SlE.toI (by assumption) rfl | exact SlE.toS (by assumption) rfl | omega | (simp; omega) | (simp; done))) ?_
  refine G_val (V_move rfl rfl) rfl rfl (.none rfl) ?_
  refine G_val (V_extract rfl rfl rfl) rfl rfl (.none rfl) ?_
  refine G_val (V_extract rfl rfl rfl) rfl rfl (.none rfl) ?_
  refine G_storeA rfl rfl rfl rfl (by simp [Value.oneCell']) rfl (.none rfl) (.head _ _ _) rfl ?_
  refine G_val (V_assign rfl rfl) rfl rfl (.none rfl) ?_
  refine G_end ?_
  refine X_then ?_
  refine G_seq ?_
  refine G_seq ?_
  refine G_region ?_
  refine G_val (V_loadA rfl rfl (Cells.own (.tail _ (.head _))) rfl) rfl rfl (.none rfl) ?_
  refine G_val (V_loadA rfl rfl (Cells.own (.head _)) rfl) rfl rfl (.none rfl) ?_
  refine G_val (V_aneq_27 rfl rfl rfl) rfl rfl (.none rfl) ?_
  refine G_val (V_move rfl rfl) rfl rfl (.none rfl) ?_
  refine G.bool_f 85 rfl (by simp [*]; done) ?_
  refine G_val (V_move rfl rfl) rfl rfl (.yes rfl rfl rfl rfl) ?_
  refine G_val (V_move rfl rfl) rfl rfl (.yes rfl rfl rfl rfl) ?_
  refine G_val (V_sneq rfl rfl rfl) rfl rfl (.yes rfl rfl rfl rfl) ?_
  refine G_val (V_pick_f rfl rfl rfl) rfl rfl (.none rfl) ?_
  refine G_end ?_
  refine X_then ?_
  refine G_cond_f rfl (by simp [*]; done) ?_
  refine G_skip ?_
  refine X_then ?_
  refine G_seq ?_
  refine G_region ?_
  refine G_val (V_loadA rfl rfl (Cells.own (.tail _ (.tail _ (.head _)))) rfl) rfl rfl (.none rfl) ?_
  refine G_val (V_move rfl rfl) rfl rfl (.none rfl) ?_
  refine G_callv (k := 54) (.mk rfl rfl rfl rfl) rfl rfl (.none rfl) (Fixed_call' _ _ _ (by first | assumption | exact SlE.toI (by assumption) rfl | exact SlE.toS (by assumption) rfl | omega | (simp; omega) | (simp; done)) _ _ _ _) ?_
  refine G_val (V_move rfl rfl) rfl rfl (.none rfl) ?_
  refine G_val (V_extract rfl rfl rfl) rfl rfl (.none rfl) ?_
  refine G_val (V_extract rfl rfl rfl) rfl rfl (.none rfl) ?_
  refine G_storeA rfl rfl rfl rfl (by simp [Value.oneCell']) rfl (.none rfl) (.tail _ (.head _ _ _)) rfl ?_
  refine G_val (V_assign rfl rfl) rfl rfl (.none rfl) ?_
  refine G_end ?_
  refine X_then ?_
  refine G_seq ?_
  refine G_region ?_
  refine G_val (V_loadA rfl rfl (Cells.own (.tail _ (.tail _ (.head _)))) rfl) rfl rfl (.none rfl) ?_
  refine G_val (V_move rfl rfl) rfl rfl (.none rfl) ?_
  refine G_callv (k := 63) (.mk rfl rfl rfl rfl) rfl rfl (.none rfl) (Fixed2_call' _ _ _ (by first | assumption | exact SlE.toI (by assumption) rfl | exact SlE.toS (by assumption) rfl | omega | (simp; omega) | (simp; done)) _ _ _ _) ?_
  refine G_val (V_move rfl rfl) rfl rfl (.none rfl) ?_
  refine G_val (V_extract rfl rfl rfl) rfl rfl (.none rfl) ?_
  refine G_val (V_extract rfl rfl rfl) rfl rfl (.none rfl) ?_
  refine G_storeA rfl rfl rfl rfl (by simp [Value.oneCell']) rfl (.none rfl) (.head _ _ _) rfl ?_
  refine G_val (V_assign rfl rfl) rfl rfl (.none rfl) ?_
  refine G_end ?_
  refine X_then ?_
  refine G_seq ?_
  refine G_seq ?_
  refine G_region ?_
  refine G_val (V_loadA rfl rfl (Cells.own (.tail _ (.head _))) rfl) rfl rfl (.none rfl) ?_
  refine G_val (V_loadA rfl rfl (Cells.own (.head _)) rfl) rfl rfl (.none rfl) ?_
  refine G_val (V_aneq_27 rfl rfl rfl) rfl rfl (.none rfl) ?_
  refine G_val (V_move rfl rfl) rfl rfl (.none rfl) ?_
  refine G.bool_f 105 rfl (by simp [*]; done) ?_
  refine G_val (V_move rfl rfl) rfl rfl (.yes rfl rfl rfl rfl) ?_
  refine G_val (V_move rfl rfl) rfl rfl (.yes rfl rfl rfl rfl) ?_
  refine G_val (V_sneq rfl rfl rfl) rfl rfl (.yes rfl rfl rfl rfl) ?_
  refine G_val (V_pick_f rfl rfl rfl) rfl rfl (.none rfl) ?_
  refine G_end ?_
  refine X_then ?_
  refine G_cond_f rfl (by simp [*]; done) ?_
  refine G_skip ?_
  refine X_then ?_
  refine G_seq ?_
  refine G_region ?_
  refine G_val (V_loadA rfl rfl (Cells.own (.tail _ (.tail _ (.head _)))) rfl) rfl rfl (.none rfl) ?_
  refine G_val (V_move rfl rfl) rfl rfl (.none rfl) ?_
  refine G_val (V_move rfl rfl) rfl rfl (.none rfl) ?_
  refine G_val (V_move rfl rfl) rfl rfl (.none rfl) ?_
  refine G_call (k := 53) (.mk rfl rfl rfl rfl) rfl rfl (.none rfl) (Ints_call' _ _ _ (by first | assumption | exact SlE.toI (by assumption) rfl | exact SlE.toS (by assumption) rfl | omega | (simp; omega) | (simp; done)) _ _ _ _ _ _ (by first | assumption | exact SlE.toI (by assumption) rfl | exact SlE.toS (by assumption) rfl | omega | (simp; omega) | (simp; done))) ?_
  rintro r1 E2 L3 hE4 ⟨z5, ⟨z6, ⟨rfl, ⟨Z7, rfl⟩⟩⟩⟩
  refine G_val (V_move rfl rfl) rfl rfl (.none rfl) ?_
  refine G_val (V_extract rfl rfl rfl) rfl rfl (.none rfl) ?_
  refine G_val (V_extract rfl rfl rfl) rfl rfl (.none rfl) ?_
  refine G_storeA rfl rfl rfl rfl (by simp [Value.oneCell']) rfl (.none rfl) (.tail _ (.head _ _ _)) rfl ?_
  refine G_val (V_assign rfl rfl) rfl rfl (.none rfl) ?_
  refine G_end ?_
  refine X_then ?_
  refine G_seq ?_
  refine G_region ?_
  refine G_val (V_loadA rfl rfl (Cells.own (.tail _ (.tail _ (.head _)))) rfl) rfl rfl (.none rfl) ?_
  refine G_val (V_move rfl rfl) rfl rfl (.none rfl) ?_
  refine G_val (V_move rfl rfl) rfl rfl (.none rfl) ?_
  refine G_val (V_move rfl rfl) rfl rfl (.none rfl) ?_
  refine G_call (k := 64) (.mk rfl rfl rfl rfl) rfl rfl (.none rfl) (Ints2_call' _ _ _ (by first | assumption | exact SlE.toI (by assumption) rfl | exact SlE.toS (by assumption) rfl | omega | (simp; omega) | (simp; done)) _ _ _ _ _ _ (by first | assumption | exact SlE.toI (by assumption) rfl | exact SlE.toS (by assumption) rfl | omega | (simp; omega) | (simp; done))) ?_
  rintro r8 E9 L10 hE11 ⟨z12, ⟨z13, ⟨rfl, ⟨Z14, rfl⟩⟩⟩⟩
  replace Z7 := Z7.mono hE11
  refine G_val (V_move rfl rfl) rfl rfl (.none rfl) ?_
  refine G_val (V_extract rfl rfl rfl) rfl rfl (.none rfl) ?_
  refine G_val (V_extract rfl rfl rfl) rfl rfl (.none rfl) ?_
  refine G_storeA rfl rfl rfl rfl (by simp [Value.oneCell']) rfl (.none rfl) (.head _ _ _) rfl ?_
  refine G_val (V_assign rfl rfl) rfl rfl (.none rfl) ?_
  refine G_end ?_
  refine X_then ?_
  refine G_seq ?_
  refine G_draw mixed (by kernel_rfl) ?_
  refine Q_val (V_loadA rfl rfl (Cells.own (.tail _ (.head _))) rfl) rfl rfl (.none rfl) ?_
  refine Q_val (V_loadA rfl rfl (Cells.own (.head _)) rfl) rfl rfl (.none rfl) ?_
  refine Q_val (V_aeql_27 rfl rfl rfl) rfl rfl (.none rfl) ?_
  refine Q_val (V_move rfl rfl) rfl rfl (.none rfl) ?_
  refine Q_bool_t 129 rfl (by simp [*]; done) ?_
  refine Q_val (V_move rfl rfl) rfl rfl (.yes rfl rfl rfl rfl) ?_
  refine Q_val (V_move rfl rfl) rfl rfl (.yes rfl rfl rfl rfl) ?_
  refine Q_callv (k := 31) (.mk rfl rfl rfl rfl) rfl rfl (.yes rfl rfl rfl rfl) (SameInts_call' _ _ _ _ _ _ _ _ _ _ (by first | assumption | exact SlE.toI (by assumption) rfl | exact SlE.toS (by assumption) rfl | omega | (simp; omega) | (simp; done)) (by first | assumption | exact SlE.toI (by assumption) rfl | exact SlE.toS (by assumption) rfl | omega | (simp; omega) | (simp; done)) (by first | assumption | exact SlE.toI (by assumption) rfl | exact SlE.toS (by assumption) rfl | omega | (simp; omega) | (simp; done)) (by first | assumption | exact SlE.toI (by assumption) rfl | exact SlE.toS (by assumption) rfl | omega | (simp; omega) | (simp; done))) ?_
  refine Q_val (V_pick_t rfl rfl rfl) rfl rfl (.none rfl) ?_
  refine Q_val (V_move rfl rfl) rfl rfl (.none rfl) ?_
  refine Q_bool_t 134 rfl (by simp [*]; done) ?_
  refine Q_val (V_loadA rfl rfl (Cells.own (.tail _ (.tail _ (.head _)))) rfl) rfl rfl (.yes rfl rfl rfl rfl) ?_
  refine Q_val (V_move rfl rfl) rfl rfl (.yes rfl rfl rfl rfl) ?_
  refine Q_val (V_move rfl rfl) rfl rfl (.yes rfl rfl rfl rfl) ?_
  refine Q_callv (k := 65) (.mk rfl rfl rfl rfl) rfl rfl (.yes rfl rfl rfl rfl) (Fail_call' _ _ _ (by first | assumption | exact SlE.toI (by assumption) rfl | exact SlE.toS (by assumption) rfl | omega | (simp; omega) | (simp; done)) _ _ _ _ _) ?_
  dsimp only [Go.Proofs.Ytlkfbokdbfnicaa.Rdr.v]
  refine Q_val (V_loadA rfl rfl (Cells.own (.tail _ (.tail _ (.head _)))) rfl) rfl rfl (.yes rfl rfl rfl rfl) ?_
  refine Q_val (V_move rfl rfl) rfl rfl (.yes rfl rfl rfl rfl) ?_
  refine Q_val (V_move rfl rfl) rfl rfl (.yes rfl rfl rfl rfl) ?_
  refine Q_callv (k := 66) (.mk rfl rfl rfl rfl) rfl rfl (.yes rfl rfl rfl rfl) (Fail2_call' _ _ _ (by first | assumption | exact SlE.toI (by assumption) rfl | exact SlE.toS (by assumption) rfl | omega | (simp; omega) | (simp; done)) _ _ _ _ _) ?_
  dsimp only [Go.Proofs.Ytlkfbokdbfnicaa.Rdr.v]
  refine Q_val (V_aeql_27 rfl rfl rfl) rfl rfl (.yes rfl rfl rfl rfl) ?_
  refine Q_val (V_pick_t rfl rfl rfl) rfl rfl (.none rfl) ?_
  refine Q_val (V_move rfl rfl) rfl rfl (.none rfl) ?_
  refine Q_bool_t 145 rfl (by simp [*]; done) ?_
  refine Q_val (V_loadA rfl rfl (Cells.own (.tail _ (.tail _ (.head _)))) rfl) rfl rfl (.yes rfl rfl rfl rfl) ?_
  refine Q_callv (k := 56) (.mk rfl rfl rfl rfl) rfl rfl (.yes rfl rfl rfl rfl) (End_call' _ _ _ (by first | assumption | exact SlE.toI (by assumption) rfl | exact SlE.toS (by assumption) rfl | omega | (simp; omega) | (simp; done)) _ _ _) ?_
  refine Q_val (V_loadA rfl rfl (Cells.own (.tail _ (.tail _ (.head _)))) rfl) rfl rfl (.yes rfl rfl rfl rfl) ?_
  refine Q_callv (k := 67) (.mk rfl rfl rfl rfl) rfl rfl (.yes rfl rfl rfl rfl) (End2_call' _ _ _ (by first | assumption | exact SlE.toI (by assumption) rfl | exact SlE.toS (by assumption) rfl | omega | (simp; omega) | (simp; done)) _ _ _) ?_
  refine Q_val (V_aeql_25 rfl rfl rfl) rfl rfl (.yes rfl rfl rfl rfl) ?_
  refine Q_val (V_pick_t rfl rfl rfl) rfl rfl (.none rfl) ?_
  refine Q_val (V_move rfl rfl) rfl rfl (.none rfl) ?_
  refine Q_bool_t 152 rfl (decide_eq_true (by omega)) ?_
  refine Q_callv (k := 12) (.mk rfl rfl rfl rfl) rfl rfl (.yes rfl rfl rfl rfl) (awake5_call _ _) ?_
  refine Q_val (V_pick_t rfl rfl rfl) rfl rfl (.none rfl) ?_
  refine Q_val (V_assign rfl rfl) rfl rfl (.none rfl) ?_
  refine Q_end ?_
  refine X_then ?_
  refine G_ret ?_
  refine G_leaveS (.drop _ (.drop _ (.drop _ (.nil _)))) (by exact (.cons (.tmp rfl) (.nil))) rfl ?_ ?_
  · exact (hE4.trans hE11)
  exact ⟨(by kernel_rfl), rfl⟩
end Go.Proofs.Ytlkfbokdbfnicaa
