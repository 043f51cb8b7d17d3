import Derived.Test.YtlkfbokdbfnicaaSep17
import Derived.Test.YtlkfbokdbfnicaaInst
import Derived.Test.YtlkfbokdbfnicaaC12
import Derived.Lib.Hide
set_option linter.unusedSimpArgs false
set_option linter.unusedVariables false
set_option maxHeartbeats 2000000
set_option maxRecDepth 20000
namespace Go.Proofs.Ytlkfbokdbfnicaa
open Go.RowKit

theorem full_ok {q : Rdr} (h5 : q.e = 0) (h6 : (rwide q).1.e = 0) (h7 : (rwide q).2 < 18446744073709551616) : rfield q (rwd q 18446744073709551615) 0 = rwide q := by
  simp (discharger := omega) only [rfield, rwd, rback, if_pos, if_neg]
theorem full_err {q : Rdr} (h5 : q.e = 0) (h6 : (rwide q).1.e ≠ 0) : rfield q (rwd q 18446744073709551615) 0 = (⟨q.s, q.at', (rwide q).1.e, (rwide q).1.fa⟩, 0) := by
  have hs := rwide_s q
  simp (discharger := omega) only [rfield, rwd, rback, hs, if_pos, if_neg]

theorem String2_call (E : Env) (L : List Res) (s : List UInt8) (hs : s.length ≤ 1000000000000) (a e f most : Int) (hm : most ≤ 9223372036854775807) :
    CallV Try.prog 62 #[.agg #[.string (S s), .int .i64 a, .int .i64 e, .int .i64 f], .int .i64 most] E L
      (.tuple #[(rfield (rbegin ⟨s, a, e, f⟩) (rstr (rbegin ⟨s, a, e, f⟩) most []) []).1.v, .string (S (rfield (rbegin ⟨s, a, e, f⟩) (rstr (rbegin ⟨s, a, e, f⟩) most []) []).2)]) := by
  refine CallS.toV (CallS.intro (l := [.agg #[.string (S s), .int .i64 a, .int .i64 e, .int .i64 f], .int .i64 most]) _ Try.func62 rfl Try.ntmps62 rfl ?_)
  have hok := rbegin_ok ⟨s, a, e, f⟩
  by_cases hb : most < 0
  · refine G_seq ?_
    refine G_region ?_
    (refine G_boxA rfl rfl rfl rfl (.none rfl) ?_; intro b2)
    (refine G_alloc rfl rfl rfl (.none rfl) ?_; intro b4)
    refine G_val (V_assign rfl rfl) rfl rfl (.none rfl) ?_
    refine G_end ?_
    refine X_then ?_
    refine G_seq ?_
    refine G_region ?_
    refine G_val (V_loadA rfl rfl (Cells.own (.tail _ (.head _))) rfl) rfl rfl (.none rfl) ?_
    refine G_callv (k := 69) (.mk rfl rfl rfl rfl) rfl rfl (.none rfl) (reader_call _ _ _ (by first | assumption | omega | (simp; omega) | (simp; done)) _ _ _) ?_
    refine G_storeA rfl rfl rfl rfl (by simp [Value.oneCell']) rfl (.none rfl) (.tail _ (.head _ _ _)) rfl ?_
    refine G_end ?_
    refine X_then ?_
    refine G_seq ?_
    refine G_seq ?_
    refine G_region ?_
    refine G_val (V_move rfl rfl) rfl rfl (.none rfl) ?_
    refine G_val (V_lss rfl rfl rfl) rfl rfl (.none rfl) ?_
    refine G_end ?_
    refine X_then ?_
    refine G_cond_t rfl (decide_eq_true (by omega)) ?_
    refine G_seq ?_
    refine G_region ?_
    refine G_val (V_loadA rfl rfl (Cells.own (.tail _ (.head _))) rfl) rfl rfl (.none rfl) ?_
    refine G_val (V_fieldAddr rfl rfl (by decide)) rfl rfl (.none rfl) ?_
    refine G_val (V_load rfl rfl (Cell.own (.tail _ (.head _)) rfl)) rfl rfl (.none rfl) ?_
    refine G_callv (k := 95) (.mk rfl rfl rfl rfl) rfl rfl (.none rfl) (fail_call _ _ _ _ _ _ _ _) ?_
    refine G_storeA rfl rfl rfl rfl (by simp [Value.oneCell']) rfl (.none rfl) (.head _ _ _) rfl ?_
    refine G_val (V_assign rfl rfl) rfl rfl (.none rfl) ?_
    refine G_end ?_
    refine X_then ?_
    refine G_ret ?_
    refine X_then_ret ?_
    refine G_leaveS (.drop _ (.drop _ (.nil _))) (by exact (.cons (.cellA rfl (Cells.own (.head _)) rfl) (.cons (.tmp rfl) (.nil)))) rfl ?_ ?_
    · exact (.refl _)
    exact ⟨(by first | rfl | (simp (discharger := omega) only [resVal, rfield, rstr, rwith, rback, if_pos, if_neg]; first | done | rfl) | (simp [resVal, rfield, rstr, rwith, rback, *]; done) | ((try simp only [resVal, rfield, rstr, rwith, rback]); (repeat' split) <;> first | rfl | (exfalso; omega) | (simp_all; done) | (simp_all; omega))), (by first | rfl | (simp (discharger := omega) only [resVal, rfield, rstr, rwith, rback, if_pos, if_neg]; first | done | rfl) | (simp [resVal, rfield, rstr, rwith, rback, *]; done) | ((try simp only [resVal, rfield, rstr, rwith, rback]); (repeat' split) <;> first | rfl | (exfalso; omega) | (simp_all; done) | (simp_all; omega)))⟩
  refine G_seq ?_
  refine G_region ?_
  (refine G_boxA rfl rfl rfl rfl (.none rfl) ?_; intro b2)
  (refine G_alloc rfl rfl rfl (.none rfl) ?_; intro b4)
  refine G_val (V_assign rfl rfl) rfl rfl (.none rfl) ?_
  refine G_end ?_
  refine X_then ?_
  refine G_seq ?_
  refine G_region ?_
  refine G_val (V_loadA rfl rfl (Cells.own (.tail _ (.head _))) rfl) rfl rfl (.none rfl) ?_
  refine G_callv (k := 69) (.mk rfl rfl rfl rfl) rfl rfl (.none rfl) (reader_call _ _ _ (by first | assumption | omega | (simp; omega) | (simp; done)) _ _ _) ?_
  refine G_storeA rfl rfl rfl rfl (by simp [Value.oneCell']) rfl (.none rfl) (.tail _ (.head _ _ _)) rfl ?_
  refine G_end ?_
  refine X_then ?_
  refine G_seq ?_
  refine G_seq ?_
  refine G_region ?_
  refine G_val (V_move rfl rfl) rfl rfl (.none rfl) ?_
  refine G_val (V_lss rfl rfl rfl) rfl rfl (.none rfl) ?_
  refine G_end ?_
  refine X_then ?_
  refine G_cond_f rfl (decide_eq_false (by omega)) ?_
  refine G_skip ?_
  refine X_then ?_
  refine G_seq ?_
  refine G_region ?_
  refine G_val (V_loadA rfl rfl (Cells.own (.tail _ (.head _))) rfl) rfl rfl (.none rfl) ?_
  refine G_callv (k := 61) (.mk rfl rfl rfl rfl) rfl rfl (.none rfl) (Wide2_call _ _ _ (by first | assumption | omega | (simp; omega) | (simp; done)) _ _ _ _) ?_
  refine G_val (V_move rfl rfl) rfl rfl (.none rfl) ?_
  refine G_val (V_extract rfl rfl rfl) rfl rfl (.none rfl) ?_
  refine G_val (V_extract rfl rfl rfl) rfl rfl (.none rfl) ?_
  (refine G_alloc rfl rfl rfl (.none rfl) ?_; intro b6)
  refine G_storeA rfl rfl rfl rfl (by simp [Value.oneCell']) rfl (.none rfl) (.head _ _ _) rfl ?_
  refine G_val (V_assign rfl rfl) rfl rfl (.none rfl) ?_
  refine G_end ?_
  refine X_then ?_
  refine G_seq ?_
  refine G_seq ?_
  refine G_region ?_
  refine G_val (V_loadA rfl rfl (Cells.own (.head _)) rfl) rfl rfl (.none rfl) ?_
  refine G_callv (k := 96) (.mk rfl rfl rfl rfl) rfl rfl (.none rfl) (fine_call _ _ _ _ _ _) ?_
  refine G_val (V_not rfl rfl) rfl rfl (.none rfl) ?_
  refine G_end ?_
  refine X_then ?_
  generalize rbegin ⟨s, a, e, f⟩ = q at *
  rw [rbegin_eta hok]
  obtain ⟨h1, h2, h3, h4⟩ := hok
  by_cases h5 : q.e = 0
  · have hv := rwide_props q h5 (by omega) h2 h3
    have hs' := rwide_s q
    have hs2 := congrArg List.length hs'
    by_cases h6 : (rwide q).1.e = 0
    · rw [full_ok h5 h6 (hv.1 h6).2.2.2]
      have hok2 : (rwide q).1.ok := by
        have := hv.1 h6
        exact ⟨by omega, by omega, by omega, .inl ⟨h6, by omega⟩⟩
      have hv1 := hv.1 h6
      clear hv
      by_cases h7 : most < ((rwide q).2 : Int)
      · refine G_cond_f rfl (by simp [*]; done) ?_
        refine G_skip ?_
        refine X_then ?_
        refine G_seq ?_
        refine G_seq ?_
        refine G_region ?_
        refine G_val (V_move rfl rfl) rfl rfl (.none rfl) ?_
        refine G_val (V_move rfl rfl) rfl rfl (.none rfl) ?_
        refine G_val (V_conv_u64 rfl rfl (by omega) (by omega)) rfl rfl (.none rfl) ?_
        refine G_val (V_gtr rfl rfl rfl) rfl rfl (.none rfl) ?_
        refine G_end ?_
        refine X_then ?_
        refine G_cond_t rfl (decide_eq_true (by omega)) ?_
        refine G_seq ?_
        refine G_region ?_
        refine G_val (V_loadA rfl rfl (Cells.own (.tail _ (.tail _ (.head _)))) rfl) rfl rfl (.none rfl) ?_
        refine G_val (V_fieldAddr rfl rfl (by decide)) rfl rfl (.none rfl) ?_
        refine G_val (V_load rfl rfl (Cell.own (.tail _ (.tail _ (.head _))) rfl)) rfl rfl (.none rfl) ?_
        refine G_callv (k := 95) (.mk rfl rfl rfl rfl) rfl rfl (.none rfl) (fail_call _ _ _ _ _ _ _ _) ?_
        refine G_storeA rfl rfl rfl rfl (by simp [Value.oneCell']) rfl (.none rfl) (.tail _ (.head _ _ _)) rfl ?_
        refine G_val (V_assign rfl rfl) rfl rfl (.none rfl) ?_
        refine G_end ?_
        refine X_then ?_
        refine G_ret ?_
        refine X_then_ret ?_
        refine G_leaveS (.drop _ (.drop _ (.drop _ (.nil _)))) (by exact (.cons (.cellA rfl (Cells.own (.tail _ (.head _))) rfl) (.cons (.tmp rfl) (.nil)))) rfl ?_ ?_
        · exact (.refl _)
        exact ⟨(by first | rfl | (simp (discharger := omega) only [resVal, rfield, rstr, rwith, rback, hs', if_pos, if_neg]; first | done | rfl) | (simp [resVal, rfield, rstr, rwith, rback, hs', *]; done) | ((try simp only [resVal, rfield, rstr, rwith, rback, hs']); (repeat' split) <;> first | rfl | (exfalso; omega) | (simp_all; done) | (simp_all; omega))), (by first | rfl | (simp (discharger := omega) only [resVal, rfield, rstr, rwith, rback, hs', if_pos, if_neg]; first | done | rfl) | (simp [resVal, rfield, rstr, rwith, rback, hs', *]; done) | ((try simp only [resVal, rfield, rstr, rwith, rback, hs']); (repeat' split) <;> first | rfl | (exfalso; omega) | (simp_all; done) | (simp_all; omega)))⟩
      by_cases h8 : ((rwide q).1.s.length : Int) - (rwide q).1.at' < ((rwide q).2 : Int)
      · by_cases h9 : 20000 < (rwide q).2
        · refine G_cond_f rfl (by simp [*]; done) ?_
          refine G_skip ?_
          refine X_then ?_
          refine G_seq ?_
          refine G_seq ?_
          refine G_region ?_
          refine G_val (V_move rfl rfl) rfl rfl (.none rfl) ?_
          refine G_val (V_move rfl rfl) rfl rfl (.none rfl) ?_
          refine G_val (V_conv_u64 rfl rfl (by omega) (by omega)) rfl rfl (.none rfl) ?_
          refine G_val (V_gtr rfl rfl rfl) rfl rfl (.none rfl) ?_
          refine G_end ?_
          refine X_then ?_
          refine G_cond_f rfl (decide_eq_false (by omega)) ?_
          refine G_skip ?_
          refine X_then ?_
          refine G_seq ?_
          refine G_seq ?_
          refine G_region ?_
          refine G_val (V_move rfl rfl) rfl rfl (.none rfl) ?_
          refine G_val (V_fieldAddr rfl rfl (by decide)) rfl rfl (.none rfl) ?_
          refine G_val (V_load rfl rfl (Cell.own (.head _) rfl)) rfl rfl (.none rfl) ?_
          refine G_val (V_len rfl rfl) rfl rfl (.none rfl) ?_
          refine G_val (V_fieldAddr rfl rfl (by decide)) rfl rfl (.none rfl) ?_
          refine G_val (V_load rfl rfl (Cell.own (.head _) rfl)) rfl rfl (.none rfl) ?_
          refine G_val (V_sub_i64 rfl rfl rfl (by omega) (by omega)) rfl rfl (.none rfl) ?_
          refine G_val (V_conv_u64 rfl rfl (by omega) (by omega)) rfl rfl (.none rfl) ?_
          refine G_val (V_gtr rfl rfl rfl) rfl rfl (.none rfl) ?_
          refine G_end ?_
          refine X_then ?_
          refine G_cond_t rfl (decide_eq_true (by omega)) ?_
          refine G_seq ?_
          refine G_region ?_
          refine G_val (V_loadA rfl rfl (Cells.own (.tail _ (.tail _ (.head _)))) rfl) rfl rfl (.none rfl) ?_
          refine G_val (V_fieldAddr rfl rfl (by decide)) rfl rfl (.none rfl) ?_
          refine G_val (V_load rfl rfl (Cell.own (.head _) rfl)) rfl rfl (.none rfl) ?_
          refine G_callv (k := 95) (.mk rfl rfl rfl rfl) rfl rfl (.none rfl) (fail_call _ _ _ _ _ _ _ _) ?_
          refine G_storeA rfl rfl rfl rfl (by simp [Value.oneCell']) rfl (.none rfl) (.tail _ (.head _ _ _)) rfl ?_
          refine G_val (V_assign rfl rfl) rfl rfl (.none rfl) ?_
          refine G_end ?_
          refine X_then ?_
          refine G_ret ?_
          refine X_then_ret ?_
          refine G_leaveS (.drop _ (.drop _ (.drop _ (.nil _)))) (by exact (.cons (.cellA rfl (Cells.own (.tail _ (.head _))) rfl) (.cons (.tmp rfl) (.nil)))) rfl ?_ ?_
          · exact (.refl _)
          exact ⟨(by first | rfl | (simp (discharger := omega) only [resVal, rfield, rstr, rwith, rback, rtake, hs', if_pos, if_neg]; first | done | rfl) | (simp [resVal, rfield, rstr, rwith, rback, rtake, hs', *]; done) | ((try simp only [resVal, rfield, rstr, rwith, rback, rtake, hs']); (repeat' split) <;> first | rfl | (exfalso; omega) | (simp_all; done) | (simp_all; omega))), (by first | rfl | (simp (discharger := omega) only [resVal, rfield, rstr, rwith, rback, rtake, hs', if_pos, if_neg]; first | done | rfl) | (simp [resVal, rfield, rstr, rwith, rback, rtake, hs', *]; done) | ((try simp only [resVal, rfield, rstr, rwith, rback, rtake, hs']); (repeat' split) <;> first | rfl | (exfalso; omega) | (simp_all; done) | (simp_all; omega)))⟩
        · refine G_cond_f rfl (by simp [*]; done) ?_
          refine G_skip ?_
          refine X_then ?_
          refine G_seq ?_
          refine G_seq ?_
          refine G_region ?_
          refine G_val (V_move rfl rfl) rfl rfl (.none rfl) ?_
          refine G_val (V_move rfl rfl) rfl rfl (.none rfl) ?_
          refine G_val (V_conv_u64 rfl rfl (by omega) (by omega)) rfl rfl (.none rfl) ?_
          refine G_val (V_gtr rfl rfl rfl) rfl rfl (.none rfl) ?_
          refine G_end ?_
          refine X_then ?_
          refine G_cond_f rfl (decide_eq_false (by omega)) ?_
          refine G_skip ?_
          refine X_then ?_
          refine G_seq ?_
          refine G_seq ?_
          refine G_region ?_
          refine G_val (V_move rfl rfl) rfl rfl (.none rfl) ?_
          refine G_val (V_fieldAddr rfl rfl (by decide)) rfl rfl (.none rfl) ?_
          refine G_val (V_load rfl rfl (Cell.own (.head _) rfl)) rfl rfl (.none rfl) ?_
          refine G_val (V_len rfl rfl) rfl rfl (.none rfl) ?_
          refine G_val (V_fieldAddr rfl rfl (by decide)) rfl rfl (.none rfl) ?_
          refine G_val (V_load rfl rfl (Cell.own (.head _) rfl)) rfl rfl (.none rfl) ?_
          refine G_val (V_sub_i64 rfl rfl rfl (by omega) (by omega)) rfl rfl (.none rfl) ?_
          refine G_val (V_conv_u64 rfl rfl (by omega) (by omega)) rfl rfl (.none rfl) ?_
          refine G_val (V_gtr rfl rfl rfl) rfl rfl (.none rfl) ?_
          refine G_end ?_
          refine X_then ?_
          refine G_cond_t rfl (decide_eq_true (by omega)) ?_
          refine G_seq ?_
          refine G_region ?_
          refine G_val (V_loadA rfl rfl (Cells.own (.tail _ (.tail _ (.head _)))) rfl) rfl rfl (.none rfl) ?_
          refine G_val (V_fieldAddr rfl rfl (by decide)) rfl rfl (.none rfl) ?_
          refine G_val (V_load rfl rfl (Cell.own (.head _) rfl)) rfl rfl (.none rfl) ?_
          refine G_callv (k := 95) (.mk rfl rfl rfl rfl) rfl rfl (.none rfl) (fail_call _ _ _ _ _ _ _ _) ?_
          refine G_storeA rfl rfl rfl rfl (by simp [Value.oneCell']) rfl (.none rfl) (.tail _ (.head _ _ _)) rfl ?_
          refine G_val (V_assign rfl rfl) rfl rfl (.none rfl) ?_
          refine G_end ?_
          refine X_then ?_
          refine G_ret ?_
          refine X_then_ret ?_
          refine G_leaveS (.drop _ (.drop _ (.drop _ (.nil _)))) (by exact (.cons (.cellA rfl (Cells.own (.tail _ (.head _))) rfl) (.cons (.tmp rfl) (.nil)))) rfl ?_ ?_
          · exact (.refl _)
          exact ⟨(by first | rfl | (simp (discharger := omega) only [resVal, rfield, rstr, rwith, rback, rtake, hs', if_pos, if_neg]; first | done | rfl) | (simp [resVal, rfield, rstr, rwith, rback, rtake, hs', *]; done) | ((try simp only [resVal, rfield, rstr, rwith, rback, rtake, hs']); (repeat' split) <;> first | rfl | (exfalso; omega) | (simp_all; done) | (simp_all; omega))), (by first | rfl | (simp (discharger := omega) only [resVal, rfield, rstr, rwith, rback, rtake, hs', if_pos, if_neg]; first | done | rfl) | (simp [resVal, rfield, rstr, rwith, rback, rtake, hs', *]; done) | ((try simp only [resVal, rfield, rstr, rwith, rback, rtake, hs']); (repeat' split) <;> first | rfl | (exfalso; omega) | (simp_all; done) | (simp_all; omega)))⟩
      have hf : rfield (rwide q).1 (rfix (rwide q).1 ((rwide q).2 : Int) []) [] = rfield q (rstr q most []) [] := by
        simp (discharger := omega) only [rfield, rstr, rfix, rback, rtake, if_pos, if_neg]
      refine G_cond_f rfl (by simp [*]; done) ?_
      refine G_skip ?_
      refine X_then ?_
      refine G_seq ?_
      refine G_seq ?_
      refine G_region ?_
      refine G_val (V_move rfl rfl) rfl rfl (.none rfl) ?_
      refine G_val (V_move rfl rfl) rfl rfl (.none rfl) ?_
      refine G_val (V_conv_u64 rfl rfl (by omega) (by omega)) rfl rfl (.none rfl) ?_
      refine G_val (V_gtr rfl rfl rfl) rfl rfl (.none rfl) ?_
      refine G_end ?_
      refine X_then ?_
      refine G_cond_f rfl (decide_eq_false (by omega)) ?_
      refine G_skip ?_
      refine X_then ?_
      refine G_seq ?_
      refine G_seq ?_
      refine G_region ?_
      refine G_val (V_move rfl rfl) rfl rfl (.none rfl) ?_
      refine G_val (V_fieldAddr rfl rfl (by decide)) rfl rfl (.none rfl) ?_
      refine G_val (V_load rfl rfl (Cell.own (.head _) rfl)) rfl rfl (.none rfl) ?_
      refine G_val (V_len rfl rfl) rfl rfl (.none rfl) ?_
      refine G_val (V_fieldAddr rfl rfl (by decide)) rfl rfl (.none rfl) ?_
      refine G_val (V_load rfl rfl (Cell.own (.head _) rfl)) rfl rfl (.none rfl) ?_
      refine G_val (V_sub_i64 rfl rfl rfl (by omega) (by omega)) rfl rfl (.none rfl) ?_
      refine G_val (V_conv_u64 rfl rfl (by omega) (by omega)) rfl rfl (.none rfl) ?_
      refine G_val (V_gtr rfl rfl rfl) rfl rfl (.none rfl) ?_
      refine G_end ?_
      refine X_then ?_
      refine G_cond_f rfl (decide_eq_false (by omega)) ?_
      refine G_skip ?_
      refine X_then ?_
      refine G_seq ?_
      refine G_region ?_
      refine G_val (V_loadA rfl rfl (Cells.own (.head _)) rfl) rfl rfl (.none rfl) ?_
      refine G_val (V_move rfl rfl) rfl rfl (.none rfl) ?_
      refine G_val (V_conv_i64 rfl rfl (by omega) (by omega)) rfl rfl (.none rfl) ?_
      refine G_callv (k := 63) (.mk rfl rfl rfl rfl) rfl rfl (.none rfl) (Fixed2_call _ _ _ (by first | assumption | omega | (simp; omega) | (simp; done)) _ _ _ _) ?_
      refine G_val (V_extract rfl rfl rfl) rfl rfl (.none rfl) ?_
      refine G_val (V_extract rfl rfl rfl) rfl rfl (.none rfl) ?_
      refine G_storeA rfl rfl rfl rfl (by simp [Value.oneCell']) rfl (.none rfl) (.tail _ (.head _ _ _)) rfl ?_
      refine G_val (V_assign rfl rfl) rfl rfl (.none rfl) ?_
      refine G_end ?_
      refine X_then ?_
      refine G_ret ?_
      refine G_leaveS (.drop _ (.drop _ (.drop _ (.nil _)))) (by exact (.cons (.cellA rfl (Cells.own (.tail _ (.head _))) rfl) (.cons (.tmp rfl) (.nil)))) rfl ?_ ?_
      · exact (.refl _)
      rw [rbegin_eta hok2, hf]
      exact ⟨rfl, rfl⟩
    · have hf : rfield q (rstr q most []) [] = (⟨q.s, q.at', (rwide q).1.e, (rwide q).1.fa⟩, []) := by
        rw [rfield, if_pos h5, rstr, if_neg hb, if_pos h6, if_neg h6, rback, if_neg h6, hs']
      rw [full_err h5 h6, hf]
      refine G_cond_t rfl (by simp [*]; done) ?_
      refine G_seq ?_
      refine G_region ?_
      refine G_val (V_loadA rfl rfl (Cells.own (.head _)) rfl) rfl rfl (.none rfl) ?_
      refine G_storeA rfl rfl rfl rfl (by simp [Value.oneCell']) rfl (.none rfl) (.tail _ (.head _ _ _)) rfl ?_
      refine G_val (V_assign rfl rfl) rfl rfl (.none rfl) ?_
      refine G_end ?_
      refine X_then ?_
      refine G_ret ?_
      refine X_then_ret ?_
      refine G_leaveS (.drop _ (.drop _ (.drop _ (.nil _)))) (by exact (.cons (.cellA rfl (Cells.own (.tail _ (.head _))) rfl) (.cons (.tmp rfl) (.nil)))) rfl ?_ ?_
      · exact (.refl _)
      exact ⟨rfl, rfl⟩
  · have e1 : rfield q (rwd q 18446744073709551615) 0 = (q, 0) := by rw [rfield, if_neg h5]
    rw [e1]
    refine G_cond_t rfl (by simp [*]; done) ?_
    refine G_seq ?_
    refine G_region ?_
    refine G_val (V_loadA rfl rfl (Cells.own (.head _)) rfl) rfl rfl (.none rfl) ?_
    refine G_storeA rfl rfl rfl rfl (by simp [Value.oneCell']) rfl (.none rfl) (.tail _ (.head _ _ _)) rfl ?_
    refine G_val (V_assign rfl rfl) rfl rfl (.none rfl) ?_
    refine G_end ?_
    refine X_then ?_
    refine G_ret ?_
    refine X_then_ret ?_
    refine G_leaveS (.drop _ (.drop _ (.drop _ (.nil _)))) (by exact (.cons (.cellA rfl (Cells.own (.tail _ (.head _))) rfl) (.cons (.tmp rfl) (.nil)))) rfl ?_ ?_
    · exact (.refl _)
    exact ⟨(by first | rfl | (simp (discharger := omega) only [resVal, rfield, rstr, rwith, rback, if_pos, if_neg]; first | done | rfl) | (simp [resVal, rfield, rstr, rwith, rback, *]; done) | ((try simp only [resVal, rfield, rstr, rwith, rback]); (repeat' split) <;> first | rfl | (exfalso; omega) | (simp_all; done) | (simp_all; omega))), (by first | rfl | (simp (discharger := omega) only [resVal, rfield, rstr, rwith, rback, if_pos, if_neg]; first | done | rfl) | (simp [resVal, rfield, rstr, rwith, rback, *]; done) | ((try simp only [resVal, rfield, rstr, rwith, rback]); (repeat' split) <;> first | rfl | (exfalso; omega) | (simp_all; done) | (simp_all; omega)))⟩

theorem End2_call (E : Env) (L : List Res) (s : List UInt8) (hs : s.length ≤ 1000000000000) (a e f : Int) :
    CallV Try.prog 67 #[.agg #[.string (S s), .int .i64 a, .int .i64 e, .int .i64 f]] E L
      (if (rbegin ⟨s, a, e, f⟩).e = 0 ∧ (rbegin ⟨s, a, e, f⟩).at' < (rbegin ⟨s, a, e, f⟩).s.length then .agg #[.int .i64 4, .int .i64 (rbegin ⟨s, a, e, f⟩).at'] else .agg #[.int .i64 (rbegin ⟨s, a, e, f⟩).e, .int .i64 (rbegin ⟨s, a, e, f⟩).fa]) := by
  refine CallS.toV (CallS.intro (l := [.agg #[.string (S s), .int .i64 a, .int .i64 e, .int .i64 f]]) _ Try.func67 rfl Try.ntmps67 rfl ?_)
  have hok := rbegin_ok ⟨s, a, e, f⟩
  by_cases h : (rbegin ⟨s, a, e, f⟩).e = 0
  · refine G_seq ?_
    refine G_region ?_
    (refine G_boxA rfl rfl rfl rfl (.none rfl) ?_; intro b1)
    (refine G_alloc rfl rfl rfl (.none rfl) ?_; intro b2)
    refine G_end ?_
    refine X_then ?_
    refine G_seq ?_
    refine G_region ?_
    refine G_val (V_loadA rfl rfl (Cells.own (.tail _ (.head _))) rfl) rfl rfl (.none rfl) ?_
    refine G_callv (k := 69) (.mk rfl rfl rfl rfl) rfl rfl (.none rfl) (reader_call _ _ _ (by first | assumption | omega | (simp; omega) | (simp; done)) _ _ _) ?_
    refine G_storeA rfl rfl rfl rfl (by simp [Value.oneCell']) rfl (.none rfl) (.tail _ (.head _ _ _)) rfl ?_
    refine G_end ?_
    refine X_then ?_
    refine G_seq ?_
    refine G_seq ?_
    refine G_region ?_
    refine G_val (V_fieldAddr rfl rfl (by decide)) rfl rfl (.none rfl) ?_
    refine G_val (V_load rfl rfl (Cell.own (.tail _ (.head _)) rfl)) rfl rfl (.none rfl) ?_
    refine G_val (V_fieldAddr rfl rfl (by decide)) rfl rfl (.none rfl) ?_
    refine G_val (V_load rfl rfl (Cell.own (.tail _ (.head _)) rfl)) rfl rfl (.none rfl) ?_
    refine G_val (V_len rfl rfl) rfl rfl (.none rfl) ?_
    refine G_val (V_lss rfl rfl rfl) rfl rfl (.none rfl) ?_
    refine G_end ?_
    refine X_then ?_
    refine G_cond rfl (fun H1 => ?_) (fun H1 => ?_)
    · simp only [Bool.and_eq_true, Bool.or_eq_true, Bool.not_eq_true', Bool.not_eq_false', Bool.and_eq_false_iff, Bool.or_eq_false_iff, Bool.not_not, decide_eq_true_eq, decide_eq_false_iff_not, ne_eq, Decidable.not_not, Bool.decide_eq_true] at H1
      refine G_region ?_
      refine G_val (V_loadA rfl rfl (Cells.own (.tail _ (.head _))) rfl) rfl rfl (.none rfl) ?_
      refine G_val (V_fieldAddr rfl rfl (by decide)) rfl rfl (.none rfl) ?_
      refine G_val (V_load rfl rfl (Cell.own (.tail _ (.head _)) rfl)) rfl rfl (.none rfl) ?_
      refine G_callv (k := 95) (.mk rfl rfl rfl rfl) rfl rfl (.none rfl) (fail_call _ _ _ _ _ _ _ _) ?_
      refine G_storeA rfl rfl rfl rfl (by simp [Value.oneCell']) rfl (.none rfl) (.tail _ (.head _ _ _)) rfl ?_
      refine G_end ?_
      refine X_then ?_
      refine G_seq ?_
      refine G_region ?_
      refine G_val (V_fieldAddr rfl rfl (by decide)) rfl rfl (.none rfl) ?_
      refine G_val (V_loadF rfl rfl (.tail _ (.head _)) (by simp only [Nat.zero_add, List.drop_succ_cons, List.drop_zero, List.take_succ_cons, List.take_zero]; rfl) (by rfl)) rfl rfl (.none rfl) ?_
      refine G_storeA rfl rfl rfl rfl (by simp [Value.oneCell']) rfl (.none rfl) (.head _ _ _) rfl ?_
      refine G_end ?_
      refine X_then ?_
      refine G_ret ?_
      refine G_leaveS (.drop _ (.drop _ (.nil _))) (by exact (.cons (.cellA rfl (Cells.own (.head _)) rfl) (.nil))) rfl ?_ ?_
      · exact (.refl _)
      exact ⟨(by first | rfl | (simp (discharger := omega) only [resVal, rwith, if_pos, if_neg]; first | done | rfl) | (simp [resVal, rwith, *]; done) | ((try simp only [resVal, rwith]); (repeat' split) <;> first | rfl | (exfalso; omega) | (simp_all; done) | (simp_all; omega))), (by first | rfl | (simp (discharger := omega) only [resVal, rwith, if_pos, if_neg]; first | done | rfl) | (simp [resVal, rwith, *]; done) | ((try simp only [resVal, rwith]); (repeat' split) <;> first | rfl | (exfalso; omega) | (simp_all; done) | (simp_all; omega)))⟩
    simp only [Bool.and_eq_true, Bool.or_eq_true, Bool.not_eq_true', Bool.not_eq_false', Bool.and_eq_false_iff, Bool.or_eq_false_iff, Bool.not_not, decide_eq_true_eq, decide_eq_false_iff_not, ne_eq, Decidable.not_not, Bool.decide_eq_true] at H1
    refine G_skip ?_
    refine X_then ?_
    refine G_seq ?_
    refine G_region ?_
    refine G_val (V_fieldAddr rfl rfl (by decide)) rfl rfl (.none rfl) ?_
    refine G_val (V_loadF rfl rfl (.tail _ (.head _)) (by simp only [Nat.zero_add, List.drop_succ_cons, List.drop_zero, List.take_succ_cons, List.take_zero]; rfl) (by rfl)) rfl rfl (.none rfl) ?_
    refine G_storeA rfl rfl rfl rfl (by simp [Value.oneCell']) rfl (.none rfl) (.head _ _ _) rfl ?_
    refine G_end ?_
    refine X_then ?_
    refine G_ret ?_
    refine G_leaveS (.drop _ (.drop _ (.nil _))) (by exact (.cons (.cellA rfl (Cells.own (.head _)) rfl) (.nil))) rfl ?_ ?_
    · exact (.refl _)
    exact ⟨(by first | rfl | (simp (discharger := omega) only [resVal, rwith, if_pos, if_neg]; first | done | rfl) | (simp [resVal, rwith, *]; done) | ((try simp only [resVal, rwith]); (repeat' split) <;> first | rfl | (exfalso; omega) | (simp_all; done) | (simp_all; omega))), (by first | rfl | (simp (discharger := omega) only [resVal, rwith, if_pos, if_neg]; first | done | rfl) | (simp [resVal, rwith, *]; done) | ((try simp only [resVal, rwith]); (repeat' split) <;> first | rfl | (exfalso; omega) | (simp_all; done) | (simp_all; omega)))⟩
  · refine G_seq ?_
    refine G_region ?_
    (refine G_boxA rfl rfl rfl rfl (.none rfl) ?_; intro b1)
    (refine G_alloc rfl rfl rfl (.none rfl) ?_; intro b2)
    refine G_end ?_
    refine X_then ?_
    refine G_seq ?_
    refine G_region ?_
    refine G_val (V_loadA rfl rfl (Cells.own (.tail _ (.head _))) rfl) rfl rfl (.none rfl) ?_
    refine G_callv (k := 69) (.mk rfl rfl rfl rfl) rfl rfl (.none rfl) (reader_call _ _ _ (by first | assumption | omega | (simp; omega) | (simp; done)) _ _ _) ?_
    refine G_storeA rfl rfl rfl rfl (by simp [Value.oneCell']) rfl (.none rfl) (.tail _ (.head _ _ _)) rfl ?_
    refine G_end ?_
    refine X_then ?_
    refine G_seq ?_
    refine G_seq ?_
    refine G_region ?_
    refine G_val (V_fieldAddr rfl rfl (by decide)) rfl rfl (.none rfl) ?_
    refine G_val (V_load rfl rfl (Cell.own (.tail _ (.head _)) rfl)) rfl rfl (.none rfl) ?_
    refine G_val (V_fieldAddr rfl rfl (by decide)) rfl rfl (.none rfl) ?_
    refine G_val (V_load rfl rfl (Cell.own (.tail _ (.head _)) rfl)) rfl rfl (.none rfl) ?_
    refine G_val (V_len rfl rfl) rfl rfl (.none rfl) ?_
    refine G_val (V_lss rfl rfl rfl) rfl rfl (.none rfl) ?_
    refine G_end ?_
    refine X_then ?_
    refine G_cond rfl (fun H1 => ?_) (fun H1 => ?_)
    · simp only [Bool.and_eq_true, Bool.or_eq_true, Bool.not_eq_true', Bool.not_eq_false', Bool.and_eq_false_iff, Bool.or_eq_false_iff, Bool.not_not, decide_eq_true_eq, decide_eq_false_iff_not, ne_eq, Decidable.not_not, Bool.decide_eq_true] at H1
      refine G_region ?_
      refine G_val (V_loadA rfl rfl (Cells.own (.tail _ (.head _))) rfl) rfl rfl (.none rfl) ?_
      refine G_val (V_fieldAddr rfl rfl (by decide)) rfl rfl (.none rfl) ?_
      refine G_val (V_load rfl rfl (Cell.own (.tail _ (.head _)) rfl)) rfl rfl (.none rfl) ?_
      refine G_callv (k := 95) (.mk rfl rfl rfl rfl) rfl rfl (.none rfl) (fail_call _ _ _ _ _ _ _ _) ?_
      refine G_storeA rfl rfl rfl rfl (by simp [Value.oneCell']) rfl (.none rfl) (.tail _ (.head _ _ _)) rfl ?_
      refine G_end ?_
      refine X_then ?_
      refine G_seq ?_
      refine G_region ?_
      refine G_val (V_fieldAddr rfl rfl (by decide)) rfl rfl (.none rfl) ?_
      refine G_val (V_loadF rfl rfl (.tail _ (.head _)) (by simp only [Nat.zero_add, List.drop_succ_cons, List.drop_zero, List.take_succ_cons, List.take_zero]; rfl) (by rfl)) rfl rfl (.none rfl) ?_
      refine G_storeA rfl rfl rfl rfl (by simp [Value.oneCell']) rfl (.none rfl) (.head _ _ _) rfl ?_
      refine G_end ?_
      refine X_then ?_
      refine G_ret ?_
      refine G_leaveS (.drop _ (.drop _ (.nil _))) (by exact (.cons (.cellA rfl (Cells.own (.head _)) rfl) (.nil))) rfl ?_ ?_
      · exact (.refl _)
      exact ⟨(by first | rfl | (simp (discharger := omega) only [resVal, rwith, if_pos, if_neg]; first | done | rfl) | (simp [resVal, rwith, *]; done) | ((try simp only [resVal, rwith]); (repeat' split) <;> first | rfl | (exfalso; omega) | (simp_all; done) | (simp_all; omega))), (by first | rfl | (simp (discharger := omega) only [resVal, rwith, if_pos, if_neg]; first | done | rfl) | (simp [resVal, rwith, *]; done) | ((try simp only [resVal, rwith]); (repeat' split) <;> first | rfl | (exfalso; omega) | (simp_all; done) | (simp_all; omega)))⟩
    simp only [Bool.and_eq_true, Bool.or_eq_true, Bool.not_eq_true', Bool.not_eq_false', Bool.and_eq_false_iff, Bool.or_eq_false_iff, Bool.not_not, decide_eq_true_eq, decide_eq_false_iff_not, ne_eq, Decidable.not_not, Bool.decide_eq_true] at H1
    refine G_skip ?_
    refine X_then ?_
    refine G_seq ?_
    refine G_region ?_
    refine G_val (V_fieldAddr rfl rfl (by decide)) rfl rfl (.none rfl) ?_
    refine G_val (V_loadF rfl rfl (.tail _ (.head _)) (by simp only [Nat.zero_add, List.drop_succ_cons, List.drop_zero, List.take_succ_cons, List.take_zero]; rfl) (by rfl)) rfl rfl (.none rfl) ?_
    refine G_storeA rfl rfl rfl rfl (by simp [Value.oneCell']) rfl (.none rfl) (.head _ _ _) rfl ?_
    refine G_end ?_
    refine X_then ?_
    refine G_ret ?_
    refine G_leaveS (.drop _ (.drop _ (.nil _))) (by exact (.cons (.cellA rfl (Cells.own (.head _)) rfl) (.nil))) rfl ?_ ?_
    · exact (.refl _)
    exact ⟨(by first | rfl | (simp (discharger := omega) only [resVal, rwith, if_pos, if_neg]; first | done | rfl) | (simp [resVal, rwith, *]; done) | ((try simp only [resVal, rwith]); (repeat' split) <;> first | rfl | (exfalso; omega) | (simp_all; done) | (simp_all; omega))), (by first | rfl | (simp (discharger := omega) only [resVal, rwith, if_pos, if_neg]; first | done | rfl) | (simp [resVal, rwith, *]; done) | ((try simp only [resVal, rwith]); (repeat' split) <;> first | rfl | (exfalso; omega) | (simp_all; done) | (simp_all; omega)))⟩
theorem Fail2_call (E : Env) (L : List Res) (s : List UInt8) (hs : s.length ≤ 1000000000000) (a e f err at1 : Int) :
    CallV Try.prog 66 #[.agg #[.string (S s), .int .i64 a, .int .i64 e, .int .i64 f], .int .i64 err, .int .i64 at1] E L
      (if (rbegin ⟨s, a, e, f⟩).e = 0 then (Rdr.v ⟨(rbegin ⟨s, a, e, f⟩).s, (rbegin ⟨s, a, e, f⟩).at', if err < 1 ∨ 31 < err then 3 else err, min (max at1 0) (rbegin ⟨s, a, e, f⟩).s.length⟩) else (rbegin ⟨s, a, e, f⟩).v) := by
  refine CallS.toV (CallS.intro (l := [.agg #[.string (S s), .int .i64 a, .int .i64 e, .int .i64 f], .int .i64 err, .int .i64 at1]) _ Try.func66 rfl Try.ntmps66 rfl ?_)
  have hok := rbegin_ok ⟨s, a, e, f⟩
  refine G_seq ?_
  refine G_region ?_
  (refine G_boxA rfl rfl rfl rfl (.none rfl) ?_; intro b3)
  (refine G_alloc rfl rfl rfl (.none rfl) ?_; intro b6)
  refine G_end ?_
  refine X_then ?_
  refine G_seq ?_
  refine G_region ?_
  refine G_val (V_loadA rfl rfl (Cells.own (.tail _ (.head _))) rfl) rfl rfl (.none rfl) ?_
  refine G_callv (k := 69) (.mk rfl rfl rfl rfl) rfl rfl (.none rfl) (reader_call _ _ _ (by first | assumption | omega | (simp; omega) | (simp; done)) _ _ _) ?_
  refine G_storeA rfl rfl rfl rfl (by simp [Value.oneCell']) rfl (.none rfl) (.tail _ (.head _ _ _)) rfl ?_
  refine G_end ?_
  refine X_then ?_
  refine G_seq ?_
  refine G_seq ?_
  refine G_region ?_
  refine G_val (V_move rfl rfl) rfl rfl (.none rfl) ?_
  refine G_val (V_lss rfl rfl rfl) rfl rfl (.none rfl) ?_
  refine G_val (V_move rfl rfl) rfl rfl (.none rfl) ?_
  apply G_joinOr 3 11 14 rfl
  · intro H1
    dsimp only [List.take]
    simp only [Bool.and_eq_true, Bool.or_eq_true, Bool.not_eq_true', Bool.not_eq_false', Bool.and_eq_false_iff, Bool.or_eq_false_iff, Bool.not_not, decide_eq_true_eq, decide_eq_false_iff_not, ne_eq, Decidable.not_not, Bool.decide_eq_true] at H1
    refine G_stay (.no rfl rfl rfl rfl) rfl rfl ?_
    refine G_stay (.no rfl rfl rfl rfl) rfl rfl ?_
    refine G_val (V_pick_t rfl rfl rfl) rfl rfl (.none rfl) ?_
    refine G_end ?_
    exact JQ_end 3 rfl rfl (by kernel_rfl)
  · intro H2
    dsimp only [List.take]
    simp only [Bool.and_eq_true, Bool.or_eq_true, Bool.not_eq_true', Bool.not_eq_false', Bool.and_eq_false_iff, Bool.or_eq_false_iff, Bool.not_not, decide_eq_true_eq, decide_eq_false_iff_not, ne_eq, Decidable.not_not, Bool.decide_eq_true] at H2
    refine G_val (V_move rfl rfl) rfl rfl (.yes rfl rfl rfl rfl) ?_
    refine G_val (V_gtr rfl rfl rfl) rfl rfl (.yes rfl rfl rfl rfl) ?_
    refine G_val (V_pick_f rfl rfl rfl) rfl rfl (.none rfl) ?_
    refine G_end ?_
    exact JQ_end 3 rfl rfl (by kernel_rfl)
  dsimp only [List.drop]
  refine G_end ?_
  refine X_then ?_
  refine G_cond rfl (fun H3 => ?_) (fun H3 => ?_)
  · simp only [Bool.and_eq_true, Bool.or_eq_true, Bool.not_eq_true', Bool.not_eq_false', Bool.and_eq_false_iff, Bool.or_eq_false_iff, Bool.not_not, decide_eq_true_eq, decide_eq_false_iff_not, ne_eq, Decidable.not_not, Bool.decide_eq_true] at H3
    refine G_region ?_
    refine G_val (V_assign rfl rfl) rfl rfl (.none rfl) ?_
    refine G_end ?_
    refine X_then ?_
    refine G_seq ?_
    refine G_region ?_
    refine G_val (V_loadA rfl rfl (Cells.own (.tail _ (.head _))) rfl) rfl rfl (.none rfl) ?_
    refine G_val (V_move rfl rfl) rfl rfl (.none rfl) ?_
    refine G_val (V_move rfl rfl) rfl rfl (.none rfl) ?_
    refine G_val (V_max rfl rfl rfl) rfl rfl (.none rfl) ?_
    refine G_val (V_fieldAddr rfl rfl (by decide)) rfl rfl (.none rfl) ?_
    refine G_val (V_load rfl rfl (Cell.own (.tail _ (.head _)) rfl)) rfl rfl (.none rfl) ?_
    refine G_val (V_len rfl rfl) rfl rfl (.none rfl) ?_
    refine G_val (V_min rfl rfl rfl) rfl rfl (.none rfl) ?_
    refine G_callv (k := 95) (.mk rfl rfl rfl rfl) rfl rfl (.none rfl) (fail_call _ _ _ _ _ _ _ _) ?_
    refine G_storeA rfl rfl rfl rfl (by simp [Value.oneCell']) rfl (.none rfl) (.head _ _ _) rfl ?_
    refine G_end ?_
    refine X_then ?_
    refine G_ret ?_
    refine G_leaveS (.drop _ (.drop _ (.nil _))) (by exact (.cons (.cellA rfl (Cells.own (.head _)) rfl) (.nil))) rfl ?_ ?_
    · exact (.refl _)
    exact ⟨(by first | rfl | (simp (discharger := omega) only [resVal, rwith, if_pos, if_neg]; first | done | rfl) | (simp [resVal, rwith, *]; done) | ((try simp only [resVal, rwith]); (repeat' split) <;> first | rfl | (exfalso; omega) | (simp_all; done) | (simp_all; omega))), (by first | rfl | (simp (discharger := omega) only [resVal, rwith, if_pos, if_neg]; first | done | rfl) | (simp [resVal, rwith, *]; done) | ((try simp only [resVal, rwith]); (repeat' split) <;> first | rfl | (exfalso; omega) | (simp_all; done) | (simp_all; omega)))⟩
  simp only [Bool.and_eq_true, Bool.or_eq_true, Bool.not_eq_true', Bool.not_eq_false', Bool.and_eq_false_iff, Bool.or_eq_false_iff, Bool.not_not, decide_eq_true_eq, decide_eq_false_iff_not, ne_eq, Decidable.not_not, Bool.decide_eq_true] at H3
  refine G_skip ?_
  refine X_then ?_
  refine G_seq ?_
  refine G_region ?_
  refine G_val (V_loadA rfl rfl (Cells.own (.tail _ (.head _))) rfl) rfl rfl (.none rfl) ?_
  refine G_val (V_move rfl rfl) rfl rfl (.none rfl) ?_
  refine G_val (V_move rfl rfl) rfl rfl (.none rfl) ?_
  refine G_val (V_max rfl rfl rfl) rfl rfl (.none rfl) ?_
  refine G_val (V_fieldAddr rfl rfl (by decide)) rfl rfl (.none rfl) ?_
  refine G_val (V_load rfl rfl (Cell.own (.tail _ (.head _)) rfl)) rfl rfl (.none rfl) ?_
  refine G_val (V_len rfl rfl) rfl rfl (.none rfl) ?_
  refine G_val (V_min rfl rfl rfl) rfl rfl (.none rfl) ?_
  refine G_callv (k := 95) (.mk rfl rfl rfl rfl) rfl rfl (.none rfl) (fail_call _ _ _ _ _ _ _ _) ?_
  refine G_storeA rfl rfl rfl rfl (by simp [Value.oneCell']) rfl (.none rfl) (.head _ _ _) rfl ?_
  refine G_end ?_
  refine X_then ?_
  refine G_ret ?_
  refine G_leaveS (.drop _ (.drop _ (.nil _))) (by exact (.cons (.cellA rfl (Cells.own (.head _)) rfl) (.nil))) rfl ?_ ?_
  · exact (.refl _)
  exact ⟨(by first | rfl | (simp (discharger := omega) only [resVal, rwith, if_pos, if_neg]; first | done | rfl) | (simp [resVal, rwith, *]; done) | ((try simp only [resVal, rwith]); (repeat' split) <;> first | rfl | (exfalso; omega) | (simp_all; done) | (simp_all; omega))), (by first | rfl | (simp (discharger := omega) only [resVal, rwith, if_pos, if_neg]; first | done | rfl) | (simp [resVal, rwith, *]; done) | ((try simp only [resVal, rwith]); (repeat' split) <;> first | rfl | (exfalso; omega) | (simp_all; done) | (simp_all; omega)))⟩
end Go.Proofs.Ytlkfbokdbfnicaa
