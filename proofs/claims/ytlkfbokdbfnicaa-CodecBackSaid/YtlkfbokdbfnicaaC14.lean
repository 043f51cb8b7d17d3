import Derived.Test.YtlkfbokdbfnicaaSep17
import Derived.Test.YtlkfbokdbfnicaaInst
import Derived.Test.YtlkfbokdbfnicaaC13
import Derived.Lib.Hide
set_option linter.unusedSimpArgs false
set_option linter.unusedVariables false
set_option maxHeartbeats 2000000
set_option maxRecDepth 20000
namespace Go.Proofs.Ytlkfbokdbfnicaa
open Go.RowKit

abbrev RV (b : Nat) (q : Rdr) : Res := .blk b (.cells #[.string (S q.s), .int .i64 q.at', .int .i64 q.e, .int .i64 q.fa] 27 (0, 0))
theorem rints_fin (q : Rdr) (h5 : q.e = 0) (most least great : Int) {q' : Rdr} {ys : List Int} (h : rints q most least great = (q', ys)) (he : q'.e ≠ 0) : rfield q (rints q most least great) [] = (⟨q'.s, q.at', q'.e, q'.fa⟩, []) := by
  rw [h]
  simp (discharger := omega) only [rfield, rback, if_pos, if_neg]
theorem rints_fin0 (q : Rdr) (h5 : q.e = 0) (most least great : Int) {q' : Rdr} {ys : List Int} (h : rints q most least great = (q', ys)) (he : q'.e = 0) : rfield q (rints q most least great) [] = (q', ys) := by
  rw [h]
  simp (discharger := omega) only [rfield, rback, if_pos, if_neg]

theorem Ints2_call (E : Env) (L : List Res) (s : List UInt8) (hs : s.length ≤ 1000000000000) (a e f most least great : Int) (hm : most ≤ 9223372036854775807) :
    CallS Try.prog 64 #[.agg #[.string (S s), .int .i64 a, .int .i64 e, .int .i64 f], .int .i64 most, .int .i64 least, .int .i64 great] E L
      (IntsPost L (rfield (rbegin ⟨s, a, e, f⟩) (rints (rbegin ⟨s, a, e, f⟩) most least great) [])) := by
  refine CallS.intro (l := [.agg #[.string (S s), .int .i64 a, .int .i64 e, .int .i64 f], .int .i64 most, .int .i64 least, .int .i64 great]) _ Try.func64 rfl Try.ntmps64 rfl ?_
  have hok := rbegin_ok ⟨s, a, e, f⟩
  have hnil : SlE E 1 none 0 (i64s []) := SlE.nil
  by_cases hb : most < 0 ∨ great < least
  · have hr : ∀ q : Rdr, rints q most least great = (⟨q.s, q.at', 2, q.at'⟩, []) := fun q => by rw [rints, if_pos hb]
    by_cases h5 : (rbegin ⟨s, a, e, f⟩).e = 0
    · have hf := rints_fin _ h5 most least great (hr _) (show (2 : Int) ≠ 0 by decide)
      rw [hf]
      refine G_seq ?_
      refine G_region ?_
      (refine G_boxA rfl rfl rfl rfl (.none rfl) ?_; intro b4)
      (refine G_alloc rfl rfl rfl (.none rfl) ?_; intro b8)
      refine G_val (V_assign rfl rfl) rfl rfl (.none rfl) ?_
      refine G_end ?_
      refine X_then ?_
      refine G_seq ?_
      refine G_region ?_
      refine G_val (V_loadA rfl rfl (Cells.own (.tail _ (.head _))) rfl) rfl rfl (.none rfl) ?_
      refine G_callv (k := 69) (.mk rfl rfl rfl rfl) rfl rfl (.none rfl) (reader_call _ _ _ (by first | assumption | omega | (simp; omega) | (simp; done)) _ _ _) ?_
      refine G_storeA rfl rfl rfl rfl (by simp [Value.oneCell']) rfl (.none rfl) (.tail _ (.head _ _ _)) rfl ?_
      refine G_end ?_
      refine X_then ?_
      refine G_seq ?_
      refine G_seq ?_
      refine G_region ?_
      refine G_val (V_move rfl rfl) rfl rfl (.none rfl) ?_
      refine G_val (V_lss rfl rfl rfl) rfl rfl (.none rfl) ?_
      refine G_val (V_move rfl rfl) rfl rfl (.none rfl) ?_
      apply G_joinOr 4 22 26 rfl
      · intro H1
        dsimp only [List.take]
        simp only [Bool.and_eq_true, Bool.or_eq_true, Bool.not_eq_true', Bool.not_eq_false', Bool.and_eq_false_iff, Bool.or_eq_false_iff, Bool.not_not, decide_eq_true_eq, decide_eq_false_iff_not, ne_eq, Decidable.not_not, Bool.decide_eq_true] at H1
        refine G_stay (.no rfl rfl rfl rfl) rfl rfl ?_
        refine G_stay (.no rfl rfl rfl rfl) rfl rfl ?_
        refine G_stay (.no rfl rfl rfl rfl) rfl rfl ?_
        refine G_val (V_pick_t rfl rfl rfl) rfl rfl (.none rfl) ?_
        refine G_end ?_
        exact JQ_end 4 rfl rfl (by kernel_rfl)
      · intro H2
        dsimp only [List.take]
        simp only [Bool.and_eq_true, Bool.or_eq_true, Bool.not_eq_true', Bool.not_eq_false', Bool.and_eq_false_iff, Bool.or_eq_false_iff, Bool.not_not, decide_eq_true_eq, decide_eq_false_iff_not, ne_eq, Decidable.not_not, Bool.decide_eq_true] at H2
        refine G_val (V_move rfl rfl) rfl rfl (.yes rfl rfl rfl rfl) ?_
        refine G_val (V_move rfl rfl) rfl rfl (.yes rfl rfl rfl rfl) ?_
        refine G_val (V_gtr rfl rfl rfl) rfl rfl (.yes rfl rfl rfl rfl) ?_
        refine G_val (V_pick_f rfl rfl rfl) rfl rfl (.none rfl) ?_
        refine G_end ?_
        exact JQ_end 4 rfl rfl (by kernel_rfl)
      dsimp only [List.drop]
      refine G_end ?_
      refine X_then ?_
      refine G_cond_t rfl (by simp [*]; done) ?_
      refine G_seq ?_
      refine G_region ?_
      refine G_val (V_loadA rfl rfl (Cells.own (.tail _ (.head _))) rfl) rfl rfl (.none rfl) ?_
      refine G_val (V_fieldAddr rfl rfl (by decide)) rfl rfl (.none rfl) ?_
      refine G_val (V_load rfl rfl (Cell.own (.tail _ (.head _)) rfl)) rfl rfl (.none rfl) ?_
      refine G_callv (k := 95) (.mk rfl rfl rfl rfl) rfl rfl (.none rfl) (fail_call _ _ _ _ _ _ _ _) ?_
      refine G_storeA rfl rfl rfl rfl (by simp [Value.oneCell']) rfl (.none rfl) (.head _ _ _) rfl ?_
      refine G_val (V_assign rfl rfl) rfl rfl (.none rfl) ?_
      refine G_end ?_
      refine X_then ?_
      refine G_ret ?_
      refine X_then_ret ?_
      refine G_leaveS (.drop _ (.drop _ (.nil _))) (by exact (.cons (.cellA rfl (Cells.own (.head _)) rfl) (.cons (.tmp rfl) (.nil)))) rfl ?_ ?_
      · exact (.refl _)
      exact ⟨_, ⟨_, ⟨(by first | rfl | (simp (discharger := omega) only [resVal, rwith, if_pos, if_neg]; first | done | rfl) | (simp [resVal, rwith, *]; done) | ((try simp only [resVal, rwith]); (repeat' split) <;> first | rfl | (exfalso; omega) | (simp_all; done) | (simp_all; omega))), ⟨(by first | assumption | omega | (simp; done)), (by first | rfl | (simp (discharger := omega) only [resVal, rwith, if_pos, if_neg]; first | done | rfl) | (simp [resVal, rwith, *]; done) | ((try simp only [resVal, rwith]); (repeat' split) <;> first | rfl | (exfalso; omega) | (simp_all; done) | (simp_all; omega)))⟩⟩⟩⟩
    · have hf : rfield (rbegin ⟨s, a, e, f⟩) (rints (rbegin ⟨s, a, e, f⟩) most least great) [] = (rbegin ⟨s, a, e, f⟩, []) := by rw [rfield, if_neg h5]
      rw [hf]
      refine G_seq ?_
      refine G_region ?_
      (refine G_boxA rfl rfl rfl rfl (.none rfl) ?_; intro b4)
      (refine G_alloc rfl rfl rfl (.none rfl) ?_; intro b8)
      refine G_val (V_assign rfl rfl) rfl rfl (.none rfl) ?_
      refine G_end ?_
      refine X_then ?_
      refine G_seq ?_
      refine G_region ?_
      refine G_val (V_loadA rfl rfl (Cells.own (.tail _ (.head _))) rfl) rfl rfl (.none rfl) ?_
      refine G_callv (k := 69) (.mk rfl rfl rfl rfl) rfl rfl (.none rfl) (reader_call _ _ _ (by first | assumption | omega | (simp; omega) | (simp; done)) _ _ _) ?_
      refine G_storeA rfl rfl rfl rfl (by simp [Value.oneCell']) rfl (.none rfl) (.tail _ (.head _ _ _)) rfl ?_
      refine G_end ?_
      refine X_then ?_
      refine G_seq ?_
      refine G_seq ?_
      refine G_region ?_
      refine G_val (V_move rfl rfl) rfl rfl (.none rfl) ?_
      refine G_val (V_lss rfl rfl rfl) rfl rfl (.none rfl) ?_
      refine G_val (V_move rfl rfl) rfl rfl (.none rfl) ?_
      apply G_joinOr 4 22 26 rfl
      · intro H1
        dsimp only [List.take]
        simp only [Bool.and_eq_true, Bool.or_eq_true, Bool.not_eq_true', Bool.not_eq_false', Bool.and_eq_false_iff, Bool.or_eq_false_iff, Bool.not_not, decide_eq_true_eq, decide_eq_false_iff_not, ne_eq, Decidable.not_not, Bool.decide_eq_true] at H1
        refine G_stay (.no rfl rfl rfl rfl) rfl rfl ?_
        refine G_stay (.no rfl rfl rfl rfl) rfl rfl ?_
        refine G_stay (.no rfl rfl rfl rfl) rfl rfl ?_
        refine G_val (V_pick_t rfl rfl rfl) rfl rfl (.none rfl) ?_
        refine G_end ?_
        exact JQ_end 4 rfl rfl (by kernel_rfl)
      · intro H2
        dsimp only [List.take]
        simp only [Bool.and_eq_true, Bool.or_eq_true, Bool.not_eq_true', Bool.not_eq_false', Bool.and_eq_false_iff, Bool.or_eq_false_iff, Bool.not_not, decide_eq_true_eq, decide_eq_false_iff_not, ne_eq, Decidable.not_not, Bool.decide_eq_true] at H2
        refine G_val (V_move rfl rfl) rfl rfl (.yes rfl rfl rfl rfl) ?_
        refine G_val (V_move rfl rfl) rfl rfl (.yes rfl rfl rfl rfl) ?_
        refine G_val (V_gtr rfl rfl rfl) rfl rfl (.yes rfl rfl rfl rfl) ?_
        refine G_val (V_pick_f rfl rfl rfl) rfl rfl (.none rfl) ?_
        refine G_end ?_
        exact JQ_end 4 rfl rfl (by kernel_rfl)
      dsimp only [List.drop]
      refine G_end ?_
      refine X_then ?_
      refine G_cond_t rfl (by simp [*]; done) ?_
      refine G_seq ?_
      refine G_region ?_
      refine G_val (V_loadA rfl rfl (Cells.own (.tail _ (.head _))) rfl) rfl rfl (.none rfl) ?_
      refine G_val (V_fieldAddr rfl rfl (by decide)) rfl rfl (.none rfl) ?_
      refine G_val (V_load rfl rfl (Cell.own (.tail _ (.head _)) rfl)) rfl rfl (.none rfl) ?_
      refine G_callv (k := 95) (.mk rfl rfl rfl rfl) rfl rfl (.none rfl) (fail_call _ _ _ _ _ _ _ _) ?_
      refine G_storeA rfl rfl rfl rfl (by simp [Value.oneCell']) rfl (.none rfl) (.head _ _ _) rfl ?_
      refine G_val (V_assign rfl rfl) rfl rfl (.none rfl) ?_
      refine G_end ?_
      refine X_then ?_
      refine G_ret ?_
      refine X_then_ret ?_
      refine G_leaveS (.drop _ (.drop _ (.nil _))) (by exact (.cons (.cellA rfl (Cells.own (.head _)) rfl) (.cons (.tmp rfl) (.nil)))) rfl ?_ ?_
      · exact (.refl _)
      exact ⟨_, ⟨_, ⟨(by first | rfl | (simp (discharger := omega) only [resVal, rwith, if_pos, if_neg]; first | done | rfl) | (simp [resVal, rwith, *]; done) | ((try simp only [resVal, rwith]); (repeat' split) <;> first | rfl | (exfalso; omega) | (simp_all; done) | (simp_all; omega))), ⟨(by first | assumption | omega | (simp; done)), (by first | rfl | (simp (discharger := omega) only [resVal, rwith, if_pos, if_neg]; first | done | rfl) | (simp [resVal, rwith, *]; done) | ((try simp only [resVal, rwith]); (repeat' split) <;> first | rfl | (exfalso; omega) | (simp_all; done) | (simp_all; omega)))⟩⟩⟩⟩
  refine G_seq ?_
  refine G_region ?_
  (refine G_boxA rfl rfl rfl rfl (.none rfl) ?_; intro b4)
  (refine G_alloc rfl rfl rfl (.none rfl) ?_; intro b8)
  refine G_val (V_assign rfl rfl) rfl rfl (.none rfl) ?_
  refine G_end ?_
  refine X_then ?_
  refine G_seq ?_
  refine G_region ?_
  refine G_val (V_loadA rfl rfl (Cells.own (.tail _ (.head _))) rfl) rfl rfl (.none rfl) ?_
  refine G_callv (k := 69) (.mk rfl rfl rfl rfl) rfl rfl (.none rfl) (reader_call _ _ _ (by first | assumption | omega | (simp; omega) | (simp; done)) _ _ _) ?_
  refine G_storeA rfl rfl rfl rfl (by simp [Value.oneCell']) rfl (.none rfl) (.tail _ (.head _ _ _)) rfl ?_
  refine G_end ?_
  refine X_then ?_
  refine G_seq ?_
  refine G_seq ?_
  refine G_region ?_
  refine G_val (V_move rfl rfl) rfl rfl (.none rfl) ?_
  refine G_val (V_lss rfl rfl rfl) rfl rfl (.none rfl) ?_
  refine G_val (V_move rfl rfl) rfl rfl (.none rfl) ?_
  refine G.bool_f 22 rfl (decide_eq_false (by omega)) ?_
  refine G_val (V_move rfl rfl) rfl rfl (.yes rfl rfl rfl rfl) ?_
  refine G_val (V_move rfl rfl) rfl rfl (.yes rfl rfl rfl rfl) ?_
  refine G_val (V_gtr rfl rfl rfl) rfl rfl (.yes rfl rfl rfl rfl) ?_
  refine G_val (V_pick_f rfl rfl rfl) rfl rfl (.none rfl) ?_
  refine G_end ?_
  refine X_then ?_
  refine G_cond_f rfl (decide_eq_false (by omega)) ?_
  refine G_skip ?_
  refine X_then ?_
  refine G_seq ?_
  refine G_region ?_
  refine G_val (V_loadA rfl rfl (Cells.own (.tail _ (.head _))) rfl) rfl rfl (.none rfl) ?_
  refine G_callv (k := 61) (.mk rfl rfl rfl rfl) rfl rfl (.none rfl) (Wide2_call _ _ _ (by first | assumption | omega | (simp; omega) | (simp; done)) _ _ _ _) ?_
  refine G_val (V_move rfl rfl) rfl rfl (.none rfl) ?_
  refine G_val (V_extract rfl rfl rfl) rfl rfl (.none rfl) ?_
  refine G_val (V_extract rfl rfl rfl) rfl rfl (.none rfl) ?_
  (refine G_alloc rfl rfl rfl (.none rfl) ?_; intro b10)
  refine G_storeA rfl rfl rfl rfl (by simp [Value.oneCell']) rfl (.none rfl) (.head _ _ _) rfl ?_
  refine G_val (V_assign rfl rfl) rfl rfl (.none rfl) ?_
  refine G_end ?_
  refine X_then ?_
  refine G_seq ?_
  refine G_seq ?_
  refine G_region ?_
  refine G_val (V_loadA rfl rfl (Cells.own (.head _)) rfl) rfl rfl (.none rfl) ?_
  refine G_callv (k := 96) (.mk rfl rfl rfl rfl) rfl rfl (.none rfl) (fine_call _ _ _ _ _ _) ?_
  refine G_val (V_not rfl rfl) rfl rfl (.none rfl) ?_
  refine G_end ?_
  refine X_then ?_
  generalize rbegin ⟨s, a, e, f⟩ = q at *
  rw [rbegin_eta hok]
  obtain ⟨h1, h2, h3, h4⟩ := hok
  by_cases h5 : q.e = 0
  · have hv := rwide_props q h5 (by omega) h2 h3
    have hs' := rwide_s q
    by_cases h6 : (rwide q).1.e = 0
    · rw [full_ok h5 h6 (hv.1 h6).2.2.2]
      have hv1 := hv.1 h6
      clear hv
      by_cases h7 : most < ((rwide q).2 : Int)
      · have hr : rints q most least great = (⟨(rwide q).1.s, (rwide q).1.at', 4, q.at'⟩, []) := by rw [rints, if_neg hb, if_neg (by simpa using h6), if_pos h7]
        rw [rints_fin q h5 most least great hr (show (4 : Int) ≠ 0 by decide), hs']
        refine G_cond_f rfl (by simp [*]; done) ?_
        refine G_skip ?_
        refine X_then ?_
        refine G_seq ?_
        refine G_seq ?_
        refine G_region ?_
        refine G_val (V_move rfl rfl) rfl rfl (.none rfl) ?_
        refine G_val (V_move rfl rfl) rfl rfl (.none rfl) ?_
        refine G_val (V_conv_u64 rfl rfl (by omega) (by omega)) rfl rfl (.none rfl) ?_
        refine G_val (V_gtr rfl rfl rfl) rfl rfl (.none rfl) ?_
        refine G_end ?_
        refine X_then ?_
        refine G_cond_t rfl (decide_eq_true (by omega)) ?_
        refine G_seq ?_
        refine G_region ?_
        refine G_val (V_loadA rfl rfl (Cells.own (.tail _ (.tail _ (.head _)))) rfl) rfl rfl (.none rfl) ?_
        refine G_val (V_fieldAddr rfl rfl (by decide)) rfl rfl (.none rfl) ?_
        refine G_val (V_load rfl rfl (Cell.own (.tail _ (.tail _ (.head _))) rfl)) rfl rfl (.none rfl) ?_
        refine G_callv (k := 95) (.mk rfl rfl rfl rfl) rfl rfl (.none rfl) (fail_call _ _ _ _ _ _ _ _) ?_
        refine G_storeA rfl rfl rfl rfl (by simp [Value.oneCell']) rfl (.none rfl) (.tail _ (.head _ _ _)) rfl ?_
        refine G_val (V_assign rfl rfl) rfl rfl (.none rfl) ?_
        refine G_end ?_
        refine X_then ?_
        refine G_ret ?_
        refine X_then_ret ?_
        refine G_leaveS (.drop _ (.drop _ (.drop _ (.nil _)))) (by exact (.cons (.cellA rfl (Cells.own (.tail _ (.head _))) rfl) (.cons (.tmp rfl) (.nil)))) rfl ?_ ?_
        · exact (.refl _)
        exact ⟨_, ⟨_, ⟨(by first | rfl | (simp (discharger := omega) only [resVal, rwith, if_pos, if_neg]; first | done | rfl) | (simp [resVal, rwith, *]; done) | ((try simp only [resVal, rwith]); (repeat' split) <;> first | rfl | (exfalso; omega) | (simp_all; done) | (simp_all; omega))), ⟨(by first | assumption | omega | (simp; done)), (by first | rfl | (simp (discharger := omega) only [resVal, rwith, if_pos, if_neg]; first | done | rfl) | (simp [resVal, rwith, *]; done) | ((try simp only [resVal, rwith]); (repeat' split) <;> first | rfl | (exfalso; omega) | (simp_all; done) | (simp_all; omega)))⟩⟩⟩⟩
      have hr : rints q most least great = rintsK least great (rwide q).2 (rwide q).1 [] := by rw [rints, if_neg hb, if_neg (by simpa using h6), if_neg h7]
      have HR := Lib.hid hr
      clear hr
      have hs2 := congrArg List.length hs'
      refine G_cond_f rfl (by simp [*]; done) ?_
      refine G_skip ?_
      refine X_then ?_
      refine G_seq ?_
      refine G_seq ?_
      refine G_region ?_
      refine G_val (V_move rfl rfl) rfl rfl (.none rfl) ?_
      refine G_val (V_move rfl rfl) rfl rfl (.none rfl) ?_
      refine G_val (V_conv_u64 rfl rfl (by omega) (by omega)) rfl rfl (.none rfl) ?_
      refine G_val (V_gtr rfl rfl rfl) rfl rfl (.none rfl) ?_
      refine G_end ?_
      refine X_then ?_
      refine G_cond_f rfl (decide_eq_false (by omega)) ?_
      refine G_skip ?_
      refine X_then ?_
      refine G_seq ?_
      refine G_region ?_
      refine G_val (V_assign rfl rfl) rfl rfl (.none rfl) ?_
      refine G_end ?_
      refine X_then ?_
      refine G_seq ?_
      refine G_seq ?_
      refine G_region ?_
      refine G_val (V_assign rfl rfl) rfl rfl (.none rfl) ?_
      refine G_end ?_
      refine X_then ?_
      refine G_block ?_
      refine G.nilSl 3 1 ?_
      generalize hN : (rwide q).2 = N at *
      refine G_loop (α := Nat × Rdr × List Int × Option Addr × Nat) (fun x => [(2, .int .i64 least), (3, .int .i64 great), (4, .pointer (some ⟨b4, 0, none⟩)), (8, .pointer (some ⟨b8, 0, none⟩)), (10, .pointer (some ⟨b10, 0, none⟩)), (11, .int .u64 N), (12, .slice x.2.2.2.1 x.2.2.1.length x.2.2.2.2), (13, .int .u64 x.1)]) (fun _ => E)
        (fun x => .sl 3 1 x.2.2.2.1 x.2.2.1.length x.2.2.2.2 (i64s x.2.2.1) :: RV b10 x.2.1 :: RV b8 ⟨[], 0, 0, 0⟩ :: RV b4 q :: L)
        (fun x => rintsK least great N (rwide q).1 [] = rintsK least great (N - x.1) x.2.1 x.2.2.1 ∧ x.1 ≤ N ∧ x.2.1.e = 0 ∧ x.2.1.fa = 0 ∧ x.2.1.s = q.s ∧ x.2.1.at' ≤ q.s.length ∧ (x.2.2.1.length : Int) ≤ x.2.1.at') (fun x => N - x.1) (0, (rwide q).1, [], none, 0)
        ⟨rfl, Nat.zero_le _, h6, hv1.2.2.1, hs', hv1.2.1, by simp only [List.length_nil]; omega⟩ ⟨rfl, rfl, rfl, rfl, rfl, rfl, rfl, rfl, trivial⟩ rfl rfl ?_
      rintro ⟨k, q', ys, p, cap⟩ ⟨hv, hk, hi1, hi2, hi3, hi4, hi5⟩
      simp only at hv hk hi1 hi2 hi3 hi4 hi5 ⊢
      have hl' := congrArg List.length hi3
      have hok' : q'.ok := ⟨by omega, by omega, by omega, .inl ⟨hi1, hi2⟩⟩
      by_cases hlt : k < N
      · rw [show N - k = (N - (k + 1)) + 1 by omega] at hv
        have HV := Lib.hid hv
        clear hv
        refine G_seq ?_
        refine G_seq ?_
        refine G_region ?_
        refine G_val (V_move rfl rfl) rfl rfl (.none rfl) ?_
        refine G_val (V_move rfl rfl) rfl rfl (.none rfl) ?_
        refine G_val (V_lss rfl rfl rfl) rfl rfl (.none rfl) ?_
        refine G_end ?_
        refine X_then ?_
        refine G_cond_t rfl (decide_eq_true (by omega)) ?_
        refine G_skip ?_
        refine X_then ?_
        refine G_seq ?_
        refine G_block ?_
        refine G_seq ?_
        refine G_region ?_
        refine G_val (V_fieldAddr rfl rfl (by decide)) rfl rfl (.none rfl) ?_
        refine G_val (V_load rfl rfl (Cell.own (.tail _ (.head _)) rfl)) rfl rfl (.none rfl) ?_
        refine G_val (V_assign rfl rfl) rfl rfl (.none rfl) ?_
        refine G_end ?_
        refine X_then ?_
        refine G_seq ?_
        refine G_region ?_
        refine G_val (V_loadA rfl rfl (Cells.own (.tail _ (.head _))) rfl) rfl rfl (.none rfl) ?_
        refine G_callv (k := 61) (.mk rfl rfl rfl rfl) rfl rfl (.none rfl) (Wide2_call _ _ _ (by first | assumption | omega | (simp; omega) | (simp; done)) _ _ _ _) ?_
        refine G_val (V_move rfl rfl) rfl rfl (.none rfl) ?_
        refine G_val (V_extract rfl rfl rfl) rfl rfl (.none rfl) ?_
        refine G_val (V_extract rfl rfl rfl) rfl rfl (.none rfl) ?_
        (refine G_alloc rfl rfl rfl (.none rfl) ?_; intro b15)
        refine G_storeA rfl rfl rfl rfl (by simp [Value.oneCell']) rfl (.none rfl) (.head _ _ _) rfl ?_
        refine G_val (V_assign rfl rfl) rfl rfl (.none rfl) ?_
        refine G_end ?_
        refine X_then ?_
        refine G_seq ?_
        refine G_seq ?_
        refine G_region ?_
        refine G_val (V_loadA rfl rfl (Cells.own (.head _)) rfl) rfl rfl (.none rfl) ?_
        refine G_callv (k := 96) (.mk rfl rfl rfl rfl) rfl rfl (.none rfl) (fine_call _ _ _ _ _ _) ?_
        refine G_val (V_not rfl rfl) rfl rfl (.none rfl) ?_
        refine G_end ?_
        refine X_then ?_
        rw [rbegin_eta hok']
        have hw := rwide_props q' hi1 hi2 (by omega) (by omega)
        have hws := rwide_s q'
        have hws2 := congrArg List.length hws
        by_cases h8 : (rwide q').1.e = 0
        · have hw1 := hw.1 h8
          clear hw
          rw [full_ok hi1 h8 hw1.2.2.2]
          by_cases h9 : unzig (rwide q').2 < least ∨ great < unzig (rwide q').2
          · have ho : rone q' least great = (⟨(rwide q').1.s, (rwide q').1.at', 2, q'.at'⟩, unzig (rwide q').2) := by rw [rone, if_pos ⟨h8, h9⟩]
            have h10 : rints q most least great = (⟨(rwide q').1.s, (rwide q').1.at', 2, q'.at'⟩, ys ++ [unzig (rwide q').2]) := by
              rw [HR.out, HV.out, rintsK, ho, if_neg (show ¬ (2 : Int) = 0 by decide)]
            rw [rints_fin q h5 most least great h10 (show (2 : Int) ≠ 0 by decide), hws, hi3]
            refine G_cond_f rfl (by simp [*]; done) ?_
            refine G_skip ?_
            refine X_then ?_
            refine G_seq ?_
            refine G_region ?_
            refine G_val (V_move rfl rfl) rfl rfl (.none rfl) ?_
            refine G_callv (k := 100) (.mk rfl rfl rfl rfl) rfl rfl (.none rfl) (Unzigzag2_call _ _ _ (by first | assumption | omega | (simp; omega) | (simp; done))) ?_
            refine G_val (V_assign rfl rfl) rfl rfl (.none rfl) ?_
            refine G_end ?_
            refine X_then ?_
            refine G_seq ?_
            refine G_seq ?_
            refine G_region ?_
            refine G_val (V_move rfl rfl) rfl rfl (.none rfl) ?_
            refine G_val (V_move rfl rfl) rfl rfl (.none rfl) ?_
            refine G_val (V_lss rfl rfl rfl) rfl rfl (.none rfl) ?_
            refine G_val (V_move rfl rfl) rfl rfl (.none rfl) ?_
            apply G_joinOr 4 72 76 rfl
            · intro H1
              dsimp only [List.take]
              simp only [Bool.and_eq_true, Bool.or_eq_true, Bool.not_eq_true', Bool.not_eq_false', Bool.and_eq_false_iff, Bool.or_eq_false_iff, Bool.not_not, decide_eq_true_eq, decide_eq_false_iff_not, ne_eq, Decidable.not_not, Bool.decide_eq_true] at H1
              refine G_stay (.no rfl rfl rfl rfl) rfl rfl ?_
              refine G_stay (.no rfl rfl rfl rfl) rfl rfl ?_
              refine G_stay (.no rfl rfl rfl rfl) rfl rfl ?_
              refine G_val (V_pick_t rfl rfl rfl) rfl rfl (.none rfl) ?_
              refine G_end ?_
              exact JQ_end 4 rfl rfl (by kernel_rfl)
            · intro H2
              dsimp only [List.take]
              simp only [Bool.and_eq_true, Bool.or_eq_true, Bool.not_eq_true', Bool.not_eq_false', Bool.and_eq_false_iff, Bool.or_eq_false_iff, Bool.not_not, decide_eq_true_eq, decide_eq_false_iff_not, ne_eq, Decidable.not_not, Bool.decide_eq_true] at H2
              refine G_val (V_move rfl rfl) rfl rfl (.yes rfl rfl rfl rfl) ?_
              refine G_val (V_move rfl rfl) rfl rfl (.yes rfl rfl rfl rfl) ?_
              refine G_val (V_gtr rfl rfl rfl) rfl rfl (.yes rfl rfl rfl rfl) ?_
              refine G_val (V_pick_f rfl rfl rfl) rfl rfl (.none rfl) ?_
              refine G_end ?_
              exact JQ_end 4 rfl rfl (by kernel_rfl)
            dsimp only [List.drop]
            refine G_end ?_
            refine X_then ?_
            refine G_cond_t rfl (by simp [*]; done) ?_
            refine G_seq ?_
            refine G_region ?_
            refine G_val (V_loadA rfl rfl (Cells.own (.tail _ (.tail _ (.tail _ (.tail _ (.head _)))))) rfl) rfl rfl (.none rfl) ?_
            refine G_val (V_move rfl rfl) rfl rfl (.none rfl) ?_
            refine G_callv (k := 95) (.mk rfl rfl rfl rfl) rfl rfl (.none rfl) (fail_call _ _ _ _ _ _ _ _) ?_
            refine G_storeA rfl rfl rfl rfl (by simp [Value.oneCell']) rfl (.none rfl) (.tail _ (.tail _ (.tail _ (.head _ _ _)))) rfl ?_
            refine G_val (V_assign rfl rfl) rfl rfl (.none rfl) ?_
            refine G_end ?_
            refine X_then ?_
            refine G_ret ?_
            refine X_then_ret ?_
            refine X_block_ret ?_
            refine X_then_ret ?_
            refine X_then_ret ?_
            refine X_block_ret ?_
            refine X_then_ret ?_
            refine G_leaveS (.drop _ (.drop _ (.drop _ (.drop _ (.drop _ (.nil _)))))) (by exact (.cons (.cellA rfl (Cells.own (.tail _ (.tail _ (.tail _ (.head _))))) rfl) (.cons (.tmp rfl) (.nil)))) rfl ?_ ?_
            · exact (.refl _)
            exact ⟨_, ⟨_, ⟨(by first | rfl | (simp (discharger := omega) only [resVal, rwith, if_pos, if_neg]; first | done | rfl) | (simp [resVal, rwith, *]; done) | ((try simp only [resVal, rwith]); (repeat' split) <;> first | rfl | (exfalso; omega) | (simp_all; done) | (simp_all; omega))), ⟨(by first | assumption | omega | (simp; done)), (by first | rfl | (simp (discharger := omega) only [resVal, rwith, if_pos, if_neg]; first | done | rfl) | (simp [resVal, rwith, *]; done) | ((try simp only [resVal, rwith]); (repeat' split) <;> first | rfl | (exfalso; omega) | (simp_all; done) | (simp_all; omega)))⟩⟩⟩⟩
          · have ho : rone q' least great = ((rwide q').1, unzig (rwide q').2) := by rw [rone, if_neg (fun h => h9 h.2)]
            have h10 := Lib.hid (HV.out.trans (show _ = rintsK least great (N - (k + 1)) (rwide q').1 (ys ++ [unzig (rwide q').2]) by rw [rintsK, ho, if_pos h8]))
            clear HV
            refine G_cond_f rfl (by simp [*]; done) ?_
            refine G_skip ?_
            refine X_then ?_
            refine G_seq ?_
            refine G_region ?_
            refine G_val (V_move rfl rfl) rfl rfl (.none rfl) ?_
            refine G_callv (k := 100) (.mk rfl rfl rfl rfl) rfl rfl (.none rfl) (Unzigzag2_call _ _ _ (by first | assumption | omega | (simp; omega) | (simp; done))) ?_
            refine G_val (V_assign rfl rfl) rfl rfl (.none rfl) ?_
            refine G_end ?_
            refine X_then ?_
            refine G_seq ?_
            refine G_seq ?_
            refine G_region ?_
            refine G_val (V_move rfl rfl) rfl rfl (.none rfl) ?_
            refine G_val (V_move rfl rfl) rfl rfl (.none rfl) ?_
            refine G_val (V_lss rfl rfl rfl) rfl rfl (.none rfl) ?_
            refine G_val (V_move rfl rfl) rfl rfl (.none rfl) ?_
            refine G.bool_f 72 rfl (decide_eq_false (by omega)) ?_
            refine G_val (V_move rfl rfl) rfl rfl (.yes rfl rfl rfl rfl) ?_
            refine G_val (V_move rfl rfl) rfl rfl (.yes rfl rfl rfl rfl) ?_
            refine G_val (V_gtr rfl rfl rfl) rfl rfl (.yes rfl rfl rfl rfl) ?_
            refine G_val (V_pick_f rfl rfl rfl) rfl rfl (.none rfl) ?_
            refine G_end ?_
            refine X_then ?_
            refine G_cond_f rfl (decide_eq_false (by omega)) ?_
            refine G_skip ?_
            refine X_then ?_
            refine G_seq ?_
            refine G_region ?_
            refine G_val (V_move rfl rfl) rfl rfl (.none rfl) ?_
            refine G_val (V_move rfl rfl) rfl rfl (.none rfl) ?_
            (refine G_lit1 rfl rfl rfl rfl rfl (.none rfl) ?_; intro b82)
            (refine G_append rfl rfl rfl (Rd.lit (.head _) rfl) (by simp [Value.oneCell']) (by omega) (by omega) rfl rfl (.none rfl) (fun _ _ => (.tail _ (.tail _ (.head _ _ _)))) ?_; intro a83 c83; refine G.rm (.head _ _) ?_)
            refine G_val (V_assign rfl rfl) rfl rfl (.none rfl) ?_
            refine G_end ?_
            refine X_then ?_
            refine G_region ?_
            refine G_val (V_loadA rfl rfl (Cells.own (.head _)) rfl) rfl rfl (.none rfl) ?_
            refine G_storeA rfl rfl rfl rfl (by simp [Value.oneCell']) rfl (.none rfl) (.tail _ (.tail _ (.head _ _ _))) rfl ?_
            refine G_end ?_
            refine X_block ?_
            refine X_then ?_
            refine G_region ?_
            refine G_val (V_move rfl rfl) rfl rfl (.none rfl) ?_
            refine G_val (V_add_u64 rfl rfl rfl (by omega) (by omega)) rfl rfl (.none rfl) ?_
            refine G_val (V_assign rfl rfl) rfl rfl (.none rfl) ?_
            refine G_end ?_
            refine X_then ?_
            exact G.drop (G_again (k + 1, (rwide q').1, ys ++ [unzig (rwide q').2], a83, c83) ⟨h10.out, hlt, h8, hw1.2.2.1, hws.trans hi3, by simp only; omega, by simp only [List.length_append, List.length_singleton]; omega⟩ (by simp only; omega) ⟨rfl, rfl, rfl, rfl, rfl, rfl, by simp only [List.length_append, List.length_singleton]; rfl, rfl, trivial⟩ rfl (by simp only [List.length_append, List.length_singleton, i64s, List.map_append, List.map_cons, List.map_nil]))
        · have ho : rone q' least great = ((rwide q').1, unzig (rwide q').2) := by rw [rone, if_neg (fun h => h8 h.1)]
          have h10 : rints q most least great = ((rwide q').1, ys ++ [unzig (rwide q').2]) := by
            rw [HR.out, HV.out, rintsK, ho, if_neg h8]
          rw [full_err hi1 h8, rints_fin q h5 most least great h10 h8, hws, hi3]
          refine G_cond_t rfl (by simp [*]; done) ?_
          refine G_seq ?_
          refine G_region ?_
          refine G_val (V_loadA rfl rfl (Cells.own (.tail _ (.tail _ (.tail _ (.tail _ (.head _)))))) rfl) rfl rfl (.none rfl) ?_
          refine G_val (V_fieldAddr rfl rfl (by decide)) rfl rfl (.none rfl) ?_
          refine G_val (V_loadF rfl rfl (.head _) (by simp only [Nat.zero_add, List.drop_succ_cons, List.drop_zero, List.take_succ_cons, List.take_zero]; rfl) (by rfl)) rfl rfl (.none rfl) ?_
          refine G_callv (k := 99) (.mk rfl rfl rfl rfl) rfl rfl (.none rfl) (with_call _ _ _ _ _ _ _ _) ?_
          refine G_storeA rfl rfl rfl rfl (by simp [Value.oneCell']) rfl (.none rfl) (.tail _ (.tail _ (.tail _ (.head _ _ _)))) rfl ?_
          refine G_val (V_assign rfl rfl) rfl rfl (.none rfl) ?_
          refine G_end ?_
          refine X_then ?_
          refine G_ret ?_
          refine X_then_ret ?_
          refine X_block_ret ?_
          refine X_then_ret ?_
          refine X_then_ret ?_
          refine X_block_ret ?_
          refine X_then_ret ?_
          refine G_leaveS (.drop _ (.drop _ (.drop _ (.drop _ (.drop _ (.nil _)))))) (by exact (.cons (.cellA rfl (Cells.own (.tail _ (.tail _ (.tail _ (.head _))))) rfl) (.cons (.tmp rfl) (.nil)))) rfl ?_ ?_
          · exact (.refl _)
          exact ⟨_, ⟨_, ⟨(by first | rfl | (simp (discharger := omega) only [resVal, rwith, if_pos, if_neg]; first | done | rfl) | (simp [resVal, rwith, *]; done) | ((try simp only [resVal, rwith]); (repeat' split) <;> first | rfl | (exfalso; omega) | (simp_all; done) | (simp_all; omega))), ⟨(by first | assumption | omega | (simp; done)), (by first | rfl | (simp (discharger := omega) only [resVal, rwith, if_pos, if_neg]; first | done | rfl) | (simp [resVal, rwith, *]; done) | ((try simp only [resVal, rwith]); (repeat' split) <;> first | rfl | (exfalso; omega) | (simp_all; done) | (simp_all; omega)))⟩⟩⟩⟩
      · have h10 : rints q most least great = (q', ys) := by rw [HR.out, hv, show N - k = 0 by omega]; rfl
        rw [rints_fin0 q h5 most least great h10 hi1]
        refine G.freeze (.head _ _) ?_
        intro E1 hE1 hsl
        have hal := SlE.sl hsl
        clear hsl
        refine G_seq ?_
        refine G_seq ?_
        refine G_region ?_
        refine G_val (V_move rfl rfl) rfl rfl (.none rfl) ?_
        refine G_val (V_move rfl rfl) rfl rfl (.none rfl) ?_
        refine G_val (V_lss rfl rfl rfl) rfl rfl (.none rfl) ?_
        refine G_end ?_
        refine X_then ?_
        refine G_cond_f rfl (decide_eq_false (by omega)) ?_
        refine G_exit ?_
        refine X_then_exit ?_
        refine X_then_exit ?_
        refine X_block_hit ?_
        refine X_then ?_
        refine G_seq ?_
        refine G_region ?_
        refine G_val (V_loadA rfl rfl (Cells.own (.head _)) rfl) rfl rfl (.none rfl) ?_
        refine G_val (V_move rfl rfl) rfl rfl (.none rfl) ?_
        refine G_storeA rfl rfl rfl rfl (by simp [Value.oneCell']) rfl (.none rfl) (.tail _ (.head _ _ _)) rfl ?_
        refine G_val (V_assign rfl rfl) rfl rfl (.none rfl) ?_
        refine G_end ?_
        refine X_then ?_
        refine G_ret ?_
        refine G_leaveS (.drop _ (.drop _ (.drop _ (.nil _)))) (by exact (.cons (.cellA rfl (Cells.own (.tail _ (.head _))) rfl) (.cons (.tmp rfl) (.nil)))) rfl ?_ ?_
        · exact hE1
        exact ⟨_, ⟨_, ⟨rfl, ⟨(by first | assumption | omega | (simp; done)), rfl⟩⟩⟩⟩
    · have hr : rints q most least great = ((rwide q).1, []) := by rw [rints, if_neg hb, if_pos h6]
      rw [full_err h5 h6, rints_fin q h5 most least great hr h6, hs']
      refine G_cond_t rfl (by simp [*]; done) ?_
      refine G_seq ?_
      refine G_region ?_
      refine G_val (V_loadA rfl rfl (Cells.own (.head _)) rfl) rfl rfl (.none rfl) ?_
      refine G_storeA rfl rfl rfl rfl (by simp [Value.oneCell']) rfl (.none rfl) (.tail _ (.head _ _ _)) rfl ?_
      refine G_val (V_assign rfl rfl) rfl rfl (.none rfl) ?_
      refine G_end ?_
      refine X_then ?_
      refine G_ret ?_
      refine X_then_ret ?_
      refine G_leaveS (.drop _ (.drop _ (.drop _ (.nil _)))) (by exact (.cons (.cellA rfl (Cells.own (.tail _ (.head _))) rfl) (.cons (.tmp rfl) (.nil)))) rfl ?_ ?_
      · exact (.refl _)
      exact ⟨_, ⟨_, ⟨rfl, ⟨(by first | assumption | omega | (simp; done)), rfl⟩⟩⟩⟩
  · have e1 : rfield q (rwd q 18446744073709551615) 0 = (q, 0) := by rw [rfield, if_neg h5]
    have hf : rfield q (rints q most least great) [] = (q, []) := by rw [rfield, if_neg h5]
    rw [e1, hf]
    refine G_cond_t rfl (by simp [*]; done) ?_
    refine G_seq ?_
    refine G_region ?_
    refine G_val (V_loadA rfl rfl (Cells.own (.head _)) rfl) rfl rfl (.none rfl) ?_
    refine G_storeA rfl rfl rfl rfl (by simp [Value.oneCell']) rfl (.none rfl) (.tail _ (.head _ _ _)) rfl ?_
    refine G_val (V_assign rfl rfl) rfl rfl (.none rfl) ?_
    refine G_end ?_
    refine X_then ?_
    refine G_ret ?_
    refine X_then_ret ?_
    refine G_leaveS (.drop _ (.drop _ (.drop _ (.nil _)))) (by exact (.cons (.cellA rfl (Cells.own (.tail _ (.head _))) rfl) (.cons (.tmp rfl) (.nil)))) rfl ?_ ?_
    · exact (.refl _)
    exact ⟨_, ⟨_, ⟨rfl, ⟨(by first | assumption | omega | (simp; done)), rfl⟩⟩⟩⟩
end Go.Proofs.Ytlkfbokdbfnicaa
