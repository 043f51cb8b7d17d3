import Derived.Test.YtmkgdljgiajoiaaSep8
import Derived.Test.YtmkgdljgiajoiaaInst
import Derived.Test.YtmkgdljgiajoiaaV10
set_option linter.unusedSimpArgs false
set_option linter.unusedVariables false
namespace Go.Proofs.Ytmkgdljgiajoiaa
open Go.RowKit

theorem zig_lt {z : Int} (h0 : -9223372036854775808 ≤ z) (h1 : z ≤ 9223372036854775807) : zig z < 18446744073709551616 := by
  unfold zig; split <;> omega
theorem unzig_zig {z : Int} : unzig (zig z) = z := by
  unfold zig; split <;> (unfold unzig; split <;> omega)
theorem zig_unzig {n : Nat} : zig (unzig n) = n := by
  unfold unzig; split <;> (unfold zig; split <;> omega)
theorem vdig_mono (k : Nat) : ∀ m n, m ≤ n → (vdig k m).length ≤ (vdig k n).length := by
  induction k with
  | zero => intro m n h; simp [vdig]
  | succ k ih =>
    intro m n h
    simp only [vdig]
    by_cases h1 : n < 128
    · rw [if_pos (by omega), if_pos h1]; simp
    · rw [if_neg h1]
      split
      · simp
      · simp only [List.length_cons]
        have := ih (m / 128) (n / 128) (Nat.div_le_div_right h)
        omega
def vsize (z : Int) : Int := if z < 0 then -(z + 1) else z
theorem size_call (E : Env) (L : List Res) (z : Int) (h0 : -9223372036854775808 ≤ z) (h1 : z ≤ 9223372036854775807) : CallV Try.prog 31 #[.int .i64 z] E L (.int .i64 (vsize z)) := by
  refine CallS.toV (CallS.intro (l := [.int .i64 z]) _ Try.func31 rfl Try.ntmps31 rfl ?_)
  by_cases h : z < 0
  · refine G_seq ?_
    refine G_region ?_
    refine G_val (V_assign rfl rfl) rfl rfl (.none rfl) ?_
    refine G_end ?_
    refine X_then ?_
    refine G_seq ?_
    refine G_seq ?_
    refine G_region ?_
    refine G_val (V_move rfl rfl) rfl rfl (.none rfl) ?_
    refine G_val (V_lss rfl rfl rfl) rfl rfl (.none rfl) ?_
    refine G_end ?_
    refine X_then ?_
    refine G_cond_t rfl (decide_eq_true (by omega)) ?_
    refine G_seq ?_
    refine G_region ?_
    refine G_val (V_move rfl rfl) rfl rfl (.none rfl) ?_
    refine G_val (V_add_i64 rfl rfl rfl (by omega) (by omega)) rfl rfl (.none rfl) ?_
    refine G_val (V_neg rfl rfl) rfl rfl (.none rfl) ?_
    refine G_val (V_assign rfl rfl) rfl rfl (.none rfl) ?_
    refine G_end ?_
    refine X_then ?_
    refine G_ret ?_
    refine X_then_ret ?_
    refine G_leave 0 (by exact (.cons (.tmp rfl) (.nil))) rfl ?_ ?_
    · exact .refl _
    · refine ⟨?_, rfl⟩
      rw [res_one, vsize, if_pos h, wrap_i64 (by omega) (by omega)]
      congr 1; omega
  · refine G_seq ?_
    refine G_region ?_
    refine G_val (V_assign rfl rfl) rfl rfl (.none rfl) ?_
    refine G_end ?_
    refine X_then ?_
    refine G_seq ?_
    refine G_seq ?_
    refine G_region ?_
    refine G_val (V_move rfl rfl) rfl rfl (.none rfl) ?_
    refine G_val (V_lss rfl rfl rfl) rfl rfl (.none rfl) ?_
    refine G_end ?_
    refine X_then ?_
    refine G_cond_f rfl (decide_eq_false (by omega)) ?_
    refine G_skip ?_
    refine X_then ?_
    refine G_seq ?_
    refine G_region ?_
    refine G_val (V_move rfl rfl) rfl rfl (.none rfl) ?_
    refine G_val (V_assign rfl rfl) rfl rfl (.none rfl) ?_
    refine G_end ?_
    refine X_then ?_
    refine G_ret ?_
    refine G_leave 0 (by exact (.cons (.tmp rfl) (.nil))) rfl ?_ ?_
    · exact .refl _
    · exact ⟨by rw [res_one, vsize, if_neg h], rfl⟩
theorem unzig_in {n : Nat} (h : n < 18446744073709551616) : -9223372036854775808 ≤ unzig n ∧ unzig n ≤ 9223372036854775807 := by
  unfold unzig; split <;> omega
theorem Signs_call (E : Env) (L : List Res) (a b : Int) (ha : -9223372036854775808 ≤ a ∧ a ≤ 9223372036854775807) (hb : -9223372036854775808 ≤ b ∧ b ≤ 9223372036854775807) :
    CallS Try.prog 9 #[.int .i64 a, .int .i64 b] E L (fun r _ L' => r = .bool true ∧ L' = L) := by
  refine CallS.intro (l := [.int .i64 a, .int .i64 b]) _ Try.func9 rfl Try.ntmps9 rfl ?_
  refine G_seq ?_
  refine G_region ?_
  refine G_val (V_assign rfl rfl) rfl rfl (.none rfl) ?_
  refine G_end ?_
  refine X_then ?_
  refine G_seq ?_
  refine G_region ?_
  refine G_call (k := 6) (.mk rfl rfl rfl rfl) rfl rfl (.none rfl) (Known_call _ _) ?_
  rintro r E1 L' hE1 ⟨rfl, rfl⟩
  refine G_val (V_assign rfl rfl) rfl rfl (.none rfl) ?_
  refine G_end ?_
  refine X_then ?_
  refine G_seq ?_
  refine G_region ?_
  refine G_val (V_move rfl rfl) rfl rfl (.none rfl) ?_
  refine G_callv (k := 14) (.mk rfl rfl rfl rfl) rfl rfl (.none rfl) (Zigzag_call _ _ a ha.1 ha.2) ?_
  refine G_val (V_move rfl rfl) rfl rfl (.none rfl) ?_
  refine G_callv (k := 14) (.mk rfl rfl rfl rfl) rfl rfl (.none rfl) (Zigzag_call _ _ b hb.1 hb.2) ?_
  refine G_val (V_assign rfl rfl) rfl rfl (.none rfl) ?_
  refine G_val (V_assign rfl rfl) rfl rfl (.none rfl) ?_
  refine G_end ?_
  refine X_then ?_
  refine G_seq ?_
  refine G_seq ?_
  refine G_region ?_
  refine G_val (V_move rfl rfl) rfl rfl (.none rfl) ?_
  refine G_callv (k := 16) (.mk rfl rfl rfl rfl) rfl rfl (.none rfl) (CallV.cast (Unzigzag_call _ _ (zig a) (zig_lt ha.1 ha.2)) (r' := .int .i64 a) (by rw [unzig_zig])) ?_
  refine G_val (V_move rfl rfl) rfl rfl (.none rfl) ?_
  refine G_val (V_neq rfl rfl rfl) rfl rfl (.none rfl) ?_
  refine G_val (V_move rfl rfl) rfl rfl (.none rfl) ?_
  refine G.bool_f 17 rfl (decide_eq_false (by omega)) ?_
  refine G_val (V_move rfl rfl) rfl rfl (.yes rfl rfl rfl rfl) ?_
  refine G_val (V_conv rfl rfl) rfl rfl (.yes rfl rfl rfl rfl) ?_
  refine G.bool_f 17 rfl (by simp [*]; done) ?_
  obtain ⟨B, hB, hB2⟩ : ∃ B : Nat, IntKind.u64.wrap b = B ∧ B < 18446744073709551616 := ⟨(b % 18446744073709551616).toNat, by rw [wrap_u64_eq]; omega, by omega⟩
  rw [hB]
  refine G_callv (k := 16) (.mk rfl rfl rfl rfl) rfl rfl (.yes rfl rfl rfl rfl) (Unzigzag_call _ _ B hB2) ?_
  refine G_callv (k := 14) (.mk rfl rfl rfl rfl) rfl rfl (.yes rfl rfl rfl rfl) (CallV.cast (Zigzag_call _ _ (unzig B) (unzig_in hB2).1 (unzig_in hB2).2) (r' := .int .u64 B) (by rw [zig_unzig])) ?_
  have hza : (a < 0 ∧ (zig a : Int) = -2 * a - 1) ∨ (0 ≤ a ∧ (zig a : Int) = 2 * a) := by unfold zig; split <;> omega
  have hzb : (b < 0 ∧ (zig b : Int) = -2 * b - 1) ∨ (0 ≤ b ∧ (zig b : Int) = 2 * b) := by unfold zig; split <;> omega
  have hva : vsize a = (zig a : Int) / 2 := by unfold vsize; split <;> omega
  have hvb : vsize b = (zig b : Int) / 2 := by unfold vsize; split <;> omega
  have hm : zig a ≤ zig b → (vbytes (zig a)).length ≤ (vbytes (zig b)).length := vdig_mono 10 _ _
  have hla := zig_lt ha.1 ha.2
  have hlb := zig_lt hb.1 hb.2
  have e1 : decide ((zig a : Int) = zig b) = decide (a = b) := decide_eq_decide.2 (by omega)
  have e2 : decide ((zig a : Int) % 2 = 1) = decide (a < 0) := decide_eq_decide.2 (by omega)
  generalize zig a = x at *
  generalize zig b = y at *
  refine G_val (V_move rfl rfl) rfl rfl (.yes rfl rfl rfl rfl) ?_
  refine G_val (V_conv rfl rfl) rfl rfl (.yes rfl rfl rfl rfl) ?_
  refine G_val (V_neq rfl rfl rfl) rfl rfl (.yes rfl rfl rfl rfl) ?_
  refine G_val (V_pick_f rfl rfl rfl) rfl rfl (.none rfl) ?_
  refine G_val (V_move rfl rfl) rfl rfl (.none rfl) ?_
  refine G.bool_f 26 rfl (decide_eq_false (by omega)) ?_
  refine G_val (V_move rfl rfl) rfl rfl (.yes rfl rfl rfl rfl) ?_
  refine G_val (V_move rfl rfl) rfl rfl (.yes rfl rfl rfl rfl) ?_
  refine G_val (V_eql rfl rfl rfl) rfl rfl (.yes rfl rfl rfl rfl) ?_
  refine G_val (V_move rfl rfl) rfl rfl (.yes rfl rfl rfl rfl) ?_
  refine G_val (V_move rfl rfl) rfl rfl (.yes rfl rfl rfl rfl) ?_
  refine G_val (V_eql rfl rfl rfl) rfl rfl (.yes rfl rfl rfl rfl) ?_
  refine G_val (V_bneq rfl rfl rfl) rfl rfl (.yes rfl rfl rfl rfl) ?_
  refine G_val (V_pick_f rfl rfl rfl) rfl rfl (.none rfl) ?_
  refine G_val (V_move rfl rfl) rfl rfl (.none rfl) ?_
  refine G.bool_f 35 rfl (by simp [*]; done) ?_
  refine G_val (V_move rfl rfl) rfl rfl (.yes rfl rfl rfl rfl) ?_
  refine G_val (V_rem_n rfl rfl rfl (by omega) (by omega)) rfl rfl (.yes rfl rfl rfl rfl) ?_
  refine G_val (V_eql rfl rfl rfl) rfl rfl (.yes rfl rfl rfl rfl) ?_
  refine G_val (V_move rfl rfl) rfl rfl (.yes rfl rfl rfl rfl) ?_
  refine G_val (V_lss rfl rfl rfl) rfl rfl (.yes rfl rfl rfl rfl) ?_
  refine G_val (V_bneq rfl rfl rfl) rfl rfl (.yes rfl rfl rfl rfl) ?_
  refine G_val (V_pick_f rfl rfl rfl) rfl rfl (.none rfl) ?_
  refine G_end ?_
  refine X_then ?_
  refine G_cond_f rfl (by simp [*]; done) ?_
  refine G_skip ?_
  refine X_then ?_
  refine G_seq ?_
  refine G_region ?_
  refine G_val (V_move rfl rfl) rfl rfl (.none rfl) ?_
  refine G_val (V_move rfl rfl) rfl rfl (.none rfl) ?_
  refine G_val (V_move rfl rfl) rfl rfl (.yes rfl rfl rfl rfl) ?_
  refine G_val (V_move rfl rfl) rfl rfl (.yes rfl rfl rfl rfl) ?_
  refine G_val (V_gtr rfl rfl rfl) rfl rfl (.yes rfl rfl rfl rfl) ?_
  refine G_val (V_move rfl rfl) rfl rfl (.yes rfl rfl rfl rfl) ?_
  by_cases hxy : y < x
  · refine G.bool_t 48 rfl (decide_eq_true (by omega)) ?_
    refine G_stay (.no rfl rfl rfl rfl) rfl rfl ?_
    refine G_stay (.no rfl rfl rfl rfl) rfl rfl ?_
    refine G_stay (.no rfl rfl rfl rfl) rfl rfl ?_
    refine G_stay (.no rfl rfl rfl rfl) rfl rfl ?_
    refine G_stay (.no rfl rfl rfl rfl) rfl rfl ?_
    refine G_val (V_pick_t rfl rfl rfl) rfl rfl (.yes rfl rfl rfl rfl) ?_
    refine G_val (V_pick_t rfl rfl rfl) rfl rfl (.none rfl) ?_
    refine G_val (V_move rfl rfl) rfl rfl (.none rfl) ?_
    refine G_val (V_move rfl rfl) rfl rfl (.yes rfl rfl rfl rfl) ?_
    refine G_val (V_quo_n rfl rfl rfl (by omega) (by omega) (by simp [IntKind.max, IntKind.signed, IntKind.bits]; omega)) rfl rfl (.yes rfl rfl rfl rfl) ?_
    refine G_val (V_move rfl rfl) rfl rfl (.yes rfl rfl rfl rfl) ?_
    refine G_val (V_quo_n rfl rfl rfl (by omega) (by omega) (by simp [IntKind.max, IntKind.signed, IntKind.bits]; omega)) rfl rfl (.yes rfl rfl rfl rfl) ?_
    refine G_val (V_gtr rfl rfl rfl) rfl rfl (.yes rfl rfl rfl rfl) ?_
    refine G_val (V_move rfl rfl) rfl rfl (.yes rfl rfl rfl rfl) ?_
    refine G.bool_t 56 rfl (by simp [*]; done) ?_
    refine G_callv (k := 31) (.mk rfl rfl rfl rfl) rfl rfl (.yes rfl rfl rfl rfl) (CallV.cast (size_call _ _ a ha.1 ha.2) (r' := .int .i64 ((x : Int) / 2)) (by rw [hva])) ?_
    refine G_val (V_move rfl rfl) rfl rfl (.yes rfl rfl rfl rfl) ?_
    refine G.bool_t 56 rfl (by simp [*]; done) ?_
    refine G_callv (k := 31) (.mk rfl rfl rfl rfl) rfl rfl (.yes rfl rfl rfl rfl) (CallV.cast (size_call _ _ b hb.1 hb.2) (r' := .int .i64 ((y : Int) / 2)) (by rw [hvb])) ?_
    refine G_val (V_gtr rfl rfl rfl) rfl rfl (.yes rfl rfl rfl rfl) ?_
    refine G_val (V_beql rfl rfl rfl) rfl rfl (.yes rfl rfl rfl rfl) ?_
    refine G_val (V_pick_t rfl rfl rfl) rfl rfl (.none rfl) ?_
    refine G_val (V_assign rfl rfl) rfl rfl (.none rfl) ?_
    refine G_end ?_
    refine X_then ?_
    refine G_ret ?_
    refine G_leave 0 (by exact (.cons (.tmp rfl) (.nil))) rfl ?_ ?_
    · exact hE1
    · exact ⟨by rw [res_one]; simp, rfl⟩
  · have hm' := hm (by omega)
    refine G.bool_f 48 rfl (decide_eq_false (by omega)) ?_
    refine G_val (V_move rfl rfl) rfl rfl (.yes rfl rfl rfl rfl) ?_
    refine G.bool_f 48 rfl (by simp [*]; done) ?_
    refine G_callv (k := 12) (.mk rfl rfl rfl rfl) rfl rfl (.yes rfl rfl rfl rfl) (Size_call _ _ x hla) ?_
    refine G_val (V_move rfl rfl) rfl rfl (.yes rfl rfl rfl rfl) ?_
    refine G.bool_f 48 rfl (by simp [*]; done) ?_
    refine G_callv (k := 12) (.mk rfl rfl rfl rfl) rfl rfl (.yes rfl rfl rfl rfl) (Size_call _ _ y hlb) ?_
    refine G_val (V_leq rfl rfl rfl) rfl rfl (.yes rfl rfl rfl rfl) ?_
    refine G_val (V_pick_f rfl rfl rfl) rfl rfl (.yes rfl rfl rfl rfl) ?_
    refine G_val (V_pick_t rfl rfl rfl) rfl rfl (.none rfl) ?_
    refine G_val (V_move rfl rfl) rfl rfl (.none rfl) ?_
    refine G.bool_t 56 rfl (decide_eq_true (by omega)) ?_
    refine G_val (V_move rfl rfl) rfl rfl (.yes rfl rfl rfl rfl) ?_
    refine G_val (V_quo_n rfl rfl rfl (by omega) (by omega) (by simp [IntKind.max, IntKind.signed, IntKind.bits]; omega)) rfl rfl (.yes rfl rfl rfl rfl) ?_
    refine G_val (V_move rfl rfl) rfl rfl (.yes rfl rfl rfl rfl) ?_
    refine G_val (V_quo_n rfl rfl rfl (by omega) (by omega) (by simp [IntKind.max, IntKind.signed, IntKind.bits]; omega)) rfl rfl (.yes rfl rfl rfl rfl) ?_
    refine G_val (V_gtr rfl rfl rfl) rfl rfl (.yes rfl rfl rfl rfl) ?_
    refine G_val (V_move rfl rfl) rfl rfl (.yes rfl rfl rfl rfl) ?_
    refine G.bool_t 56 rfl (by simp [*]; done) ?_
    refine G_callv (k := 31) (.mk rfl rfl rfl rfl) rfl rfl (.yes rfl rfl rfl rfl) (CallV.cast (size_call _ _ a ha.1 ha.2) (r' := .int .i64 ((x : Int) / 2)) (by rw [hva])) ?_
    refine G_val (V_move rfl rfl) rfl rfl (.yes rfl rfl rfl rfl) ?_
    refine G.bool_t 56 rfl (by simp [*]; done) ?_
    refine G_callv (k := 31) (.mk rfl rfl rfl rfl) rfl rfl (.yes rfl rfl rfl rfl) (CallV.cast (size_call _ _ b hb.1 hb.2) (r' := .int .i64 ((y : Int) / 2)) (by rw [hvb])) ?_
    refine G_val (V_gtr rfl rfl rfl) rfl rfl (.yes rfl rfl rfl rfl) ?_
    refine G_val (V_beql rfl rfl rfl) rfl rfl (.yes rfl rfl rfl rfl) ?_
    refine G_val (V_pick_t rfl rfl rfl) rfl rfl (.none rfl) ?_
    refine G_val (V_assign rfl rfl) rfl rfl (.none rfl) ?_
    refine G_end ?_
    refine X_then ?_
    refine G_ret ?_
    refine G_leave 0 (by exact (.cons (.tmp rfl) (.nil))) rfl ?_ ?_
    · exact hE1
    · exact ⟨by rw [res_one]; simp, rfl⟩
end Go.Proofs.Ytmkgdljgiajoiaa
