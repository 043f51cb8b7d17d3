import Derived.Test.YtlkfbokdbfnicaaSep17
import Derived.Test.YtlkfbokdbfnicaaInst
import Derived.Test.YtlkfbokdbfnicaaVmath
import Derived.Lib.Hide
set_option linter.unusedSimpArgs false
set_option linter.unusedVariables false
set_option maxHeartbeats 2000000
set_option maxRecDepth 20000
namespace Go.Proofs.Ytlkfbokdbfnicaa
open Go.RowKit

/-- Zigzag, as the chapter says it. -/
def zig (z : Int) : Nat := if z < 0 then (2 * (-(z + 1)) + 1).toNat else (2 * z).toNat
def unzig (n : Nat) : Int := if n % 2 = 1 then -((n / 2 : Nat) : Int) - 1 else ((n / 2 : Nat) : Int)

theorem wrap_u64_eq (a : Int) : IntKind.u64.wrap a = a % 18446744073709551616 := by simp [IntKind.wrap, IntKind.signed, IntKind.bits]
theorem wrap_i64_big {a : Int} (h0 : 9223372036854775808 ≤ a) (h1 : a < 18446744073709551616) : IntKind.i64.wrap a = a - 18446744073709551616 := by
  simp [IntKind.wrap, IntKind.signed, IntKind.bits]; omega
theorem xor_zero_u64 (n : Nat) (h : n < 18446744073709551616) : xorI .u64 n 0 = n := by
  have e : BitVec.ofInt IntKind.u64.bits (0 : Int) = 0#_ := by decide
  rw [xorI, e, BitVec.xor_zero, ofInt_nat (by show (n : Int) ≤ 18446744073709551615; omega), wrap_u64 (by omega) (by omega)]
theorem xor_ones_u64 (n : Nat) (h : n < 18446744073709551616) : xorI .u64 n 18446744073709551615 = 18446744073709551615 - n := by
  have e : BitVec.ofInt IntKind.u64.bits (18446744073709551615 : Int) = BitVec.allOnes _ := by decide
  rw [xorI, e, BitVec.xor_allOnes, BitVec.toNat_not, ofInt_nat (by show (n : Int) ≤ 18446744073709551615; omega)]
  show IntKind.u64.wrap ((2 ^ 64 - 1 - n : Nat) : Int) = _
  rw [wrap_u64 (by omega) (by omega)]; omega
theorem xor_zero_i64 (n : Nat) (h : n < 9223372036854775808) : xorI .i64 n 0 = n := by
  have e : BitVec.ofInt IntKind.i64.bits (0 : Int) = 0#_ := by decide
  rw [xorI, e, BitVec.xor_zero, ofInt_nat (by show (n : Int) ≤ 9223372036854775807; omega), wrap_i64 (by omega) (by omega)]
theorem xor_ones_i64 (n : Nat) (h : n < 9223372036854775808) : xorI .i64 n (-1) = -1 - n := by
  have e : BitVec.ofInt IntKind.i64.bits (-1 : Int) = BitVec.allOnes _ := by decide
  rw [xorI, e, BitVec.xor_allOnes, BitVec.toNat_not, ofInt_nat (by show (n : Int) ≤ 9223372036854775807; omega)]
  show IntKind.i64.wrap ((2 ^ 64 - 1 - n : Nat) : Int) = _
  rw [wrap_i64_big (by omega) (by omega)]; omega
theorem zig_math {z : Int} (h0 : -9223372036854775808 ≤ z) (h1 : z ≤ 9223372036854775807) : xorI .u64 (shlI .u64 (IntKind.u64.wrap z) 1) (IntKind.u64.wrap (shrI .i64 z 63)) = zig z := by
  have e1 : shlI .u64 (IntKind.u64.wrap z) 1 = (z % 18446744073709551616 * 2) % 18446744073709551616 := by rw [shlI, wrap_u64_eq, wrap_u64_eq]; rfl
  have e2 : shrI .i64 z 63 = z.fdiv 9223372036854775808 := rfl
  have e3 : z.fdiv 9223372036854775808 = z / 9223372036854775808 := Int.fdiv_eq_ediv_of_nonneg _ (by decide)
  rw [e1, e2, e3, wrap_u64_eq]
  by_cases h : z < 0
  · rw [show z / 9223372036854775808 % 18446744073709551616 = 18446744073709551615 by omega]
    obtain ⟨n, hn⟩ : ∃ n : Nat, (z % 18446744073709551616 * 2) % 18446744073709551616 = n := ⟨_, (Int.toNat_of_nonneg (by omega)).symm⟩
    rw [hn, xor_ones_u64 n (by omega), zig, if_pos h]; omega
  · rw [show z / 9223372036854775808 % 18446744073709551616 = 0 by omega]
    obtain ⟨n, hn⟩ : ∃ n : Nat, (z % 18446744073709551616 * 2) % 18446744073709551616 = n := ⟨_, (Int.toNat_of_nonneg (by omega)).symm⟩
    rw [hn, xor_zero_u64 n (by omega), zig, if_neg h]; omega
theorem unzig_math {n : Nat} (h : n < 18446744073709551616) : xorI .i64 (IntKind.i64.wrap (shrI .u64 n 1)) (IntKind.i64.wrap (0 - IntKind.i64.wrap (andI .u64 n 1))) = unzig n := by
  have e1 : shrI .u64 (n : Int) 1 = ((n / 2 : Nat) : Int) := shrI_nat (k := .u64) (s := 1) (by decide)
  have e2 : andI .u64 (n : Int) 1 = ((n % 2 : Nat) : Int) := by
    have := andI_nat (k := .u64) (n := n) (m := 1) (by show (n : Int) ≤ 18446744073709551615; omega) (by decide)
    rw [show ((1 : Int)) = ((1 : Nat) : Int) from rfl, this, Nat.and_one_is_mod]
  rw [e1, e2, wrap_i64 (a := ((n / 2 : Nat) : Int)) (by omega) (by omega), wrap_i64 (a := ((n % 2 : Nat) : Int)) (by omega) (by omega), wrap_i64 (by omega) (by omega), unzig]
  by_cases hp : n % 2 = 1
  · rw [if_pos hp, hp, show (0 : Int) - ((1 : Nat) : Int) = -1 from rfl, xor_ones_i64 _ (by omega)]; omega
  · rw [if_neg hp, show n % 2 = 0 by omega, show (0 : Int) - ((0 : Nat) : Int) = 0 from rfl, xor_zero_i64 _ (by omega)]

theorem res_one (v : Value) : resVal [v] = v := rfl
theorem Zigzag2_call (E : Env) (L : List Res) (z : Int) (h0 : -9223372036854775808 ≤ z) (h1 : z ≤ 9223372036854775807) : CallV Try.prog 76 #[.int .i64 z] E L (.int .u64 (zig z)) := by
  refine CallS.toV (CallS.intro (l := [.int .i64 z]) _ Try.func76 rfl Try.ntmps76 rfl ?_)
  by_cases h : z < 0
  · refine G_seq ?_
    refine G_region ?_
    refine G_val (V_assign rfl rfl) rfl rfl (.none rfl) ?_
    refine G_end ?_
    refine X_then ?_
    refine G_seq ?_
    refine G_seq ?_
    refine G_region ?_
    refine G_val (V_move rfl rfl) rfl rfl (.none rfl) ?_
    refine G_val (V_lss rfl rfl rfl) rfl rfl (.none rfl) ?_
    refine G_end ?_
    refine X_then ?_
    refine G_cond_t rfl (decide_eq_true (by omega)) ?_
    refine G_seq ?_
    refine G_region ?_
    refine G_val (V_move rfl rfl) rfl rfl (.none rfl) ?_
    refine G_val (V_add_i64 rfl rfl rfl (by omega) (by omega)) rfl rfl (.none rfl) ?_
    refine G_val (V_neg rfl rfl) rfl rfl (.none rfl) ?_
    refine G_val (V_conv rfl rfl) rfl rfl (.none rfl) ?_
    refine G_val (V_mul rfl rfl rfl) rfl rfl (.none rfl) ?_
    refine G_val (V_add rfl rfl rfl) rfl rfl (.none rfl) ?_
    refine G_val (V_assign rfl rfl) rfl rfl (.none rfl) ?_
    refine G_end ?_
    refine X_then ?_
    refine G_ret ?_
    refine X_then_ret ?_
    refine G_leave 0 (by exact (.cons (.tmp rfl) (.nil))) rfl ?_ ?_
    · exact .refl _
    · refine ⟨?_, rfl⟩
      rw [res_one, zig, if_pos h, wrap_i64 (by omega) (by omega), wrap_u64 (a := 0 - (z + 1)) (by omega) (by omega), wrap_u64 (a := 2 * (0 - (z + 1))) (by omega) (by omega), wrap_u64 (by omega) (by omega)]
      congr 1; omega
  · refine G_seq ?_
    refine G_region ?_
    refine G_val (V_assign rfl rfl) rfl rfl (.none rfl) ?_
    refine G_end ?_
    refine X_then ?_
    refine G_seq ?_
    refine G_seq ?_
    refine G_region ?_
    refine G_val (V_move rfl rfl) rfl rfl (.none rfl) ?_
    refine G_val (V_lss rfl rfl rfl) rfl rfl (.none rfl) ?_
    refine G_end ?_
    refine X_then ?_
    refine G_cond_f rfl (decide_eq_false (by omega)) ?_
    refine G_skip ?_
    refine X_then ?_
    refine G_seq ?_
    refine G_region ?_
    refine G_val (V_move rfl rfl) rfl rfl (.none rfl) ?_
    refine G_val (V_conv_u64 rfl rfl (by omega) (by omega)) rfl rfl (.none rfl) ?_
    refine G_val (V_mul_u64 rfl rfl rfl (by omega) (by omega)) rfl rfl (.none rfl) ?_
    refine G_val (V_assign rfl rfl) rfl rfl (.none rfl) ?_
    refine G_end ?_
    refine X_then ?_
    refine G_ret ?_
    refine G_leave 0 (by exact (.cons (.tmp rfl) (.nil))) rfl ?_ ?_
    · exact .refl _
    · refine ⟨?_, rfl⟩
      rw [res_one, zig, if_neg h]
      congr 1; omega
theorem Unzigzag2_call (E : Env) (L : List Res) (n : Nat) (h1 : n < 18446744073709551616) : CallV Try.prog 100 #[.int .u64 n] E L (.int .i64 (unzig n)) := by
  refine CallS.toV (CallS.intro (l := [.int .u64 n]) _ Try.func100 rfl Try.ntmps100 rfl ?_)
  by_cases h : n % 2 = 1
  · refine G_seq ?_
    refine G_region ?_
    refine G_val (V_assign rfl rfl) rfl rfl (.none rfl) ?_
    refine G_end ?_
    refine X_then ?_
    refine G_seq ?_
    refine G_seq ?_
    refine G_region ?_
    refine G_val (V_move rfl rfl) rfl rfl (.none rfl) ?_
    refine G_val (V_rem_n rfl rfl rfl (by omega) (by omega)) rfl rfl (.none rfl) ?_
    refine G_val (V_eql rfl rfl rfl) rfl rfl (.none rfl) ?_
    refine G_end ?_
    refine X_then ?_
    refine G_cond_t rfl (decide_eq_true (by omega)) ?_
    refine G_seq ?_
    refine G_region ?_
    refine G_val (V_move rfl rfl) rfl rfl (.none rfl) ?_
    refine G_val (V_quo_n rfl rfl rfl (by omega) (by omega) (by simp [IntKind.max, IntKind.signed, IntKind.bits]; omega)) rfl rfl (.none rfl) ?_
    refine G_val (V_conv_i64 rfl rfl (by omega) (by omega)) rfl rfl (.none rfl) ?_
    refine G_val (V_neg rfl rfl) rfl rfl (.none rfl) ?_
    refine G_val (V_sub rfl rfl rfl) rfl rfl (.none rfl) ?_
    refine G_val (V_assign rfl rfl) rfl rfl (.none rfl) ?_
    refine G_end ?_
    refine X_then ?_
    refine G_ret ?_
    refine X_then_ret ?_
    refine G_leave 0 (by exact (.cons (.tmp rfl) (.nil))) rfl ?_ ?_
    · exact .refl _
    · refine ⟨?_, rfl⟩
      rw [res_one, unzig, if_pos h, wrap_i64 (a := 0 - (n : Int) / 2) (by omega) (by omega), wrap_i64 (by omega) (by omega)]
      congr 1; omega
  · refine G_seq ?_
    refine G_region ?_
    refine G_val (V_assign rfl rfl) rfl rfl (.none rfl) ?_
    refine G_end ?_
    refine X_then ?_
    refine G_seq ?_
    refine G_seq ?_
    refine G_region ?_
    refine G_val (V_move rfl rfl) rfl rfl (.none rfl) ?_
    refine G_val (V_rem_n rfl rfl rfl (by omega) (by omega)) rfl rfl (.none rfl) ?_
    refine G_val (V_eql rfl rfl rfl) rfl rfl (.none rfl) ?_
    refine G_end ?_
    refine X_then ?_
    refine G_cond_f rfl (decide_eq_false (by omega)) ?_
    refine G_skip ?_
    refine X_then ?_
    refine G_seq ?_
    refine G_region ?_
    refine G_val (V_move rfl rfl) rfl rfl (.none rfl) ?_
    refine G_val (V_quo_n rfl rfl rfl (by omega) (by omega) (by simp [IntKind.max, IntKind.signed, IntKind.bits]; omega)) rfl rfl (.none rfl) ?_
    refine G_val (V_conv_i64 rfl rfl (by omega) (by omega)) rfl rfl (.none rfl) ?_
    refine G_val (V_assign rfl rfl) rfl rfl (.none rfl) ?_
    refine G_end ?_
    refine X_then ?_
    refine G_ret ?_
    refine G_leave 0 (by exact (.cons (.tmp rfl) (.nil))) rfl ?_ ?_
    · exact .refl _
    · exact ⟨by rw [res_one, unzig, if_neg h]; rfl, rfl⟩
theorem Zigzag_call (E : Env) (L : List Res) (z : Int) (h0 : -9223372036854775808 ≤ z) (h1 : z ≤ 9223372036854775807) : CallV Try.prog 75 #[.int .i64 z] E L (.int .u64 (zig z)) := by
  refine CallS.toV (CallS.intro (l := [.int .i64 z]) _ Try.func75 rfl Try.ntmps75 rfl ?_)
  refine G_seq ?_
  refine G_region ?_
  refine G_val (V_assign rfl rfl) rfl rfl (.none rfl) ?_
  refine G_end ?_
  refine X_then ?_
  refine G_seq ?_
  refine G_region ?_
  refine G_val (V_move rfl rfl) rfl rfl (.none rfl) ?_
  refine G_val (V_conv rfl rfl) rfl rfl (.none rfl) ?_
  refine G_val (V_shl rfl rfl rfl (by omega)) rfl rfl (.none rfl) ?_
  refine G_val (V_move rfl rfl) rfl rfl (.none rfl) ?_
  refine G_val (V_shr rfl rfl rfl (by omega)) rfl rfl (.none rfl) ?_
  refine G_val (V_conv rfl rfl) rfl rfl (.none rfl) ?_
  refine G_val (V_xor rfl rfl rfl) rfl rfl (.none rfl) ?_
  refine G_val (V_assign rfl rfl) rfl rfl (.none rfl) ?_
  refine G_end ?_
  refine X_then ?_
  refine G_ret ?_
  refine G_leave 0 (by exact (.cons (.tmp rfl) (.nil))) rfl ?_ ?_
  · exact .refl _
  · exact ⟨by rw [res_one, zig_math h0 h1], rfl⟩
theorem Unzigzag_call (E : Env) (L : List Res) (n : Nat) (h1 : n < 18446744073709551616) : CallV Try.prog 93 #[.int .u64 n] E L (.int .i64 (unzig n)) := by
  refine CallS.toV (CallS.intro (l := [.int .u64 n]) _ Try.func93 rfl Try.ntmps93 rfl ?_)
  refine G_seq ?_
  refine G_region ?_
  refine G_val (V_assign rfl rfl) rfl rfl (.none rfl) ?_
  refine G_end ?_
  refine X_then ?_
  refine G_seq ?_
  refine G_region ?_
  refine G_val (V_move rfl rfl) rfl rfl (.none rfl) ?_
  refine G_val (V_shr rfl rfl rfl (by omega)) rfl rfl (.none rfl) ?_
  refine G_val (V_conv rfl rfl) rfl rfl (.none rfl) ?_
  refine G_val (V_move rfl rfl) rfl rfl (.none rfl) ?_
  refine G_val (V_and rfl rfl rfl) rfl rfl (.none rfl) ?_
  refine G_val (V_conv rfl rfl) rfl rfl (.none rfl) ?_
  refine G_val (V_neg rfl rfl) rfl rfl (.none rfl) ?_
  refine G_val (V_xor rfl rfl rfl) rfl rfl (.none rfl) ?_
  refine G_val (V_assign rfl rfl) rfl rfl (.none rfl) ?_
  refine G_end ?_
  refine X_then ?_
  refine G_ret ?_
  refine G_leave 0 (by exact (.cons (.tmp rfl) (.nil))) rfl ?_ ?_
  · exact .refl _
  · exact ⟨by rw [res_one, unzig_math h1], rfl⟩
end Go.Proofs.Ytlkfbokdbfnicaa
