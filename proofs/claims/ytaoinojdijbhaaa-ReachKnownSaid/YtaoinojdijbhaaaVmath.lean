/-
  Varints, in plain words.
-/
import Derived.Test.YtaoinojdijbhaaaSep5
namespace Go.Proofs.Ytaoinojdijbhaaa

/-- The bytes of a number, k of them at most. -/
def vdig : Nat → Nat → List UInt8
  | 0, _ => []
  | k + 1, n => if n < 128 then [n.toUInt8] else (n % 128 + 128).toUInt8 :: vdig k (n / 128)
def vbytes (n : Nat) : List UInt8 := vdig 10 n

theorem vdig_small {k n : Nat} (h : n < 128) : vdig (k + 1) n = [n.toUInt8] := by simp [vdig, h]
theorem vdig_big {k n : Nat} (h : 128 ≤ n) : vdig (k + 1) n = (n % 128 + 128).toUInt8 :: vdig k (n / 128) := by simp [vdig, Nat.not_lt.2 h]
theorem vdig_len (k : Nat) : ∀ n, (vdig k n).length ≤ k := by
  induction k with
  | zero => intro n; simp [vdig]
  | succ k ih => intro n; simp only [vdig]; split <;> simp; exact ih _
theorem vdig_pos (k n : Nat) : 1 ≤ (vdig (k + 1) n).length := by simp only [vdig]; split <;> simp
theorem toNat_u8 {n : Nat} (h : n < 256) : n.toUInt8.toNat = n := by simp [Nat.toUInt8]; omega

/-- Bytes, as a slice's cells. -/
def u8s (l : List UInt8) : List Value := l.map fun b : UInt8 => .int .u8 b.toNat
/-- Numbers, as a slice's cells. -/
def u64s (l : List Nat) : List Value := l.map fun n : Nat => .int .u64 (n : Int)
theorem u64s_get {l : List Nat} {k n : Nat} (h : l[k]? = some n) : (u64s l)[k]? = some (.int .u64 (n : Int)) := by simp [u64s, h]

theorem flatMap_len (ns : List Nat) (k : Nat) : ((ns.take k).flatMap vbytes).length ≤ 10 * k := by
  induction ns generalizing k with
  | nil => simp
  | cons n ns ih =>
    cases k with
    | zero => simp
    | succ k =>
      have := ih k
      have h2 := vdig_len 10 n
      simp only [List.take_succ_cons, List.flatMap_cons, List.length_append, vbytes] at *
      omega

theorem flatMap_take (ns : List Nat) (k : Nat) (h : k < ns.length) : (ns.take (k + 1)).flatMap vbytes = (ns.take k).flatMap vbytes ++ vbytes ns[k] := by
  rw [List.take_succ_eq_append_getElem h, List.flatMap_append]; simp

/-! ### Bits, as numbers -/
theorem and_127 (n : Nat) : n &&& 127 = n % 128 := Nat.and_two_pow_sub_one_eq_mod n 7
theorem or_128 (n : Nat) (h : n < 128) : n ||| 128 = n + 128 := by
  have := Nat.two_pow_add_eq_or_of_lt (i := 7) (by simpa using h) 1
  simp at this
  rw [Nat.or_comm, ← this]; omega
theorem low_7 (n : Nat) (h : n < 18446744073709551616) : IntKind.u8.wrap (andI .u64 n 127) = ((n % 128 : Nat) : Int) := by
  have := andI_nat (k := .u64) (n := n) (m := 127) (by show (n : Int) ≤ 18446744073709551615; omega) (by decide)
  rw [show ((127 : Int)) = ((127 : Nat) : Int) from rfl, this, and_127, wrap_u8 (by omega) (by omega)]
theorem high_1 (n : Nat) (h : n < 128) : orI .u8 n 128 = ((n + 128 : Nat) : Int) := by
  have := orI_nat (k := .u8) (n := n) (m := 128) (by show (n : Int) ≤ 255; omega) (by decide) (by rw [or_128 n h]; show ((n + 128 : Nat) : Int) ≤ 255; omega)
  rw [show ((128 : Int)) = ((128 : Nat) : Int) from rfl, this, or_128 n h]
theorem shr_7 (n : Nat) : shrI .u64 n 7 = ((n / 128 : Nat) : Int) := shrI_nat (k := .u64) (s := 7) (by decide)


theorem or_shift {n b i : Nat} (h : n < 2 ^ i) : n ||| b * 2 ^ i = n + b * 2 ^ i := by
  have := Nat.two_pow_add_eq_or_of_lt h b
  rw [Nat.or_comm, Nat.mul_comm, ← this, Nat.add_comm]
theorem pow128 (i : Nat) : 128 ^ i = 2 ^ (7 * i) := by rw [Nat.pow_mul]
/-- 'n |= uint64(b & 127) << uint(7 * i)'. -/
theorem or_step {n b i : Nat} (hn : n < 128 ^ i) (hi : i < 10) (hb : b < 256) (h9 : i = 9 → b ≤ 1) :
    orI .u64 n (shlI .u64 (IntKind.u64.wrap (andI .u8 b 127)) ((7 : Int) * i)) = ((n + b % 128 * 128 ^ i : Nat) : Int) ∧ n + b % 128 * 128 ^ i < 18446744073709551616 ∧ n + b % 128 * 128 ^ i < 128 ^ (i + 1) := by
  have hp : 128 ^ i ≤ 9223372036854775808 := by
    have : 128 ^ i ≤ 128 ^ 9 := Nat.pow_le_pow_right (by decide) (by omega)
    simpa using this
  have hpos : 0 < 128 ^ i := Nat.pow_pos (by decide)
  have hm : b % 128 * 128 ^ i + 128 ^ i ≤ 18446744073709551616 := by
    by_cases e : i = 9
    · have h1 := h9 e
      have h2 : 128 ^ i = 9223372036854775808 := by rw [e]
      rw [h2]
      omega
    · have h8 : 128 ^ i ≤ 128 ^ 8 := Nat.pow_le_pow_right (by decide) (by omega)
      have : b % 128 ≤ 127 := by omega
      have : b % 128 * 128 ^ i ≤ 127 * 128 ^ i := Nat.mul_le_mul_right _ this
      have h9 : 128 ^ 8 = 72057594037927936 := by decide
      rw [h9] at h8
      omega
  have e1 : andI .u8 (b : Int) 127 = ((b % 128 : Nat) : Int) := by
    have := andI_nat (k := .u8) (n := b) (m := 127) (by show (b : Int) ≤ 255; omega) (by decide)
    rw [show ((127 : Int)) = ((127 : Nat) : Int) from rfl, this, and_127]
  have e2 : shlI .u64 ((b % 128 : Nat) : Int) ((7 * i : Nat) : Int) = ((b % 128 * 128 ^ i : Nat) : Int) := by
    rw [pow128]
    exact shlI_nat (k := .u64) (by show 7 * i ≤ 64; omega) (by rw [← pow128]; show ((b % 128 * 128 ^ i : Nat) : Int) ≤ 18446744073709551615; omega)
  rw [e1, wrap_u64 (by omega) (by omega), show (7 : Int) * (i : Int) = ((7 * i : Nat) : Int) by push_cast; rfl, e2]
  have hn' := hn
  have e3 : n ||| b % 128 * 128 ^ i = n + b % 128 * 128 ^ i := by rw [pow128] at hn ⊢; exact or_shift hn
  refine ⟨?_, by omega, ?_⟩
  · rw [orI_nat (k := .u64) (by show (n : Int) ≤ 18446744073709551615; omega) (by show ((b % 128 * 128 ^ i : Nat) : Int) ≤ 18446744073709551615; omega) (by rw [e3]; show ((n + b % 128 * 128 ^ i : Nat) : Int) ≤ 18446744073709551615; omega), e3]
  · have : b % 128 ≤ 127 := by omega
    have : b % 128 * 128 ^ i ≤ 127 * 128 ^ i := Nat.mul_le_mul_right _ this
    rw [Nat.pow_succ]; omega

/-! ### Reading -/
/-- What a reading gives: the number, where it ends, the error, the offset of the fault. -/
abbrev RRes := Nat × Nat × Nat × Nat
def vreadK (s : List UInt8) (at' : Nat) : Nat → Nat → Nat → RRes
  | 0, _, _ => (0, 0, 26, at' + 9)
  | k + 1, i, n => match s[at' + i]? with
    | none => (0, 0, 5, s.length)
    | some b => if (0 < i ∧ b.toNat = 0) ∨ (i = 9 ∧ 1 < b.toNat) then (0, 0, 26, at' + i)
      else if b.toNat < 128 then (n + b.toNat % 128 * 128 ^ i, at' + i + 1, 0, 0) else vreadK s at' k (i + 1) (n + b.toNat % 128 * 128 ^ i)
def vread (s : List UInt8) (at' : Int) : RRes := if at' < 0 ∨ (s.length : Int) < at' then (0, 0, 2, 0) else vreadK s at'.toNat 10 0 0
def rdV (r : RRes) : Value := .tuple #[.int .u64 r.1, .int .i64 r.2.1, .agg #[.int .i64 r.2.2.1, .int .i64 r.2.2.2]]
theorem vreadK_none {s : List UInt8} {a k i n : Nat} (h : s.length ≤ a + i) : vreadK s a (k + 1) i n = (0, 0, 5, s.length) := by simp [vreadK, List.getElem?_eq_none h]
theorem vreadK_some {s : List UInt8} {a k i n : Nat} {b : UInt8} (h : s[a + i]? = some b) : vreadK s a (k + 1) i n = if (0 < i ∧ b.toNat = 0) ∨ (i = 9 ∧ 1 < b.toNat) then (0, 0, 26, a + i)
      else if b.toNat < 128 then (n + b.toNat % 128 * 128 ^ i, a + i + 1, 0, 0) else vreadK s a k (i + 1) (n + b.toNat % 128 * 128 ^ i) := by simp only [vreadK, h]

end Go.Proofs.Ytaoinojdijbhaaa
