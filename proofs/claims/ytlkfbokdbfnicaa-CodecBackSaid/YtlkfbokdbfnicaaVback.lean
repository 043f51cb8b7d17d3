import Derived.Test.YtlkfbokdbfnicaaVmath
set_option linter.unusedSimpArgs false
set_option linter.unusedVariables false
namespace Go.Proofs.Ytlkfbokdbfnicaa
open Go.RowKit

theorem vreadK_back (s post : List UInt8) (a : Nat) : ∀ k i m acc : Nat, k + i = 10 → m * 128 ^ i < 18446744073709551616 → (0 < i → 0 < m) → s.drop (a + i) = vdig k m ++ post →
    vreadK s a k i acc = (acc + m * 128 ^ i, a + i + (vdig k m).length, 0, 0) := by
  intro k
  induction k with
  | zero =>
    intro i m acc hk hm hp _
    exfalso
    obtain rfl : i = 10 := by omega
    have h1 := hp (by omega)
    have e : 128 ^ 10 = 1180591620717411303424 := by decide
    rw [e] at hm
    omega
  | succ k ih =>
    intro i m acc hk hm hp hd
    have e9 : 128 ^ 9 = 9223372036854775808 := by decide
    by_cases hb : m < 128
    · rw [vdig_small hb] at hd ⊢
      have hg : s[a + i]? = some m.toUInt8 := by
        have h0 := congrArg (fun l => l[0]?) hd
        simpa using h0
      rw [vreadK_some hg, toNat_u8 (by omega)]
      have h9 : ¬ ((0 < i ∧ m = 0) ∨ (i = 9 ∧ 1 < m)) := by
        rintro (⟨h1, h2⟩ | ⟨h1, h2⟩)
        · have := hp h1; omega
        · subst h1; rw [e9] at hm; omega
      rw [if_neg h9, if_pos hb, Nat.mod_eq_of_lt hb]
      rfl
    · rw [vdig_big (by omega)] at hd ⊢
      have hg : s[a + i]? = some (m % 128 + 128).toUInt8 := by
        have h0 := congrArg (fun l => l[0]?) hd
        simpa using h0
      rw [vreadK_some hg, toNat_u8 (by omega)]
      have h9 : ¬ ((0 < i ∧ m % 128 + 128 = 0) ∨ (i = 9 ∧ 1 < m % 128 + 128)) := by
        rintro (⟨h1, h2⟩ | ⟨h1, h2⟩)
        · omega
        · subst h1; rw [e9] at hm; omega
      rw [if_neg h9, if_neg (by omega)]
      have hd' : s.drop (a + (i + 1)) = vdig k (m / 128) ++ post := by
        have h1 : s.drop (a + (i + 1)) = (s.drop (a + i)).drop 1 := by rw [List.drop_drop]; rfl
        rw [h1, hd]; rfl
      have e1 : m / 128 * 128 ^ (i + 1) + m % 128 * 128 ^ i = m * 128 ^ i := by
        have h1 : m / 128 * 128 + m % 128 = m := by omega
        have h2 := congrArg (fun x => x * 128 ^ i) h1
        simp only [Nat.add_mul] at h2
        rw [Nat.pow_succ, Nat.mul_comm (128 ^ i) 128, ← Nat.mul_assoc]
        exact h2
      have hx : (m % 128 + 128) % 128 = m % 128 := by omega
      rw [hx, ih (i + 1) (m / 128) _ (by omega) (by omega) (fun _ => by omega) hd']
      refine Prod.ext ?_ (Prod.ext ?_ rfl)
      · show acc + m % 128 * 128 ^ i + m / 128 * 128 ^ (i + 1) = acc + m * 128 ^ i
        omega
      · show a + (i + 1) + (vdig k (m / 128)).length = a + i + ((vdig k (m / 128)).length + 1)
        omega

theorem vread_back (pre post : List UInt8) (n : Nat) (hn : n < 18446744073709551616) : vread (pre ++ (vbytes n ++ post)) (pre.length : Int) = (n, pre.length + (vbytes n).length, 0, 0) := by
  have h := vreadK_back (pre ++ (vbytes n ++ post)) post pre.length 10 0 n 0 rfl (by simpa using hn) (by omega) (by simp [vbytes])
  rw [vread, if_neg (by simp only [List.length_append]; omega), Int.toNat_natCast, h]
  simp [vbytes]

theorem vreadK_short (s : List UInt8) (a : Nat) : ∀ k i m j acc : Nat, k + i = 10 → m * 128 ^ i < 18446744073709551616 → (0 < i → 0 < m) → j < (vdig k m).length → s.drop (a + i) = (vdig k m).take j →
    vreadK s a k i acc = (0, 0, 5, s.length) := by
  intro k
  induction k with
  | zero => intro i m j acc _ _ _ hj _; simp [vdig] at hj
  | succ k ih =>
    intro i m j acc hk hm hp hj hd
    cases j with
    | zero =>
      simp only [List.take_zero] at hd
      exact vreadK_none (List.drop_eq_nil_iff.1 hd)
    | succ j =>
      have e9 : 128 ^ 9 = 9223372036854775808 := by decide
      by_cases hb : m < 128
      · rw [vdig_small hb] at hj
        simp only [List.length_singleton] at hj
        omega
      · rw [vdig_big (by omega)] at hd hj
        simp only [List.length_cons] at hj
        have hg : s[a + i]? = some (m % 128 + 128).toUInt8 := by
          have h0 := congrArg (fun l => l[0]?) hd
          simpa using h0
        rw [vreadK_some hg, toNat_u8 (by omega)]
        have h9 : ¬ ((0 < i ∧ m % 128 + 128 = 0) ∨ (i = 9 ∧ 1 < m % 128 + 128)) := by
          rintro (⟨h1, h2⟩ | ⟨h1, h2⟩)
          · omega
          · subst h1; rw [e9] at hm; omega
        rw [if_neg h9, if_neg (by omega)]
        have hd' : s.drop (a + (i + 1)) = (vdig k (m / 128)).take j := by
          have h1 : s.drop (a + (i + 1)) = (s.drop (a + i)).drop 1 := by rw [List.drop_drop]; rfl
          rw [h1, hd]; rfl
        have e1 : m / 128 * 128 ^ (i + 1) + m % 128 * 128 ^ i = m * 128 ^ i := by
          have h1 : m / 128 * 128 + m % 128 = m := by omega
          have h2 := congrArg (fun x => x * 128 ^ i) h1
          simp only [Nat.add_mul] at h2
          rw [Nat.pow_succ, Nat.mul_comm (128 ^ i) 128, ← Nat.mul_assoc]
          exact h2
        exact ih (i + 1) (m / 128) j _ (by omega) (by omega) (fun _ => by omega) (by omega) hd'

end Go.Proofs.Ytlkfbokdbfnicaa
