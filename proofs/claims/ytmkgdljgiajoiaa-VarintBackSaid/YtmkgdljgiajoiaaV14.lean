import Derived.Test.YtmkgdljgiajoiaaSep8
import Derived.Test.YtmkgdljgiajoiaaInst
import Derived.Test.YtmkgdljgiajoiaaV13
set_option linter.unusedSimpArgs false
set_option linter.unusedVariables false
namespace Go.Proofs.Ytmkgdljgiajoiaa
open Go.RowKit

theorem vreadK_short (s : List UInt8) (a : Nat) : ∀ k i m j acc : Nat, k + i = 10 → m * 128 ^ i < 18446744073709551616 → (0 < i → 0 < m) → j < (vdig k m).length → s.drop (a + i) = (vdig k m).take j →
    vreadK s a k i acc = (0, 0, 5, s.length) := by
  intro k
  induction k with
  | zero => intro i m j acc _ _ _ hj _; simp [vdig] at hj
  | succ k ih =>
    intro i m j acc hk hm hp hj hd
    cases j with
    | zero =>
      simp only [List.take_zero] at hd
      exact vreadK_none (List.drop_eq_nil_iff.1 hd)
    | succ j =>
      have e9 : 128 ^ 9 = 9223372036854775808 := by decide
      by_cases hb : m < 128
      · rw [vdig_small hb] at hj
        simp only [List.length_singleton] at hj
        omega
      · rw [vdig_big (by omega)] at hd hj
        simp only [List.length_cons] at hj
        have hg : s[a + i]? = some (m % 128 + 128).toUInt8 := by
          have h0 := congrArg (fun l => l[0]?) hd
          simpa using h0
        rw [vreadK_some hg, toNat_u8 (by omega)]
        have h9 : ¬ ((0 < i ∧ m % 128 + 128 = 0) ∨ (i = 9 ∧ 1 < m % 128 + 128)) := by
          rintro (⟨h1, h2⟩ | ⟨h1, h2⟩)
          · omega
          · subst h1; rw [e9] at hm; omega
        rw [if_neg h9, if_neg (by omega)]
        have hd' : s.drop (a + (i + 1)) = (vdig k (m / 128)).take j := by
          have h1 : s.drop (a + (i + 1)) = (s.drop (a + i)).drop 1 := by rw [List.drop_drop]; rfl
          rw [h1, hd]; rfl
        have e1 : m / 128 * 128 ^ (i + 1) + m % 128 * 128 ^ i = m * 128 ^ i := by
          have h1 : m / 128 * 128 + m % 128 = m := by omega
          have h2 := congrArg (fun x => x * 128 ^ i) h1
          simp only [Nat.add_mul] at h2
          rw [Nat.pow_succ, Nat.mul_comm (128 ^ i) 128, ← Nat.mul_assoc]
          exact h2
        exact ih (i + 1) (m / 128) j _ (by omega) (by omega) (fun _ => by omega) (by omega) hd'

theorem vread0 (s : List UInt8) : vread s 0 = vreadK s 0 10 0 0 := by
  rw [vread, if_neg (by omega)]; rfl
theorem vparse_back (n : Nat) (hn : n < 18446744073709551616) : vparse (vbytes n) = (n, 0, 0) := by
  have h := vread_back [] [] n hn
  simp only [List.nil_append, List.append_nil, List.length_nil, Nat.zero_add] at h
  have h' : vread (vbytes n) 0 = (n, (vbytes n).length, 0, 0) := h
  rw [vparse, h', if_neg (by simp)]
theorem vparse_short (n : Nat) (hn : n < 18446744073709551616) (j : Nat) (hj : j < (vbytes n).length) : vparse ((vbytes n).take j) = (0, 5, j) := by
  have h := vreadK_short ((vbytes n).take j) 0 10 0 n j 0 rfl (by simpa using hn) (by omega) hj (by simp [vbytes])
  rw [vparse, vread0, h, if_neg (by simp)]
  simp only [List.length_take]
  rw [Nat.min_eq_left (by omega)]

theorem vdig_bound : ∀ k m : Nat, m < 128 ^ k → m < 128 ^ (vdig k m).length ∧ (1 < (vdig k m).length → 128 ^ ((vdig k m).length - 1) ≤ m) := by
  intro k
  induction k with
  | zero => intro m h; exact ⟨by simpa [vdig] using h, by simp [vdig]⟩
  | succ k ih =>
    intro m h
    by_cases hb : m < 128
    · rw [vdig_small hb]; exact ⟨by simpa using hb, by simp⟩
    · rw [vdig_big (by omega)]
      have h1 : m / 128 < 128 ^ k := by rw [Nat.pow_succ] at h; exact Nat.div_lt_of_lt_mul (by omega)
      obtain ⟨i1, i2⟩ := ih (m / 128) h1
      simp only [List.length_cons]
      generalize (vdig k (m / 128)).length = l at *
      refine ⟨?_, fun hl => ?_⟩
      · rw [Nat.pow_succ]; omega
      · simp only [Nat.add_sub_cancel]
        by_cases h2 : 1 < l
        · have := i2 h2
          have e : 128 ^ l = 128 ^ (l - 1) * 128 := by rw [← Nat.pow_succ]; congr 1; omega
          rw [e]; omega
        · obtain rfl : l = 1 := by omega
          omega

theorem vreadK_inv (s : List UInt8) (a : Nat) : ∀ k i acc n nx ea : Nat, vreadK s a k i acc = (n, nx, 0, ea) → ∃ m, n = acc + m * 128 ^ i ∧ nx = a + i + (vdig k m).length ∧ (∃ post, s.drop (a + i) = vdig k m ++ post) ∧ (0 < i → 0 < m) := by
  intro k
  induction k with
  | zero => intro i acc n nx ea h; simp [vreadK] at h
  | succ k ih =>
    intro i acc n nx ea h
    cases hg : s[a + i]? with
    | none => rw [vreadK_none (List.getElem?_eq_none_iff.1 hg)] at h; simp at h
    | some b =>
      rw [vreadK_some hg] at h
      have h256 : b.toNat < 256 := b.toNat_lt
      obtain ⟨hlt, hbe⟩ := List.getElem?_eq_some_iff.1 hg
      have hd : s.drop (a + i) = b :: s.drop (a + (i + 1)) := by rw [List.drop_eq_getElem_cons hlt, hbe]; rfl
      split at h
      · simp at h
      · rename_i hne
        split at h
        · rename_i hb
          simp only [Prod.mk.injEq] at h
          obtain ⟨rfl, rfl, _, rfl⟩ := h
          refine ⟨b.toNat, by rw [Nat.mod_eq_of_lt hb], ?_, ⟨s.drop (a + (i + 1)), ?_⟩, fun hi => ?_⟩
          · rw [vdig_small hb]; rfl
          · rw [vdig_small hb, hd]; simp
          · omega
        · rename_i hb
          obtain ⟨m, h1, h2, ⟨post, h3⟩, h4⟩ := ih (i + 1) _ n nx ea h
          have hm := h4 (by omega)
          have e1 : (b.toNat % 128 + 128 * m) / 128 = m := by omega
          have e2 : (b.toNat % 128 + 128 * m) % 128 + 128 = b.toNat := by omega
          have e3 : vdig (k + 1) (b.toNat % 128 + 128 * m) = b :: vdig k m := by
            rw [vdig_big (by omega), e1, e2]; simp
          refine ⟨b.toNat % 128 + 128 * m, ?_, ?_, ⟨post, ?_⟩, fun _ => by omega⟩
          · rw [h1, Nat.pow_succ, Nat.add_mul, Nat.mul_comm (128 ^ i) 128, ← Nat.mul_assoc, Nat.mul_comm m 128, Nat.add_assoc]
          · rw [e3, h2]; simp only [List.length_cons]; omega
          · rw [e3, hd, h3]; rfl
theorem vreadK_lt (s : List UInt8) (a : Nat) : ∀ k i acc : Nat, k + i = 10 → acc < 128 ^ i → (vreadK s a k i acc).1 < 18446744073709551616 := by
  intro k
  induction k with
  | zero => intro i acc _ _; simp [vreadK]
  | succ k ih =>
    intro i acc hk ha
    cases hg : s[a + i]? with
    | none => rw [vreadK_none (List.getElem?_eq_none_iff.1 hg)]; exact Nat.zero_lt_succ _
    | some b =>
      rw [vreadK_some hg]
      split
      · exact Nat.zero_lt_succ _
      · rename_i hne
        obtain ⟨_, h2, h3⟩ := or_step (n := acc) (b := b.toNat) (i := i) ha (by omega) b.toNat_lt (by omega)
        split
        · exact h2
        · exact ih (i + 1) _ (by omega) h3
theorem vparse_lt (s : List UInt8) : (vparse s).1 < 18446744073709551616 := by
  unfold vparse
  split
  · exact Nat.zero_lt_succ _
  · rw [vread0]; exact vreadK_lt s 0 10 0 0 rfl (by simp)
theorem vparse_inv (s : List UInt8) (h1 : (vparse s).2.1 = 0) (h2 : (vparse s).2.2 = 0) : vbytes (vparse s).1 = s := by
  unfold vparse at *
  split at h1
  · simp at h1
  · rename_i hne
    rw [if_neg hne]
    simp only at *
    obtain ⟨m, e1, e2, ⟨post, e3⟩, _⟩ := vreadK_inv s 0 10 0 0 (vread s 0).1 (vread s 0).2.1 (vread s 0).2.2.2 (by rw [← vread0, ← h1])
    simp at e1 e2 e3
    have hl : ¬ (vread s 0).2.1 < s.length := fun h => hne ⟨h1, h⟩
    have hs := congrArg List.length e3
    simp only [List.length_append] at hs
    have hp : post = [] := List.eq_nil_of_length_eq_zero (by omega)
    rw [hp, List.append_nil] at e3
    rw [vbytes, e1]
    exact e3.symm
theorem vbytes_bound (n : Nat) (hn : n < 18446744073709551616) : n < 128 ^ (vbytes n).length ∧ (1 < (vbytes n).length → 128 ^ ((vbytes n).length - 1) ≤ n) :=
  vdig_bound 10 n (Nat.lt_trans hn (by decide))
theorem shr_big {n l : Nat} (h : n < 128 ^ l) (hl : l ≤ 10) : shrI .u64 (n : Int) ((7 : Int) * l) = 0 ∨ 9 < l := by
  by_cases h9 : 9 < l
  · exact .inr h9
  · left
    have h1 := shrI_nat (k := .u64) (n := n) (s := 7 * l) (by show 7 * l ≤ 64; omega)
    rw [show (7 : Int) * (l : Int) = ((7 * l : Nat) : Int) by push_cast; rfl, h1, ← pow128, Nat.div_eq_of_lt h]
    rfl
theorem shr_some {n l : Nat} (h : 128 ^ l ≤ n) (hl : l ≤ 9) : shrI .u64 (n : Int) ((7 : Int) * l) ≠ 0 := by
  have h1 := shrI_nat (k := .u64) (n := n) (s := 7 * l) (by show 7 * l ≤ 64; omega)
  rw [show (7 : Int) * (l : Int) = ((7 * l : Nat) : Int) by push_cast; rfl, h1, ← pow128]
  have h2 : 0 < n / 128 ^ l := Nat.div_pos h (Nat.pow_pos (by decide))
  omega
theorem vreads_back (s t : List UInt8) (n : Nat) (hn : n < 18446744073709551616) : vreads (s ++ vbytes n ++ t) s.length n ((s.length : Int) + (vbytes n).length) = true := by
  have h := vread_back s t n hn
  rw [← List.append_assoc] at h
  rw [vreads, h]
  simp

set_option maxHeartbeats 1000000 in
theorem Back_call (E : Env) (L : List Res) (n : Nat) (hn : n < 18446744073709551616) (s t : List UInt8) :
    CallS Try.prog 7 #[.int .u64 n, .string (S s), .string (S t)] E L (fun r _ L' => r = .bool true ∧ L' = L) := by
  refine CallS.intro (l := [.int .u64 n, .string (S s), .string (S t)]) _ Try.func7 rfl Try.ntmps7 rfl ?_
  refine G_seq ?_
  refine G_region ?_
  refine G_val (V_assign rfl rfl) rfl rfl (.none rfl) ?_
  refine G_end ?_
  refine X_then ?_
  refine G_seq ?_
  refine G_region ?_
  refine G_call (k := 6) (.mk rfl rfl rfl rfl) rfl rfl (.none rfl) (Known_call _ _) ?_
  rintro r E0 L' hE0 ⟨rfl, rfl⟩
  by_cases h1 : 40 < s.length
  · refine G_val (V_assign rfl rfl) rfl rfl (.none rfl) ?_
    refine G_end ?_
    refine X_then ?_
    refine G_seq ?_
    refine G_seq ?_
    refine G_region ?_
    refine G_val (V_move rfl rfl) rfl rfl (.none rfl) ?_
    refine G_val (V_len rfl rfl) rfl rfl (.none rfl) ?_
    refine G_val (V_gtr rfl rfl rfl) rfl rfl (.none rfl) ?_
    refine G_val (V_move rfl rfl) rfl rfl (.none rfl) ?_
    refine G.bool_t 20 rfl (decide_eq_true (by omega)) ?_
    refine G_stay (.no rfl rfl rfl rfl) rfl rfl ?_
    refine G_stay (.no rfl rfl rfl rfl) rfl rfl ?_
    refine G_stay (.no rfl rfl rfl rfl) rfl rfl ?_
    refine G_val (V_pick_t rfl rfl rfl) rfl rfl (.none rfl) ?_
    refine G_end ?_
    refine X_then ?_
    refine G_cond_t rfl rfl ?_
    refine G_seq ?_
    refine G_region ?_
    refine G_val (V_move rfl rfl) rfl rfl (.none rfl) ?_
    refine G_val (V_assign rfl rfl) rfl rfl (.none rfl) ?_
    refine G_end ?_
    refine X_then ?_
    refine G_ret ?_
    refine X_then_ret ?_
    refine G_leave 0 (by exact (.cons (.tmp rfl) (.nil))) rfl ?_ ?_
    · exact hE0
    · exact ⟨rfl, rfl⟩
  by_cases h2 : 40 < t.length
  · refine G_val (V_assign rfl rfl) rfl rfl (.none rfl) ?_
    refine G_end ?_
    refine X_then ?_
    refine G_seq ?_
    refine G_seq ?_
    refine G_region ?_
    refine G_val (V_move rfl rfl) rfl rfl (.none rfl) ?_
    refine G_val (V_len rfl rfl) rfl rfl (.none rfl) ?_
    refine G_val (V_gtr rfl rfl rfl) rfl rfl (.none rfl) ?_
    refine G_val (V_move rfl rfl) rfl rfl (.none rfl) ?_
    refine G.bool_f 20 rfl (decide_eq_false (by omega)) ?_
    refine G_val (V_move rfl rfl) rfl rfl (.yes rfl rfl rfl rfl) ?_
    refine G_val (V_len rfl rfl) rfl rfl (.yes rfl rfl rfl rfl) ?_
    refine G_val (V_gtr rfl rfl rfl) rfl rfl (.yes rfl rfl rfl rfl) ?_
    refine G_val (V_pick_f rfl rfl rfl) rfl rfl (.none rfl) ?_
    refine G_end ?_
    refine X_then ?_
    refine G_cond_t rfl (decide_eq_true (by omega)) ?_
    refine G_seq ?_
    refine G_region ?_
    refine G_val (V_move rfl rfl) rfl rfl (.none rfl) ?_
    refine G_val (V_assign rfl rfl) rfl rfl (.none rfl) ?_
    refine G_end ?_
    refine X_then ?_
    refine G_ret ?_
    refine X_then_ret ?_
    refine G_leave 0 (by exact (.cons (.tmp rfl) (.nil))) rfl ?_ ?_
    · exact hE0
    · exact ⟨rfl, rfl⟩
  have hv1 : 1 ≤ (vbytes n).length := vdig_pos 9 n
  have hv2 : (vbytes n).length ≤ 10 := vdig_len 10 n
  refine G_val (V_assign rfl rfl) rfl rfl (.none rfl) ?_
  refine G_end ?_
  refine X_then ?_
  refine G_seq ?_
  refine G_seq ?_
  refine G_region ?_
  refine G_val (V_move rfl rfl) rfl rfl (.none rfl) ?_
  refine G_val (V_len rfl rfl) rfl rfl (.none rfl) ?_
  refine G_val (V_gtr rfl rfl rfl) rfl rfl (.none rfl) ?_
  refine G_val (V_move rfl rfl) rfl rfl (.none rfl) ?_
  refine G.bool_f 20 rfl (decide_eq_false (by omega)) ?_
  refine G_val (V_move rfl rfl) rfl rfl (.yes rfl rfl rfl rfl) ?_
  refine G_val (V_len rfl rfl) rfl rfl (.yes rfl rfl rfl rfl) ?_
  refine G_val (V_gtr rfl rfl rfl) rfl rfl (.yes rfl rfl rfl rfl) ?_
  refine G_val (V_pick_f rfl rfl rfl) rfl rfl (.none rfl) ?_
  refine G_end ?_
  refine X_then ?_
  refine G_cond_f rfl (decide_eq_false (by omega)) ?_
  refine G_skip ?_
  refine X_then ?_
  refine G_seq ?_
  refine G_region ?_
  refine G_val (V_move rfl rfl) rfl rfl (.none rfl) ?_
  refine G_callv (k := 10) (.mk rfl rfl rfl rfl) rfl rfl (.none rfl) (Bytes_call _ _ n hn) ?_
  refine G_val (V_assign rfl rfl) rfl rfl (.none rfl) ?_
  refine G_end ?_
  refine X_then ?_
  refine G_seq ?_
  refine G_region ?_
  refine G_val (V_move rfl rfl) rfl rfl (.none rfl) ?_
  refine G_callv (k := 21) (.mk rfl rfl rfl rfl) rfl rfl (.none rfl) (CallV.cast (Parse_call _ _ (vbytes n) (by omega)) (r' := .tuple #[.int .u64 n, .agg #[.int .i64 0, .int .i64 0]]) (by rw [vparse_back n hn]; rfl)) ?_
  refine G_val (V_move rfl rfl) rfl rfl (.none rfl) ?_
  refine G_val (V_extract rfl rfl rfl) rfl rfl (.none rfl) ?_
  refine G_val (V_extract rfl rfl rfl) rfl rfl (.none rfl) ?_
  (refine G_alloc rfl rfl rfl (.none rfl) ?_; intro b10)
  refine G_val (V_assign rfl rfl) rfl rfl (.none rfl) ?_
  refine G_storeA rfl rfl rfl rfl (by simp [Value.oneCell']) rfl (.none rfl) (.head _ _ _) rfl ?_
  refine G_end ?_
  refine X_then ?_
  refine G_seq ?_
  refine G_seq ?_
  refine G_region ?_
  refine G_val (V_loadA rfl rfl (Cells.own (.head _)) rfl) rfl rfl (.none rfl) ?_
  refine G_val (V_build rfl rfl (by simp [fillV, setLs, setL, Value.cells]; rfl)) rfl rfl (.none rfl) ?_
  refine G_val (V_aneq_31 rfl rfl rfl) rfl rfl (.none rfl) ?_
  refine G_val (V_move rfl rfl) rfl rfl (.none rfl) ?_
  refine G_val (V_move rfl rfl) rfl rfl (.yes rfl rfl rfl rfl) ?_
  refine G_val (V_move rfl rfl) rfl rfl (.yes rfl rfl rfl rfl) ?_
  refine G_val (V_neq rfl rfl rfl) rfl rfl (.yes rfl rfl rfl rfl) ?_
  refine G_val (V_pick_f rfl rfl rfl) rfl rfl (.none rfl) ?_
  refine G_val (V_move rfl rfl) rfl rfl (.none rfl) ?_
  refine G.bool_f 41 rfl (decide_eq_false (by omega)) ?_
  refine G_val (V_move rfl rfl) rfl rfl (.yes rfl rfl rfl rfl) ?_
  refine G_val (V_len rfl rfl) rfl rfl (.yes rfl rfl rfl rfl) ?_
  refine G_val (V_move rfl rfl) rfl rfl (.yes rfl rfl rfl rfl) ?_
  refine G.bool_f 41 rfl (by simp [*]; done) ?_
  refine G_callv (k := 12) (.mk rfl rfl rfl rfl) rfl rfl (.yes rfl rfl rfl rfl) (Size_call _ _ n hn) ?_
  refine G_val (V_neq rfl rfl rfl) rfl rfl (.yes rfl rfl rfl rfl) ?_
  refine G_val (V_pick_f rfl rfl rfl) rfl rfl (.none rfl) ?_
  refine G_val (V_move rfl rfl) rfl rfl (.none rfl) ?_
  refine G.bool_f 48 rfl (decide_eq_false (by omega)) ?_
  refine G_val (V_move rfl rfl) rfl rfl (.yes rfl rfl rfl rfl) ?_
  refine G_val (V_len rfl rfl) rfl rfl (.yes rfl rfl rfl rfl) ?_
  refine G_val (V_lss rfl rfl rfl) rfl rfl (.yes rfl rfl rfl rfl) ?_
  refine G_val (V_pick_f rfl rfl rfl) rfl rfl (.none rfl) ?_
  refine G_val (V_move rfl rfl) rfl rfl (.none rfl) ?_
  refine G.bool_f 53 rfl (decide_eq_false (by omega)) ?_
  refine G_val (V_move rfl rfl) rfl rfl (.yes rfl rfl rfl rfl) ?_
  refine G_val (V_len rfl rfl) rfl rfl (.yes rfl rfl rfl rfl) ?_
  refine G_val (V_gtr rfl rfl rfl) rfl rfl (.yes rfl rfl rfl rfl) ?_
  refine G_val (V_pick_f rfl rfl rfl) rfl rfl (.none rfl) ?_
  refine G_val (V_move rfl rfl) rfl rfl (.none rfl) ?_
  refine G.bool_f 58 rfl (decide_eq_false (by omega)) ?_
  refine G_val (V_move rfl rfl) rfl rfl (.yes rfl rfl rfl rfl) ?_
  refine G_val (V_move rfl rfl) rfl rfl (.yes rfl rfl rfl rfl) ?_
  refine G_val (V_cat rfl rfl rfl (by omega)) rfl rfl (.yes rfl rfl rfl rfl) ?_
  refine G_val (V_move rfl rfl) rfl rfl (.yes rfl rfl rfl rfl) ?_
  refine G_val (V_cat rfl rfl rfl (by simp; omega)) rfl rfl (.yes rfl rfl rfl rfl) ?_
  refine G_val (V_move rfl rfl) rfl rfl (.yes rfl rfl rfl rfl) ?_
  refine G_val (V_len rfl rfl) rfl rfl (.yes rfl rfl rfl rfl) ?_
  refine G_val (V_move rfl rfl) rfl rfl (.yes rfl rfl rfl rfl) ?_
  refine G_val (V_move rfl rfl) rfl rfl (.yes rfl rfl rfl rfl) ?_
  refine G_val (V_len rfl rfl) rfl rfl (.yes rfl rfl rfl rfl) ?_
  refine G_val (V_move rfl rfl) rfl rfl (.yes rfl rfl rfl rfl) ?_
  refine G_val (V_len rfl rfl) rfl rfl (.yes rfl rfl rfl rfl) ?_
  refine G_val (V_add_i64 rfl rfl rfl (by omega) (by omega)) rfl rfl (.yes rfl rfl rfl rfl) ?_
  refine G.bool_f 58 rfl (by simp [*]; done) ?_
  refine G_callv (k := 29) (.mk rfl rfl rfl rfl) rfl rfl (.yes rfl rfl rfl rfl) (CallV.cast (reads_call _ _ (s ++ vbytes n ++ t) (by simp only [List.length_append]; omega) s.length n ((s.length : Int) + (vbytes n).length)) (r' := .bool true) (by rw [vreads_back s t n hn])) ?_
  refine G_val (V_not rfl rfl) rfl rfl (.yes rfl rfl rfl rfl) ?_
  refine G_val (V_pick_f rfl rfl rfl) rfl rfl (.none rfl) ?_
  refine G_end ?_
  refine X_then ?_
  refine G_cond_f rfl rfl ?_
  refine G_skip ?_
  refine X_then ?_
  refine G_seq ?_
  refine G_seq ?_
  refine G_region ?_
  refine G_val (V_assign rfl rfl) rfl rfl (.none rfl) ?_
  refine G_end ?_
  refine X_then ?_
  refine G_block ?_
  refine G_loop (α := Nat) (fun k => [(0, .int .u64 n), (1, .string (S s)), (7, .bool true), (8, .string (S (vbytes n))), (11, .int .i64 k)]) (fun _ => E0)
    (fun _ => .blk b10 (.cells #[.int .i64 0, .int .i64 0] 31 (0, 0)) :: L') (fun k => k ≤ (vbytes n).length) (fun k => (vbytes n).length - k) 0 (Nat.zero_le _) ⟨rfl, rfl, rfl, rfl, rfl, trivial⟩ rfl rfl ?_
  intro j hj
  by_cases hlt : j < (vbytes n).length
  · refine G_seq ?_
    refine G_seq ?_
    refine G_region ?_
    refine G_val (V_move rfl rfl) rfl rfl (.none rfl) ?_
    refine G_val (V_move rfl rfl) rfl rfl (.none rfl) ?_
    refine G_val (V_len rfl rfl) rfl rfl (.none rfl) ?_
    refine G_val (V_lss rfl rfl rfl) rfl rfl (.none rfl) ?_
    refine G_end ?_
    refine X_then ?_
    refine G_cond_t rfl (decide_eq_true (by omega)) ?_
    refine G_skip ?_
    refine X_then ?_
    refine G_seq ?_
    refine G_block ?_
    refine G_seq ?_
    refine G_region ?_
    refine G_val (V_move rfl rfl) rfl rfl (.none rfl) ?_
    refine G_val (V_move rfl rfl) rfl rfl (.none rfl) ?_
    refine G_val (V_front rfl rfl rfl (by omega) (by omega)) rfl rfl (.none rfl) ?_
    refine G_callv (k := 21) (.mk rfl rfl rfl rfl) rfl rfl (.none rfl) (CallV.cast (Parse_call _ _ ((vbytes n).take (j : Int).toNat) (by simp only [List.length_take]; omega)) (r' := .tuple #[.int .u64 0, .agg #[.int .i64 5, .int .i64 j]]) (by rw [Int.toNat_natCast, vparse_short n hn j hlt]; rfl)) ?_
    refine G_val (V_move rfl rfl) rfl rfl (.none rfl) ?_
    refine G_val (V_extract rfl rfl rfl) rfl rfl (.none rfl) ?_
    refine G_val (V_extract rfl rfl rfl) rfl rfl (.none rfl) ?_
    (refine G_alloc rfl rfl rfl (.none rfl) ?_; intro b13)
    refine G_val (V_assign rfl rfl) rfl rfl (.none rfl) ?_
    refine G_storeA rfl rfl rfl rfl (by simp [Value.oneCell']) rfl (.none rfl) (.head _ _ _) rfl ?_
    refine G_end ?_
    refine X_then ?_
    refine G_seq ?_
    refine G_region ?_
    refine G_val (V_loadA rfl rfl (Cells.own (.head _)) rfl) rfl rfl (.none rfl) ?_
    refine G_val (V_move rfl rfl) rfl rfl (.none rfl) ?_
    refine G_val (V_build rfl rfl (by simp [fillV, setLs, setL, Value.cells]; rfl)) rfl rfl (.none rfl) ?_
    refine G_val (V_aneq_31 rfl rfl rfl) rfl rfl (.none rfl) ?_
    refine G_end ?_
    refine X_then ?_
    refine G_cond_f rfl (decide_eq_false (by omega)) ?_
    refine G_skip ?_
    refine X_block ?_
    refine X_then ?_
    refine G_region ?_
    refine G_val (V_move rfl rfl) rfl rfl (.none rfl) ?_
    refine G_val (V_add_i64 rfl rfl rfl (by omega) (by omega)) rfl rfl (.none rfl) ?_
    refine G_val (V_assign rfl rfl) rfl rfl (.none rfl) ?_
    refine G_end ?_
    refine X_then ?_
    exact G.drop (G_again (j + 1) (by omega) (by omega) ⟨rfl, rfl, rfl, rfl, rfl, trivial⟩ rfl rfl)
  · have hb := vbytes_bound n hn
    have hs0 : (vbytes n).length < 10 → shrI .u64 (n : Int) (7 * ((vbytes n).length : Int)) = 0 := fun h => (shr_big hb.1 hv2).resolve_right (by omega)
    have hs1 : 1 < (vbytes n).length → shrI .u64 (n : Int) (7 * (((vbytes n).length : Int) - 1)) ≠ 0 := fun h => by
      have := shr_some (hb.2 h) (by omega)
      rwa [show (((vbytes n).length - 1 : Nat) : Int) = ((vbytes n).length : Int) - 1 by omega] at this
    clear hb
    have hvl := vparse_lt s
    have hvi := vparse_inv s
    generalize hg : (vbytes n).length = l at *
    by_cases hl1 : l < 10
    · have hs0' := hs0 hl1
      by_cases hl2 : 1 < l
      · have hs1' := hs1 hl2
        refine G_seq ?_
        refine G_seq ?_
        refine G_region ?_
        refine G_val (V_move rfl rfl) rfl rfl (.none rfl) ?_
        refine G_val (V_move rfl rfl) rfl rfl (.none rfl) ?_
        refine G_val (V_len rfl rfl) rfl rfl (.none rfl) ?_
        refine G_val (V_lss rfl rfl rfl) rfl rfl (.none rfl) ?_
        refine G_end ?_
        refine X_then ?_
        refine G_cond_f rfl (decide_eq_false (by omega)) ?_
        refine G_exit ?_
        refine X_then_exit ?_
        refine X_then_exit ?_
        refine X_block_hit ?_
        refine X_then ?_
        refine G_seq ?_
        refine G_seq ?_
        refine G_region ?_
        refine G_val (V_move rfl rfl) rfl rfl (.none rfl) ?_
        refine G_val (V_len rfl rfl) rfl rfl (.none rfl) ?_
        refine G_val (V_lss rfl rfl rfl) rfl rfl (.none rfl) ?_
        refine G_val (V_move rfl rfl) rfl rfl (.none rfl) ?_
        refine G.bool_t 95 rfl (decide_eq_true (by omega)) ?_
        refine G_val (V_move rfl rfl) rfl rfl (.yes rfl rfl rfl rfl) ?_
        refine G_val (V_move rfl rfl) rfl rfl (.yes rfl rfl rfl rfl) ?_
        refine G_val (V_len rfl rfl) rfl rfl (.yes rfl rfl rfl rfl) ?_
        refine G_val (V_mul_i64 rfl rfl rfl (by omega) (by omega)) rfl rfl (.yes rfl rfl rfl rfl) ?_
        refine G_val (V_conv_u64 rfl rfl (by omega) (by omega)) rfl rfl (.yes rfl rfl rfl rfl) ?_
        refine G_val (V_shr rfl rfl rfl (by omega)) rfl rfl (.yes rfl rfl rfl rfl) ?_
        refine G_val (V_neq rfl rfl rfl) rfl rfl (.yes rfl rfl rfl rfl) ?_
        refine G_val (V_pick_t rfl rfl rfl) rfl rfl (.none rfl) ?_
        refine G_val (V_move rfl rfl) rfl rfl (.none rfl) ?_
        refine G.bool_f 104 rfl (by simp [*]; done) ?_
        refine G_val (V_move rfl rfl) rfl rfl (.yes rfl rfl rfl rfl) ?_
        refine G_val (V_len rfl rfl) rfl rfl (.yes rfl rfl rfl rfl) ?_
        refine G_val (V_gtr rfl rfl rfl) rfl rfl (.yes rfl rfl rfl rfl) ?_
        refine G_val (V_move rfl rfl) rfl rfl (.yes rfl rfl rfl rfl) ?_
        refine G.bool_t 108 rfl (decide_eq_true (by omega)) ?_
        refine G_val (V_move rfl rfl) rfl rfl (.yes rfl rfl rfl rfl) ?_
        refine G_val (V_move rfl rfl) rfl rfl (.yes rfl rfl rfl rfl) ?_
        refine G_val (V_len rfl rfl) rfl rfl (.yes rfl rfl rfl rfl) ?_
        refine G_val (V_sub_i64 rfl rfl rfl (by omega) (by omega)) rfl rfl (.yes rfl rfl rfl rfl) ?_
        refine G_val (V_mul_i64 rfl rfl rfl (by omega) (by omega)) rfl rfl (.yes rfl rfl rfl rfl) ?_
        refine G_val (V_conv_u64 rfl rfl (by omega) (by omega)) rfl rfl (.yes rfl rfl rfl rfl) ?_
        refine G_val (V_shr rfl rfl rfl (by omega)) rfl rfl (.yes rfl rfl rfl rfl) ?_
        refine G_val (V_eql rfl rfl rfl) rfl rfl (.yes rfl rfl rfl rfl) ?_
        refine G_val (V_pick_t rfl rfl rfl) rfl rfl (.yes rfl rfl rfl rfl) ?_
        refine G_val (V_pick_f rfl rfl rfl) rfl rfl (.none rfl) ?_
        refine G_end ?_
        refine X_then ?_
        refine G_cond_f rfl (by simp [*]; done) ?_
        refine G_skip ?_
        refine X_then ?_
        refine G_seq ?_
        refine G_region ?_
        refine G_val (V_move rfl rfl) rfl rfl (.none rfl) ?_
        refine G_callv (k := 21) (.mk rfl rfl rfl rfl) rfl rfl (.none rfl) (Parse_call _ _ s (by omega)) ?_
        generalize vparse s = r at *
        obtain ⟨k, e, ea⟩ := r
        simp only [pV] at hvl hvi ⊢
        by_cases h : e = 0 ∧ ea = 0
        · have hks := hvi h.1 h.2
          refine G_val (V_move rfl rfl) rfl rfl (.none rfl) ?_
          refine G_val (V_extract rfl rfl rfl) rfl rfl (.none rfl) ?_
          refine G_val (V_extract rfl rfl rfl) rfl rfl (.none rfl) ?_
          (refine G_alloc rfl rfl rfl (.none rfl) ?_; intro b15)
          refine G_val (V_assign rfl rfl) rfl rfl (.none rfl) ?_
          refine G_storeA rfl rfl rfl rfl (by simp [Value.oneCell']) rfl (.none rfl) (.head _ _ _) rfl ?_
          refine G_end ?_
          refine X_then ?_
          refine G_seq ?_
          refine G_region ?_
          refine G_val (V_move rfl rfl) rfl rfl (.none rfl) ?_
          refine G_val (V_move rfl rfl) rfl rfl (.none rfl) ?_
          refine G_val (V_loadA rfl rfl (Cells.own (.head _)) rfl) rfl rfl (.yes rfl rfl rfl rfl) ?_
          refine G_val (V_build rfl rfl (by simp [fillV, setLs, setL, Value.cells]; rfl)) rfl rfl (.yes rfl rfl rfl rfl) ?_
          refine G_val (V_aneq_31 rfl rfl rfl) rfl rfl (.yes rfl rfl rfl rfl) ?_
          refine G_val (V_move rfl rfl) rfl rfl (.yes rfl rfl rfl rfl) ?_
          refine G.bool_f 129 rfl (decide_eq_false (by omega)) ?_
          refine G_val (V_move rfl rfl) rfl rfl (.yes rfl rfl rfl rfl) ?_
          refine G.bool_f 129 rfl (by simp [*]; done) ?_
          refine G_callv (k := 10) (.mk rfl rfl rfl rfl) rfl rfl (.yes rfl rfl rfl rfl) (CallV.cast (Bytes_call _ _ k hvl) (r' := .string (S s)) (by rw [hks])) ?_
          refine G_val (V_move rfl rfl) rfl rfl (.yes rfl rfl rfl rfl) ?_
          refine G_val (V_seql rfl rfl rfl) rfl rfl (.yes rfl rfl rfl rfl) ?_
          refine G_val (V_pick_f rfl rfl rfl) rfl rfl (.yes rfl rfl rfl rfl) ?_
          refine G_val (V_pick_t rfl rfl rfl) rfl rfl (.none rfl) ?_
          refine G_val (V_assign rfl rfl) rfl rfl (.none rfl) ?_
          refine G_end ?_
          refine X_then ?_
          refine G_ret ?_
          refine G_leave 2 (by exact (.cons (.tmp rfl) (.nil))) rfl ?_ ?_
          · exact hE0
          · exact ⟨by rw [res_one]; simp, rfl⟩
        · refine G_val (V_move rfl rfl) rfl rfl (.none rfl) ?_
          refine G_val (V_extract rfl rfl rfl) rfl rfl (.none rfl) ?_
          refine G_val (V_extract rfl rfl rfl) rfl rfl (.none rfl) ?_
          (refine G_alloc rfl rfl rfl (.none rfl) ?_; intro b15)
          refine G_val (V_assign rfl rfl) rfl rfl (.none rfl) ?_
          refine G_storeA rfl rfl rfl rfl (by simp [Value.oneCell']) rfl (.none rfl) (.head _ _ _) rfl ?_
          refine G_end ?_
          refine X_then ?_
          refine G_seq ?_
          refine G_region ?_
          refine G_val (V_move rfl rfl) rfl rfl (.none rfl) ?_
          refine G_val (V_move rfl rfl) rfl rfl (.none rfl) ?_
          refine G_val (V_loadA rfl rfl (Cells.own (.head _)) rfl) rfl rfl (.yes rfl rfl rfl rfl) ?_
          refine G_val (V_build rfl rfl (by simp [fillV, setLs, setL, Value.cells]; rfl)) rfl rfl (.yes rfl rfl rfl rfl) ?_
          refine G_val (V_aneq_31 rfl rfl rfl) rfl rfl (.yes rfl rfl rfl rfl) ?_
          refine G_val (V_move rfl rfl) rfl rfl (.yes rfl rfl rfl rfl) ?_
          refine G.bool_t 129 rfl (decide_eq_true (by omega)) ?_
          refine G_stay (.no rfl rfl rfl rfl) rfl rfl ?_
          refine G_stay (.no rfl rfl rfl rfl) rfl rfl ?_
          refine G_stay (.no rfl rfl rfl rfl) rfl rfl ?_
          refine G_stay (.no rfl rfl rfl rfl) rfl rfl ?_
          refine G_val (V_pick_t rfl rfl rfl) rfl rfl (.yes rfl rfl rfl rfl) ?_
          refine G_val (V_pick_t rfl rfl rfl) rfl rfl (.none rfl) ?_
          refine G_val (V_assign rfl rfl) rfl rfl (.none rfl) ?_
          refine G_end ?_
          refine X_then ?_
          refine G_ret ?_
          refine G_leave 2 (by exact (.cons (.tmp rfl) (.nil))) rfl ?_ ?_
          · exact hE0
          · exact ⟨by rw [res_one]; try simp [*], rfl⟩
      · refine G_seq ?_
        refine G_seq ?_
        refine G_region ?_
        refine G_val (V_move rfl rfl) rfl rfl (.none rfl) ?_
        refine G_val (V_move rfl rfl) rfl rfl (.none rfl) ?_
        refine G_val (V_len rfl rfl) rfl rfl (.none rfl) ?_
        refine G_val (V_lss rfl rfl rfl) rfl rfl (.none rfl) ?_
        refine G_end ?_
        refine X_then ?_
        refine G_cond_f rfl (decide_eq_false (by omega)) ?_
        refine G_exit ?_
        refine X_then_exit ?_
        refine X_then_exit ?_
        refine X_block_hit ?_
        refine X_then ?_
        refine G_seq ?_
        refine G_seq ?_
        refine G_region ?_
        refine G_val (V_move rfl rfl) rfl rfl (.none rfl) ?_
        refine G_val (V_len rfl rfl) rfl rfl (.none rfl) ?_
        refine G_val (V_lss rfl rfl rfl) rfl rfl (.none rfl) ?_
        refine G_val (V_move rfl rfl) rfl rfl (.none rfl) ?_
        refine G.bool_t 95 rfl (decide_eq_true (by omega)) ?_
        refine G_val (V_move rfl rfl) rfl rfl (.yes rfl rfl rfl rfl) ?_
        refine G_val (V_move rfl rfl) rfl rfl (.yes rfl rfl rfl rfl) ?_
        refine G_val (V_len rfl rfl) rfl rfl (.yes rfl rfl rfl rfl) ?_
        refine G_val (V_mul_i64 rfl rfl rfl (by omega) (by omega)) rfl rfl (.yes rfl rfl rfl rfl) ?_
        refine G_val (V_conv_u64 rfl rfl (by omega) (by omega)) rfl rfl (.yes rfl rfl rfl rfl) ?_
        refine G_val (V_shr rfl rfl rfl (by omega)) rfl rfl (.yes rfl rfl rfl rfl) ?_
        refine G_val (V_neq rfl rfl rfl) rfl rfl (.yes rfl rfl rfl rfl) ?_
        refine G_val (V_pick_t rfl rfl rfl) rfl rfl (.none rfl) ?_
        refine G_val (V_move rfl rfl) rfl rfl (.none rfl) ?_
        refine G.bool_f 104 rfl (by simp [*]; done) ?_
        refine G_val (V_move rfl rfl) rfl rfl (.yes rfl rfl rfl rfl) ?_
        refine G_val (V_len rfl rfl) rfl rfl (.yes rfl rfl rfl rfl) ?_
        refine G_val (V_gtr rfl rfl rfl) rfl rfl (.yes rfl rfl rfl rfl) ?_
        refine G_val (V_move rfl rfl) rfl rfl (.yes rfl rfl rfl rfl) ?_
        refine G.bool_f 108 rfl (decide_eq_false (by omega)) ?_
        refine G_stay (.no rfl rfl rfl rfl) rfl rfl ?_
        refine G_stay (.no rfl rfl rfl rfl) rfl rfl ?_
        refine G_stay (.no rfl rfl rfl rfl) rfl rfl ?_
        refine G_stay (.no rfl rfl rfl rfl) rfl rfl ?_
        refine G_stay (.no rfl rfl rfl rfl) rfl rfl ?_
        refine G_stay (.no rfl rfl rfl rfl) rfl rfl ?_
        refine G_stay (.no rfl rfl rfl rfl) rfl rfl ?_
        refine G_stay (.no rfl rfl rfl rfl) rfl rfl ?_
        refine G_val (V_pick_f rfl rfl rfl) rfl rfl (.yes rfl rfl rfl rfl) ?_
        refine G_val (V_pick_f rfl rfl rfl) rfl rfl (.none rfl) ?_
        refine G_end ?_
        refine X_then ?_
        refine G_cond_f rfl rfl ?_
        refine G_skip ?_
        refine X_then ?_
        refine G_seq ?_
        refine G_region ?_
        refine G_val (V_move rfl rfl) rfl rfl (.none rfl) ?_
        refine G_callv (k := 21) (.mk rfl rfl rfl rfl) rfl rfl (.none rfl) (Parse_call _ _ s (by omega)) ?_
        generalize vparse s = r at *
        obtain ⟨k, e, ea⟩ := r
        simp only [pV] at hvl hvi ⊢
        by_cases h : e = 0 ∧ ea = 0
        · have hks := hvi h.1 h.2
          refine G_val (V_move rfl rfl) rfl rfl (.none rfl) ?_
          refine G_val (V_extract rfl rfl rfl) rfl rfl (.none rfl) ?_
          refine G_val (V_extract rfl rfl rfl) rfl rfl (.none rfl) ?_
          (refine G_alloc rfl rfl rfl (.none rfl) ?_; intro b15)
          refine G_val (V_assign rfl rfl) rfl rfl (.none rfl) ?_
          refine G_storeA rfl rfl rfl rfl (by simp [Value.oneCell']) rfl (.none rfl) (.head _ _ _) rfl ?_
          refine G_end ?_
          refine X_then ?_
          refine G_seq ?_
          refine G_region ?_
          refine G_val (V_move rfl rfl) rfl rfl (.none rfl) ?_
          refine G_val (V_move rfl rfl) rfl rfl (.none rfl) ?_
          refine G_val (V_loadA rfl rfl (Cells.own (.head _)) rfl) rfl rfl (.yes rfl rfl rfl rfl) ?_
          refine G_val (V_build rfl rfl (by simp [fillV, setLs, setL, Value.cells]; rfl)) rfl rfl (.yes rfl rfl rfl rfl) ?_
          refine G_val (V_aneq_31 rfl rfl rfl) rfl rfl (.yes rfl rfl rfl rfl) ?_
          refine G_val (V_move rfl rfl) rfl rfl (.yes rfl rfl rfl rfl) ?_
          refine G.bool_f 129 rfl (decide_eq_false (by omega)) ?_
          refine G_val (V_move rfl rfl) rfl rfl (.yes rfl rfl rfl rfl) ?_
          refine G.bool_f 129 rfl (by simp [*]; done) ?_
          refine G_callv (k := 10) (.mk rfl rfl rfl rfl) rfl rfl (.yes rfl rfl rfl rfl) (CallV.cast (Bytes_call _ _ k hvl) (r' := .string (S s)) (by rw [hks])) ?_
          refine G_val (V_move rfl rfl) rfl rfl (.yes rfl rfl rfl rfl) ?_
          refine G_val (V_seql rfl rfl rfl) rfl rfl (.yes rfl rfl rfl rfl) ?_
          refine G_val (V_pick_f rfl rfl rfl) rfl rfl (.yes rfl rfl rfl rfl) ?_
          refine G_val (V_pick_t rfl rfl rfl) rfl rfl (.none rfl) ?_
          refine G_val (V_assign rfl rfl) rfl rfl (.none rfl) ?_
          refine G_end ?_
          refine X_then ?_
          refine G_ret ?_
          refine G_leave 2 (by exact (.cons (.tmp rfl) (.nil))) rfl ?_ ?_
          · exact hE0
          · exact ⟨by rw [res_one]; simp, rfl⟩
        · refine G_val (V_move rfl rfl) rfl rfl (.none rfl) ?_
          refine G_val (V_extract rfl rfl rfl) rfl rfl (.none rfl) ?_
          refine G_val (V_extract rfl rfl rfl) rfl rfl (.none rfl) ?_
          (refine G_alloc rfl rfl rfl (.none rfl) ?_; intro b15)
          refine G_val (V_assign rfl rfl) rfl rfl (.none rfl) ?_
          refine G_storeA rfl rfl rfl rfl (by simp [Value.oneCell']) rfl (.none rfl) (.head _ _ _) rfl ?_
          refine G_end ?_
          refine X_then ?_
          refine G_seq ?_
          refine G_region ?_
          refine G_val (V_move rfl rfl) rfl rfl (.none rfl) ?_
          refine G_val (V_move rfl rfl) rfl rfl (.none rfl) ?_
          refine G_val (V_loadA rfl rfl (Cells.own (.head _)) rfl) rfl rfl (.yes rfl rfl rfl rfl) ?_
          refine G_val (V_build rfl rfl (by simp [fillV, setLs, setL, Value.cells]; rfl)) rfl rfl (.yes rfl rfl rfl rfl) ?_
          refine G_val (V_aneq_31 rfl rfl rfl) rfl rfl (.yes rfl rfl rfl rfl) ?_
          refine G_val (V_move rfl rfl) rfl rfl (.yes rfl rfl rfl rfl) ?_
          refine G.bool_t 129 rfl (decide_eq_true (by omega)) ?_
          refine G_stay (.no rfl rfl rfl rfl) rfl rfl ?_
          refine G_stay (.no rfl rfl rfl rfl) rfl rfl ?_
          refine G_stay (.no rfl rfl rfl rfl) rfl rfl ?_
          refine G_stay (.no rfl rfl rfl rfl) rfl rfl ?_
          refine G_val (V_pick_t rfl rfl rfl) rfl rfl (.yes rfl rfl rfl rfl) ?_
          refine G_val (V_pick_t rfl rfl rfl) rfl rfl (.none rfl) ?_
          refine G_val (V_assign rfl rfl) rfl rfl (.none rfl) ?_
          refine G_end ?_
          refine X_then ?_
          refine G_ret ?_
          refine G_leave 2 (by exact (.cons (.tmp rfl) (.nil))) rfl ?_ ?_
          · exact hE0
          · exact ⟨by rw [res_one]; try simp [*], rfl⟩
    · have hs1' := hs1 (by omega)
      refine G_seq ?_
      refine G_seq ?_
      refine G_region ?_
      refine G_val (V_move rfl rfl) rfl rfl (.none rfl) ?_
      refine G_val (V_move rfl rfl) rfl rfl (.none rfl) ?_
      refine G_val (V_len rfl rfl) rfl rfl (.none rfl) ?_
      refine G_val (V_lss rfl rfl rfl) rfl rfl (.none rfl) ?_
      refine G_end ?_
      refine X_then ?_
      refine G_cond_f rfl (decide_eq_false (by omega)) ?_
      refine G_exit ?_
      refine X_then_exit ?_
      refine X_then_exit ?_
      refine X_block_hit ?_
      refine X_then ?_
      refine G_seq ?_
      refine G_seq ?_
      refine G_region ?_
      refine G_val (V_move rfl rfl) rfl rfl (.none rfl) ?_
      refine G_val (V_len rfl rfl) rfl rfl (.none rfl) ?_
      refine G_val (V_lss rfl rfl rfl) rfl rfl (.none rfl) ?_
      refine G_val (V_move rfl rfl) rfl rfl (.none rfl) ?_
      refine G.bool_f 95 rfl (decide_eq_false (by omega)) ?_
      refine G_stay (.no rfl rfl rfl rfl) rfl rfl ?_
      refine G_stay (.no rfl rfl rfl rfl) rfl rfl ?_
      refine G_stay (.no rfl rfl rfl rfl) rfl rfl ?_
      refine G_stay (.no rfl rfl rfl rfl) rfl rfl ?_
      refine G_stay (.no rfl rfl rfl rfl) rfl rfl ?_
      refine G_stay (.no rfl rfl rfl rfl) rfl rfl ?_
      refine G_stay (.no rfl rfl rfl rfl) rfl rfl ?_
      refine G_val (V_pick_f rfl rfl rfl) rfl rfl (.none rfl) ?_
      refine G_val (V_move rfl rfl) rfl rfl (.none rfl) ?_
      refine G_val (V_move rfl rfl) rfl rfl (.yes rfl rfl rfl rfl) ?_
      refine G_val (V_len rfl rfl) rfl rfl (.yes rfl rfl rfl rfl) ?_
      refine G_val (V_gtr rfl rfl rfl) rfl rfl (.yes rfl rfl rfl rfl) ?_
      refine G_val (V_move rfl rfl) rfl rfl (.yes rfl rfl rfl rfl) ?_
      refine G.bool_t 108 rfl (decide_eq_true (by omega)) ?_
      refine G_val (V_move rfl rfl) rfl rfl (.yes rfl rfl rfl rfl) ?_
      refine G_val (V_move rfl rfl) rfl rfl (.yes rfl rfl rfl rfl) ?_
      refine G_val (V_len rfl rfl) rfl rfl (.yes rfl rfl rfl rfl) ?_
      refine G_val (V_sub_i64 rfl rfl rfl (by omega) (by omega)) rfl rfl (.yes rfl rfl rfl rfl) ?_
      refine G_val (V_mul_i64 rfl rfl rfl (by omega) (by omega)) rfl rfl (.yes rfl rfl rfl rfl) ?_
      refine G_val (V_conv_u64 rfl rfl (by omega) (by omega)) rfl rfl (.yes rfl rfl rfl rfl) ?_
      refine G_val (V_shr rfl rfl rfl (by omega)) rfl rfl (.yes rfl rfl rfl rfl) ?_
      refine G_val (V_eql rfl rfl rfl) rfl rfl (.yes rfl rfl rfl rfl) ?_
      refine G_val (V_pick_t rfl rfl rfl) rfl rfl (.yes rfl rfl rfl rfl) ?_
      refine G_val (V_pick_f rfl rfl rfl) rfl rfl (.none rfl) ?_
      refine G_end ?_
      refine X_then ?_
      refine G_cond_f rfl (by simp [*]; done) ?_
      refine G_skip ?_
      refine X_then ?_
      refine G_seq ?_
      refine G_region ?_
      refine G_val (V_move rfl rfl) rfl rfl (.none rfl) ?_
      refine G_callv (k := 21) (.mk rfl rfl rfl rfl) rfl rfl (.none rfl) (Parse_call _ _ s (by omega)) ?_
      generalize vparse s = r at *
      obtain ⟨k, e, ea⟩ := r
      simp only [pV] at hvl hvi ⊢
      by_cases h : e = 0 ∧ ea = 0
      · have hks := hvi h.1 h.2
        refine G_val (V_move rfl rfl) rfl rfl (.none rfl) ?_
        refine G_val (V_extract rfl rfl rfl) rfl rfl (.none rfl) ?_
        refine G_val (V_extract rfl rfl rfl) rfl rfl (.none rfl) ?_
        (refine G_alloc rfl rfl rfl (.none rfl) ?_; intro b15)
        refine G_val (V_assign rfl rfl) rfl rfl (.none rfl) ?_
        refine G_storeA rfl rfl rfl rfl (by simp [Value.oneCell']) rfl (.none rfl) (.head _ _ _) rfl ?_
        refine G_end ?_
        refine X_then ?_
        refine G_seq ?_
        refine G_region ?_
        refine G_val (V_move rfl rfl) rfl rfl (.none rfl) ?_
        refine G_val (V_move rfl rfl) rfl rfl (.none rfl) ?_
        refine G_val (V_loadA rfl rfl (Cells.own (.head _)) rfl) rfl rfl (.yes rfl rfl rfl rfl) ?_
        refine G_val (V_build rfl rfl (by simp [fillV, setLs, setL, Value.cells]; rfl)) rfl rfl (.yes rfl rfl rfl rfl) ?_
        refine G_val (V_aneq_31 rfl rfl rfl) rfl rfl (.yes rfl rfl rfl rfl) ?_
        refine G_val (V_move rfl rfl) rfl rfl (.yes rfl rfl rfl rfl) ?_
        refine G.bool_f 129 rfl (decide_eq_false (by omega)) ?_
        refine G_val (V_move rfl rfl) rfl rfl (.yes rfl rfl rfl rfl) ?_
        refine G.bool_f 129 rfl (by simp [*]; done) ?_
        refine G_callv (k := 10) (.mk rfl rfl rfl rfl) rfl rfl (.yes rfl rfl rfl rfl) (CallV.cast (Bytes_call _ _ k hvl) (r' := .string (S s)) (by rw [hks])) ?_
        refine G_val (V_move rfl rfl) rfl rfl (.yes rfl rfl rfl rfl) ?_
        refine G_val (V_seql rfl rfl rfl) rfl rfl (.yes rfl rfl rfl rfl) ?_
        refine G_val (V_pick_f rfl rfl rfl) rfl rfl (.yes rfl rfl rfl rfl) ?_
        refine G_val (V_pick_t rfl rfl rfl) rfl rfl (.none rfl) ?_
        refine G_val (V_assign rfl rfl) rfl rfl (.none rfl) ?_
        refine G_end ?_
        refine X_then ?_
        refine G_ret ?_
        refine G_leave 2 (by exact (.cons (.tmp rfl) (.nil))) rfl ?_ ?_
        · exact hE0
        · exact ⟨by rw [res_one]; simp, rfl⟩
      · refine G_val (V_move rfl rfl) rfl rfl (.none rfl) ?_
        refine G_val (V_extract rfl rfl rfl) rfl rfl (.none rfl) ?_
        refine G_val (V_extract rfl rfl rfl) rfl rfl (.none rfl) ?_
        (refine G_alloc rfl rfl rfl (.none rfl) ?_; intro b15)
        refine G_val (V_assign rfl rfl) rfl rfl (.none rfl) ?_
        refine G_storeA rfl rfl rfl rfl (by simp [Value.oneCell']) rfl (.none rfl) (.head _ _ _) rfl ?_
        refine G_end ?_
        refine X_then ?_
        refine G_seq ?_
        refine G_region ?_
        refine G_val (V_move rfl rfl) rfl rfl (.none rfl) ?_
        refine G_val (V_move rfl rfl) rfl rfl (.none rfl) ?_
        refine G_val (V_loadA rfl rfl (Cells.own (.head _)) rfl) rfl rfl (.yes rfl rfl rfl rfl) ?_
        refine G_val (V_build rfl rfl (by simp [fillV, setLs, setL, Value.cells]; rfl)) rfl rfl (.yes rfl rfl rfl rfl) ?_
        refine G_val (V_aneq_31 rfl rfl rfl) rfl rfl (.yes rfl rfl rfl rfl) ?_
        refine G_val (V_move rfl rfl) rfl rfl (.yes rfl rfl rfl rfl) ?_
        refine G.bool_t 129 rfl (decide_eq_true (by omega)) ?_
        refine G_stay (.no rfl rfl rfl rfl) rfl rfl ?_
        refine G_stay (.no rfl rfl rfl rfl) rfl rfl ?_
        refine G_stay (.no rfl rfl rfl rfl) rfl rfl ?_
        refine G_stay (.no rfl rfl rfl rfl) rfl rfl ?_
        refine G_val (V_pick_t rfl rfl rfl) rfl rfl (.yes rfl rfl rfl rfl) ?_
        refine G_val (V_pick_t rfl rfl rfl) rfl rfl (.none rfl) ?_
        refine G_val (V_assign rfl rfl) rfl rfl (.none rfl) ?_
        refine G_end ?_
        refine X_then ?_
        refine G_ret ?_
        refine G_leave 2 (by exact (.cons (.tmp rfl) (.nil))) rfl ?_ ?_
        · exact hE0
        · exact ⟨by rw [res_one]; try simp [*], rfl⟩
end Go.Proofs.Ytmkgdljgiajoiaa
