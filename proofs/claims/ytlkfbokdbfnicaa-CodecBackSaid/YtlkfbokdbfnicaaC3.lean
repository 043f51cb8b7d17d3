import Derived.Test.YtlkfbokdbfnicaaSep17
import Derived.Test.YtlkfbokdbfnicaaInst
import Derived.Test.YtlkfbokdbfnicaaC2
set_option linter.unusedSimpArgs false
set_option linter.unusedVariables false
set_option maxHeartbeats 2000000
set_option maxRecDepth 20000
namespace Go.Proofs.Ytlkfbokdbfnicaa
open Go.RowKit

theorem vreadK_props (s : List UInt8) (a : Nat) : ∀ k i n : Nat, k + i = 10 → a + i ≤ s.length → n < 128 ^ i →
    ((vreadK s a k i n).2.2.1 = 0 → a + i < (vreadK s a k i n).2.1 ∧ (vreadK s a k i n).2.1 ≤ s.length ∧ (vreadK s a k i n).2.2.2 = 0 ∧ (vreadK s a k i n).1 < 18446744073709551616) ∧
    ((vreadK s a k i n).2.2.1 ≠ 0 → ((vreadK s a k i n).2.2.1 = 5 ∨ (vreadK s a k i n).2.2.1 = 26) ∧ (vreadK s a k i n).2.2.2 ≤ s.length ∧ (vreadK s a k i n).1 = 0 ∧ (vreadK s a k i n).2.1 = 0) := by
  intro k
  induction k with
  | zero =>
    intro i n hk ha hn
    refine ⟨fun h => by simp [vreadK] at h, fun _ => ⟨.inr rfl, ?_, rfl, rfl⟩⟩
    show a + 9 ≤ _
    omega
  | succ k ih =>
    intro i n hk ha hn
    by_cases hl : s.length ≤ a + i
    · rw [vreadK_none hl]
      exact ⟨fun h => by simp at h, fun _ => ⟨.inl rfl, Nat.le_refl _, rfl, rfl⟩⟩
    · obtain ⟨b, hb⟩ : ∃ b, s[a + i]? = some b := ⟨_, List.getElem?_eq_getElem (by omega)⟩
      rw [vreadK_some hb]
      by_cases h1 : (0 < i ∧ b.toNat = 0) ∨ (i = 9 ∧ 1 < b.toNat)
      · rw [if_pos h1]
        exact ⟨fun h => by simp at h, fun _ => ⟨.inr rfl, ha, rfl, rfl⟩⟩
      · rw [if_neg h1]
        obtain ⟨_, h3, h4⟩ := or_step (n := n) (b := b.toNat) (i := i) hn (by omega) b.toNat_lt (by omega)
        by_cases h2 : b.toNat < 128
        · rw [if_pos h2]
          refine ⟨fun _ => ⟨?_, ?_, rfl, h3⟩, fun h => absurd rfl h⟩
          · show a + i < a + i + 1
            omega
          · show a + i + 1 ≤ _
            omega
        · rw [if_neg h2]
          have := ih (i + 1) _ (by omega) (by omega) h4
          refine ⟨fun h => ?_, this.2⟩
          have := this.1 h
          exact ⟨by omega, this.2⟩
theorem vread_props (s : List UInt8) (a : Int) :
    ((vread s a).2.2.1 = 0 → 0 ≤ a ∧ a < (vread s a).2.1 ∧ (vread s a).2.1 ≤ s.length ∧ (vread s a).2.2.2 = 0 ∧ (vread s a).1 < 18446744073709551616) ∧
    ((vread s a).2.2.1 ≠ 0 → ((vread s a).2.2.1 = 2 ∨ (vread s a).2.2.1 = 5 ∨ (vread s a).2.2.1 = 26) ∧ (vread s a).2.2.2 ≤ s.length ∧ (vread s a).1 = 0 ∧ (vread s a).2.1 = 0) := by
  unfold vread
  by_cases h : a < 0 ∨ (s.length : Int) < a
  · rw [if_pos h]
    exact ⟨fun h => by simp at h, fun _ => ⟨.inl rfl, Nat.zero_le _, rfl, rfl⟩⟩
  · rw [if_neg h]
    have := vreadK_props s a.toNat 10 0 0 rfl (by omega) (by decide)
    refine ⟨fun h => ?_, fun h => ?_⟩
    · have := this.1 h
      omega
    · have := this.2 h
      exact ⟨.inr this.1, this.2⟩
theorem rwide_s (q : Rdr) : (rwide q).1.s = q.s := by unfold rwide; split <;> rfl
theorem rwide_props (q : Rdr) (h0 : q.e = 0) (hf : q.fa = 0) (ha : 0 ≤ q.at') (hl : q.at' ≤ q.s.length) :
    ((rwide q).1.e = 0 → q.at' < (rwide q).1.at' ∧ (rwide q).1.at' ≤ q.s.length ∧ (rwide q).1.fa = 0 ∧ (rwide q).2 < 18446744073709551616) ∧
    ((rwide q).1.e ≠ 0 → (rwide q).2 = 0 ∧ (rwide q).1.at' = q.at' ∧ 1 ≤ (rwide q).1.e ∧ (rwide q).1.e ≤ 31 ∧ 0 ≤ (rwide q).1.fa ∧ (rwide q).1.fa ≤ q.s.length) := by
  obtain ⟨h1, h2⟩ := vread_props q.s q.at'
  unfold rwide
  split
  · rename_i h
    have := h1 h
    refine ⟨fun _ => ?_, fun h => absurd h0 h⟩
    simp only
    omega
  · rename_i h
    have := h2 h
    refine ⟨fun h' => ?_, fun _ => ?_⟩
    · exact absurd (show (vread q.s q.at').2.2.1 = 0 by have h3 : (((vread q.s q.at').2.2.1 : Nat) : Int) = 0 := h'; omega) h
    · show 0 = 0 ∧ q.at' = q.at' ∧ 1 ≤ (((vread q.s q.at').2.2.1 : Nat) : Int) ∧ (((vread q.s q.at').2.2.1 : Nat) : Int) ≤ 31 ∧ 0 ≤ (((vread q.s q.at').2.2.2 : Nat) : Int) ∧ (((vread q.s q.at').2.2.2 : Nat) : Int) ≤ q.s.length
      omega
theorem rwide_err (q : Rdr) (h0 : q.e = 0) : (rwide q).1.e ≠ 0 → (rwide q).2 = 0 ∧ (rwide q).1.at' = q.at' := by
  unfold rwide
  split
  · intro h; exact absurd h0 h
  · intro _; exact ⟨rfl, rfl⟩

/-- A number between two bounds. -/
def rnum (q : Rdr) (least most o : Int) : Rdr × Int :=
  if least < 0 ∨ most < least then (⟨q.s, q.at', 2, q.at'⟩, o)
  else if (rwide q).1.e = 0 ∧ (((rwide q).2 : Int) < least ∨ most < ((rwide q).2 : Int)) then (⟨(rwide q).1.s, (rwide q).1.at', 2, q.at'⟩, o)
  else ((rwide q).1, ((rwide q).2 : Int))

theorem Number1_call (E : Env) (L : List Res) (c0 c1 c2 c3 b : Nat) (q : Rdr) (hq : q.s.length ≤ 1000000000000) (h0 : q.e = 0) (least most o : Int) (hm : most ≤ 9223372036854775807) :
    CallS Try.prog 86 #[.pointer (some ⟨c0, 0, none⟩), .pointer (some ⟨c1, 0, none⟩), .pointer (some ⟨c2, 0, none⟩), .pointer (some ⟨c3, 0, none⟩)] E (RB b q :: PB c0 b :: IB c1 least :: IB c2 most :: IB c3 o :: L)
      (fun _ E' L' => E = E' ∧ L' = RB b (rnum q least most o).1 :: PB c0 b :: IB c1 least :: IB c2 most :: IB c3 (rnum q least most o).2 :: L) := by
  refine CallS.intro (l := [.pointer (some ⟨c0, 0, none⟩), .pointer (some ⟨c1, 0, none⟩), .pointer (some ⟨c2, 0, none⟩), .pointer (some ⟨c3, 0, none⟩)]) _ Try.func86 rfl Try.ntmps86 rfl ?_
  have he := rwide_err q h0
  refine G_seq ?_
  refine G_region ?_
  refine G_val (V_load rfl rfl (Cell.own1 (.tail _ (.head _)))) rfl rfl (.none rfl) ?_
  refine G_val (V_nilCheck rfl rfl) rfl rfl (.none rfl) ?_
  refine G_val (V_fieldAddr rfl rfl (by decide)) rfl rfl (.none rfl) ?_
  refine G_val (V_fieldAddr rfl rfl (by decide)) rfl rfl (.none rfl) ?_
  refine G_val (V_load rfl rfl (Cell.own (.head _) rfl)) rfl rfl (.none rfl) ?_
  refine G_val (V_assign rfl rfl) rfl rfl (.none rfl) ?_
  refine G_end ?_
  refine X_then ?_
  refine G_seq ?_
  refine G_seq ?_
  refine G_region ?_
  refine G_val (V_load rfl rfl (Cell.own1 (.tail _ (.tail _ (.head _))))) rfl rfl (.none rfl) ?_
  refine G_val (V_lss rfl rfl rfl) rfl rfl (.none rfl) ?_
  refine G_val (V_move rfl rfl) rfl rfl (.none rfl) ?_
  apply G_joinOr 4 13 17 rfl
  · intro H1
    dsimp only [List.take]
    simp only [Bool.and_eq_true, Bool.or_eq_true, Bool.not_eq_true', Bool.not_eq_false', Bool.and_eq_false_iff, Bool.or_eq_false_iff, Bool.not_not, decide_eq_true_eq, decide_eq_false_iff_not, ne_eq, Decidable.not_not, Bool.decide_eq_true] at H1
    refine G_stay (.no rfl rfl rfl rfl) rfl rfl ?_
    refine G_stay (.no rfl rfl rfl rfl) rfl rfl ?_
    refine G_stay (.no rfl rfl rfl rfl) rfl rfl ?_
    refine G_val (V_pick_t rfl rfl rfl) rfl rfl (.none rfl) ?_
    refine G_end ?_
    exact JQ_end 4 rfl rfl (by kernel_rfl)
  · intro H2
    dsimp only [List.take]
    simp only [Bool.and_eq_true, Bool.or_eq_true, Bool.not_eq_true', Bool.not_eq_false', Bool.and_eq_false_iff, Bool.or_eq_false_iff, Bool.not_not, decide_eq_true_eq, decide_eq_false_iff_not, ne_eq, Decidable.not_not, Bool.decide_eq_true] at H2
    refine G_val (V_load rfl rfl (Cell.own1 (.tail _ (.tail _ (.head _))))) rfl rfl (.yes rfl rfl rfl rfl) ?_
    refine G_val (V_load rfl rfl (Cell.own1 (.tail _ (.tail _ (.tail _ (.head _)))))) rfl rfl (.yes rfl rfl rfl rfl) ?_
    refine G_val (V_gtr rfl rfl rfl) rfl rfl (.yes rfl rfl rfl rfl) ?_
    refine G_val (V_pick_f rfl rfl rfl) rfl rfl (.none rfl) ?_
    refine G_end ?_
    exact JQ_end 4 rfl rfl (by kernel_rfl)
  dsimp only [List.drop]
  refine G_end ?_
  refine X_then ?_
  refine G_cond rfl (fun H3 => ?_) (fun H3 => ?_)
  · simp only [Bool.and_eq_true, Bool.or_eq_true, Bool.not_eq_true', Bool.not_eq_false', Bool.and_eq_false_iff, Bool.or_eq_false_iff, Bool.not_not, decide_eq_true_eq, decide_eq_false_iff_not, ne_eq, Decidable.not_not, Bool.decide_eq_true] at H3
    refine G_seq ?_
    refine G_region ?_
    refine G_val (V_load rfl rfl (Cell.own1 (.tail _ (.head _)))) rfl rfl (.none rfl) ?_
    refine G_val (V_move rfl rfl) rfl rfl (.none rfl) ?_
    refine G_call (k := 87) (.mk rfl rfl rfl rfl) rfl rfl (.none rfl) (fails_call _ _ _ _ _ _) ?_
    rintro r4 E5 L6 hE7 ⟨rfl, ⟨rfl, rfl⟩⟩
    refine G_end ?_
    refine X_then ?_
    refine G_ret ?_
    refine X_then_ret ?_
    refine G_leaveS (.keep _ (.keep _ (.keep _ (.keep _ (.keep _ (.nil _)))))) (by exact (.nil)) rfl ?_ ?_
    · exact (.refl _)
    exact ⟨(by first | rfl | (simp (discharger := omega) only [resVal, rnum, if_pos, if_neg]; first | done | rfl) | (simp [resVal, rnum, *]; done) | ((try simp only [resVal, rnum]); (repeat' split) <;> first | rfl | (exfalso; omega) | (simp_all; done) | (simp_all; omega))), (by first | rfl | (simp (discharger := omega) only [resVal, rnum, if_pos, if_neg]; first | done | rfl) | (simp [resVal, rnum, *]; done) | ((try simp only [resVal, rnum]); (repeat' split) <;> first | rfl | (exfalso; omega) | (simp_all; done) | (simp_all; omega)))⟩
  simp only [Bool.and_eq_true, Bool.or_eq_true, Bool.not_eq_true', Bool.not_eq_false', Bool.and_eq_false_iff, Bool.or_eq_false_iff, Bool.not_not, decide_eq_true_eq, decide_eq_false_iff_not, ne_eq, Decidable.not_not, Bool.decide_eq_true] at H3
  refine G_skip ?_
  refine X_then ?_
  refine G_seq ?_
  refine G_region ?_
  refine G_val (V_load rfl rfl (Cell.own1 (.tail _ (.head _)))) rfl rfl (.none rfl) ?_
  refine G_call (k := 88) (.mk rfl rfl rfl rfl) rfl rfl (.none rfl) (wide_call _ _ _ _ (by first | assumption | omega | (simp; omega) | (simp; done))) ?_
  rintro r8 E9 L10 hE11 ⟨rfl, ⟨rfl, rfl⟩⟩
  refine G_val (V_assign rfl rfl) rfl rfl (.none rfl) ?_
  refine G_end ?_
  refine X_then ?_
  refine G_seq ?_
  refine G_seq ?_
  refine G_region ?_
  refine G_val (V_load rfl rfl (Cell.own1 (.tail _ (.head _)))) rfl rfl (.none rfl) ?_
  refine G_val (V_nilCheck rfl rfl) rfl rfl (.none rfl) ?_
  refine G_val (V_fieldAddr rfl rfl (by decide)) rfl rfl (.none rfl) ?_
  refine G_val (V_fieldAddr rfl rfl (by decide)) rfl rfl (.none rfl) ?_
  refine G_val (V_fieldAddr rfl rfl (by decide)) rfl rfl (.none rfl) ?_
  refine G_val (V_load rfl rfl (Cell.own (.head _) rfl)) rfl rfl (.none rfl) ?_
  refine G_val (V_eql rfl rfl rfl) rfl rfl (.none rfl) ?_
  refine G_val (V_move rfl rfl) rfl rfl (.none rfl) ?_
  apply G_joinAnd 11 30 41 rfl
  · intro H12
    dsimp only [List.take]
    simp only [Bool.and_eq_true, Bool.or_eq_true, Bool.not_eq_true', Bool.not_eq_false', Bool.and_eq_false_iff, Bool.or_eq_false_iff, Bool.not_not, decide_eq_true_eq, decide_eq_false_iff_not, ne_eq, Decidable.not_not, Bool.decide_eq_true] at H12
    refine G_val (V_move rfl rfl) rfl rfl (.yes rfl rfl rfl rfl) ?_
    refine G_val (V_load rfl rfl (Cell.own1 (.tail _ (.tail _ (.head _))))) rfl rfl (.yes rfl rfl rfl rfl) ?_
    refine G_val (V_conv_u64 rfl rfl (by omega) (by omega)) rfl rfl (.yes rfl rfl rfl rfl) ?_
    refine G_val (V_lss rfl rfl rfl) rfl rfl (.yes rfl rfl rfl rfl) ?_
    refine G_val (V_move rfl rfl) rfl rfl (.yes rfl rfl rfl rfl) ?_
    apply G_joinOr 5 35 40 rfl
    · intro H13
      dsimp only [List.take]
      simp only [Bool.and_eq_true, Bool.or_eq_true, Bool.not_eq_true', Bool.not_eq_false', Bool.and_eq_false_iff, Bool.or_eq_false_iff, Bool.not_not, decide_eq_true_eq, decide_eq_false_iff_not, ne_eq, Decidable.not_not, Bool.decide_eq_true] at H13
      refine G_stay (.no rfl rfl rfl rfl) rfl rfl ?_
      refine G_stay (.no rfl rfl rfl rfl) rfl rfl ?_
      refine G_stay (.no rfl rfl rfl rfl) rfl rfl ?_
      refine G_stay (.no rfl rfl rfl rfl) rfl rfl ?_
      refine G_val (V_pick_t rfl rfl rfl) rfl rfl (.yes rfl rfl rfl rfl) ?_
      refine G_end ?_
      exact JQ_end 5 rfl rfl (by kernel_rfl)
    · intro H14
      dsimp only [List.take]
      simp only [Bool.and_eq_true, Bool.or_eq_true, Bool.not_eq_true', Bool.not_eq_false', Bool.and_eq_false_iff, Bool.or_eq_false_iff, Bool.not_not, decide_eq_true_eq, decide_eq_false_iff_not, ne_eq, Decidable.not_not, Bool.decide_eq_true] at H14
      refine G_val (V_move rfl rfl) rfl rfl (.yes rfl rfl rfl rfl) ?_
      refine G_val (V_load rfl rfl (Cell.own1 (.tail _ (.tail _ (.tail _ (.head _)))))) rfl rfl (.yes rfl rfl rfl rfl) ?_
      refine G_val (V_conv_u64 rfl rfl (by omega) (by omega)) rfl rfl (.yes rfl rfl rfl rfl) ?_
      refine G_val (V_gtr rfl rfl rfl) rfl rfl (.yes rfl rfl rfl rfl) ?_
      refine G_val (V_pick_f rfl rfl rfl) rfl rfl (.yes rfl rfl rfl rfl) ?_
      refine G_end ?_
      exact JQ_end 5 rfl rfl (by kernel_rfl)
    dsimp only [List.drop]
    refine G_val (V_pick_t rfl rfl rfl) rfl rfl (.none rfl) ?_
    refine G_end ?_
    exact JQ_end 7 rfl rfl (by kernel_rfl)
  · intro H15
    dsimp only [List.take]
    simp only [Bool.and_eq_true, Bool.or_eq_true, Bool.not_eq_true', Bool.not_eq_false', Bool.and_eq_false_iff, Bool.or_eq_false_iff, Bool.not_not, decide_eq_true_eq, decide_eq_false_iff_not, ne_eq, Decidable.not_not, Bool.decide_eq_true] at H15
    refine G_stay (.no rfl rfl rfl rfl) rfl rfl ?_
    refine G_stay (.no rfl rfl rfl rfl) rfl rfl ?_
    refine G_stay (.no rfl rfl rfl rfl) rfl rfl ?_
    refine G_stay (.no rfl rfl rfl rfl) rfl rfl ?_
    refine G_stay (.no rfl rfl rfl rfl) rfl rfl ?_
    refine G_stay (.un rfl rfl rfl rfl) rfl rfl ?_
    refine G_stay (.un rfl rfl rfl rfl) rfl rfl ?_
    refine G_stay (.un rfl rfl rfl rfl) rfl rfl ?_
    refine G_stay (.un rfl rfl rfl rfl) rfl rfl ?_
    refine G_stay (.no rfl rfl rfl rfl) rfl rfl ?_
    refine G_val (V_pick_f rfl rfl rfl) rfl rfl (.none rfl) ?_
    refine G_end ?_
    exact JQ_end 11 rfl rfl (by kernel_rfl)
  dsimp only [List.drop]
  refine G_end ?_
  refine X_then ?_
  refine G_cond rfl (fun H16 => ?_) (fun H16 => ?_)
  · simp only [Bool.and_eq_true, Bool.or_eq_true, Bool.not_eq_true', Bool.not_eq_false', Bool.and_eq_false_iff, Bool.or_eq_false_iff, Bool.not_not, decide_eq_true_eq, decide_eq_false_iff_not, ne_eq, Decidable.not_not, Bool.decide_eq_true] at H16
    refine G_seq ?_
    refine G_region ?_
    refine G_val (V_load rfl rfl (Cell.own1 (.tail _ (.head _)))) rfl rfl (.none rfl) ?_
    refine G_val (V_move rfl rfl) rfl rfl (.none rfl) ?_
    refine G_call (k := 87) (.mk rfl rfl rfl rfl) rfl rfl (.none rfl) (fails_call _ _ _ _ _ _) ?_
    rintro r17 E18 L19 hE20 ⟨rfl, ⟨rfl, rfl⟩⟩
    refine G_end ?_
    refine X_then ?_
    refine G_ret ?_
    refine X_then_ret ?_
    refine G_leaveS (.keep _ (.keep _ (.keep _ (.keep _ (.keep _ (.nil _)))))) (by exact (.nil)) rfl ?_ ?_
    · exact (.refl _)
    exact ⟨(by first | rfl | (simp (discharger := omega) only [resVal, rnum, if_pos, if_neg]; first | done | rfl) | (simp [resVal, rnum, *]; done) | ((try simp only [resVal, rnum]); (repeat' split) <;> first | rfl | (exfalso; omega) | (simp_all; done) | (simp_all; omega))), (by first | rfl | (simp (discharger := omega) only [resVal, rnum, if_pos, if_neg]; first | done | rfl) | (simp [resVal, rnum, *]; done) | ((try simp only [resVal, rnum]); (repeat' split) <;> first | rfl | (exfalso; omega) | (simp_all; done) | (simp_all; omega)))⟩
  simp only [Bool.and_eq_true, Bool.or_eq_true, Bool.not_eq_true', Bool.not_eq_false', Bool.and_eq_false_iff, Bool.or_eq_false_iff, Bool.not_not, decide_eq_true_eq, decide_eq_false_iff_not, ne_eq, Decidable.not_not, Bool.decide_eq_true] at H16
  refine G_skip ?_
  refine X_then ?_
  refine G_region ?_
  refine G_val (V_move rfl rfl) rfl rfl (.none rfl) ?_
  refine G_val (V_conv_i64 rfl rfl (by omega) (by omega)) rfl rfl (.none rfl) ?_
  refine G_store1 rfl rfl rfl rfl rfl rfl (.none rfl) (.tail _ (.tail _ (.tail _ (.tail _ (.head _ _ _))))) ?_
  refine G_end ?_
  refine G_leaveS_n (.keep _ (.keep _ (.keep _ (.keep _ (.keep _ (.nil _)))))) (by exact (.nil)) rfl ?_ ?_
  · exact (.refl _)
  exact ⟨(by first | rfl | (simp (discharger := omega) only [resVal, rnum, if_pos, if_neg]; first | done | rfl) | (simp [resVal, rnum, *]; done) | ((try simp only [resVal, rnum]); (repeat' split) <;> first | rfl | (exfalso; omega) | (simp_all; done) | (simp_all; omega))), (by first | rfl | (simp (discharger := omega) only [resVal, rnum, if_pos, if_neg]; first | done | rfl) | (simp [resVal, rnum, *]; done) | ((try simp only [resVal, rnum]); (repeat' split) <;> first | rfl | (exfalso; omega) | (simp_all; done) | (simp_all; omega)))⟩

/-- A number with an upper bound. -/
def rwd (q : Rdr) (most : Nat) : Rdr × Nat :=
  if (rwide q).1.e = 0 ∧ most < (rwide q).2 then (⟨(rwide q).1.s, (rwide q).1.at', 2, q.at'⟩, (rwide q).2) else rwide q
theorem Wide1_call (E : Env) (L : List Res) (c0 c1 c2 b : Nat) (q : Rdr) (hq : q.s.length ≤ 1000000000000) (most o : Nat) :
    CallS Try.prog 97 #[.pointer (some ⟨c0, 0, none⟩), .pointer (some ⟨c1, 0, none⟩), .pointer (some ⟨c2, 0, none⟩)] E (RB b q :: PB c0 b :: UB c1 o :: UB c2 most :: L)
      (fun _ E' L' => E = E' ∧ L' = RB b (rwd q most).1 :: PB c0 b :: UB c1 (rwd q most).2 :: UB c2 most :: L) := by
  refine CallS.intro (l := [.pointer (some ⟨c0, 0, none⟩), .pointer (some ⟨c1, 0, none⟩), .pointer (some ⟨c2, 0, none⟩)]) _ Try.func97 rfl Try.ntmps97 rfl ?_
  refine G_seq ?_
  refine G_region ?_
  refine G_val (V_load rfl rfl (Cell.own1 (.tail _ (.head _)))) rfl rfl (.none rfl) ?_
  refine G_val (V_nilCheck rfl rfl) rfl rfl (.none rfl) ?_
  refine G_val (V_fieldAddr rfl rfl (by decide)) rfl rfl (.none rfl) ?_
  refine G_val (V_fieldAddr rfl rfl (by decide)) rfl rfl (.none rfl) ?_
  refine G_val (V_load rfl rfl (Cell.own (.head _) rfl)) rfl rfl (.none rfl) ?_
  refine G_val (V_assign rfl rfl) rfl rfl (.none rfl) ?_
  refine G_end ?_
  refine X_then ?_
  refine G_seq ?_
  refine G_region ?_
  refine G_val (V_load rfl rfl (Cell.own1 (.tail _ (.head _)))) rfl rfl (.none rfl) ?_
  refine G_call (k := 88) (.mk rfl rfl rfl rfl) rfl rfl (.none rfl) (wide_call _ _ _ _ (by first | assumption | omega | (simp; omega) | (simp; done))) ?_
  rintro r1 E2 L3 hE4 ⟨rfl, ⟨rfl, rfl⟩⟩
  refine G_store1 rfl rfl rfl rfl rfl rfl (.none rfl) (.tail _ (.tail _ (.head _ _ _))) ?_
  refine G_end ?_
  refine X_then ?_
  refine G_seq ?_
  refine G_region ?_
  refine G_val (V_load rfl rfl (Cell.own1 (.tail _ (.head _)))) rfl rfl (.none rfl) ?_
  refine G_val (V_nilCheck rfl rfl) rfl rfl (.none rfl) ?_
  refine G_val (V_fieldAddr rfl rfl (by decide)) rfl rfl (.none rfl) ?_
  refine G_val (V_fieldAddr rfl rfl (by decide)) rfl rfl (.none rfl) ?_
  refine G_val (V_fieldAddr rfl rfl (by decide)) rfl rfl (.none rfl) ?_
  refine G_val (V_load rfl rfl (Cell.own (.head _) rfl)) rfl rfl (.none rfl) ?_
  refine G_val (V_eql rfl rfl rfl) rfl rfl (.none rfl) ?_
  refine G_val (V_move rfl rfl) rfl rfl (.none rfl) ?_
  apply G_joinAnd 4 18 22 rfl
  · intro H5
    dsimp only [List.take]
    simp only [Bool.and_eq_true, Bool.or_eq_true, Bool.not_eq_true', Bool.not_eq_false', Bool.and_eq_false_iff, Bool.or_eq_false_iff, Bool.not_not, decide_eq_true_eq, decide_eq_false_iff_not, ne_eq, Decidable.not_not, Bool.decide_eq_true] at H5
    refine G_val (V_load rfl rfl (Cell.own1 (.tail _ (.tail _ (.head _))))) rfl rfl (.yes rfl rfl rfl rfl) ?_
    refine G_val (V_load rfl rfl (Cell.own1 (.tail _ (.tail _ (.tail _ (.head _)))))) rfl rfl (.yes rfl rfl rfl rfl) ?_
    refine G_val (V_gtr rfl rfl rfl) rfl rfl (.yes rfl rfl rfl rfl) ?_
    refine G_val (V_pick_t rfl rfl rfl) rfl rfl (.none rfl) ?_
    refine G_end ?_
    exact JQ_end 4 rfl rfl (by kernel_rfl)
  · intro H6
    dsimp only [List.take]
    simp only [Bool.and_eq_true, Bool.or_eq_true, Bool.not_eq_true', Bool.not_eq_false', Bool.and_eq_false_iff, Bool.or_eq_false_iff, Bool.not_not, decide_eq_true_eq, decide_eq_false_iff_not, ne_eq, Decidable.not_not, Bool.decide_eq_true] at H6
    refine G_stay (.no rfl rfl rfl rfl) rfl rfl ?_
    refine G_stay (.no rfl rfl rfl rfl) rfl rfl ?_
    refine G_stay (.no rfl rfl rfl rfl) rfl rfl ?_
    refine G_val (V_pick_f rfl rfl rfl) rfl rfl (.none rfl) ?_
    refine G_end ?_
    exact JQ_end 4 rfl rfl (by kernel_rfl)
  dsimp only [List.drop]
  refine G_end ?_
  refine X_then ?_
  refine G_cond rfl (fun H7 => ?_) (fun H7 => ?_)
  · simp only [Bool.and_eq_true, Bool.or_eq_true, Bool.not_eq_true', Bool.not_eq_false', Bool.and_eq_false_iff, Bool.or_eq_false_iff, Bool.not_not, decide_eq_true_eq, decide_eq_false_iff_not, ne_eq, Decidable.not_not, Bool.decide_eq_true] at H7
    refine G_region ?_
    refine G_val (V_load rfl rfl (Cell.own1 (.tail _ (.head _)))) rfl rfl (.none rfl) ?_
    refine G_val (V_move rfl rfl) rfl rfl (.none rfl) ?_
    refine G_call (k := 87) (.mk rfl rfl rfl rfl) rfl rfl (.none rfl) (fails_call _ _ _ _ _ _) ?_
    rintro r8 E9 L10 hE11 ⟨rfl, ⟨rfl, rfl⟩⟩
    refine G_end ?_
    refine G_leaveS_n (.keep _ (.keep _ (.keep _ (.keep _ (.nil _))))) (by exact (.nil)) rfl ?_ ?_
    · exact (.refl _)
    exact ⟨(by first | rfl | (simp (discharger := omega) only [resVal, rwd, if_pos, if_neg]; first | done | rfl) | (simp [resVal, rwd, *]; done) | ((try simp only [resVal, rwd]); (repeat' split) <;> first | rfl | (exfalso; omega) | (simp_all; done) | (simp_all; omega))), (by first | rfl | (simp (discharger := omega) only [resVal, rwd, if_pos, if_neg]; first | done | rfl) | (simp [resVal, rwd, *]; done) | ((try simp only [resVal, rwd]); (repeat' split) <;> first | rfl | (exfalso; omega) | (simp_all; done) | (simp_all; omega)))⟩
  simp only [Bool.and_eq_true, Bool.or_eq_true, Bool.not_eq_true', Bool.not_eq_false', Bool.and_eq_false_iff, Bool.or_eq_false_iff, Bool.not_not, decide_eq_true_eq, decide_eq_false_iff_not, ne_eq, Decidable.not_not, Bool.decide_eq_true] at H7
  refine G_skip ?_
  refine G_leaveS_n (.keep _ (.keep _ (.keep _ (.keep _ (.nil _))))) (by exact (.nil)) rfl ?_ ?_
  · exact (.refl _)
  exact ⟨(by first | rfl | (simp (discharger := omega) only [resVal, rwd, if_pos, if_neg]; first | done | rfl) | (simp [resVal, rwd, *]; done) | ((try simp only [resVal, rwd]); (repeat' split) <;> first | rfl | (exfalso; omega) | (simp_all; done) | (simp_all; omega))), (by first | rfl | (simp (discharger := omega) only [resVal, rwd, if_pos, if_neg]; first | done | rfl) | (simp [resVal, rwd, *]; done) | ((try simp only [resVal, rwd]); (repeat' split) <;> first | rfl | (exfalso; omega) | (simp_all; done) | (simp_all; omega)))⟩

/-- A string of at most so many bytes. -/
def rstr (q : Rdr) (most : Int) (o : List UInt8) : Rdr × List UInt8 :=
  if most < 0 then (⟨q.s, q.at', 2, q.at'⟩, o)
  else if (rwide q).1.e ≠ 0 then ((rwide q).1, o)
  else if most < ((rwide q).2 : Int) then (⟨(rwide q).1.s, (rwide q).1.at', 4, q.at'⟩, o)
  else if 20000 < (rwide q).2 then (⟨(rwide q).1.s, (rwide q).1.at', 5, (rwide q).1.at'⟩, o)
  else rtake (rwide q).1 (rwide q).2
theorem String1_call (E : Env) (L : List Res) (c0 c1 c2 b : Nat) (q : Rdr) (hq : q.s.length ≤ 1000000000000) (h0 : q.e = 0) (hf : q.fa = 0) (ha : 0 ≤ q.at') (hl : q.at' ≤ q.s.length) (most : Int) (hm : most ≤ 9223372036854775807) (o : List UInt8) :
    CallS Try.prog 89 #[.pointer (some ⟨c0, 0, none⟩), .pointer (some ⟨c1, 0, none⟩), .pointer (some ⟨c2, 0, none⟩)] E (RB b q :: PB c0 b :: IB c1 most :: SB c2 o :: L)
      (fun _ E' L' => E = E' ∧ L' = RB b (rstr q most o).1 :: PB c0 b :: IB c1 most :: SB c2 (rstr q most o).2 :: L) := by
  refine CallS.intro (l := [.pointer (some ⟨c0, 0, none⟩), .pointer (some ⟨c1, 0, none⟩), .pointer (some ⟨c2, 0, none⟩)]) _ Try.func89 rfl Try.ntmps89 rfl ?_
  have he := rwide_props q h0 hf ha hl
  have hs := rwide_s q
  have hs' := congrArg List.length hs
  refine G_seq ?_
  refine G_region ?_
  refine G_val (V_load rfl rfl (Cell.own1 (.tail _ (.head _)))) rfl rfl (.none rfl) ?_
  refine G_val (V_nilCheck rfl rfl) rfl rfl (.none rfl) ?_
  refine G_val (V_fieldAddr rfl rfl (by decide)) rfl rfl (.none rfl) ?_
  refine G_val (V_fieldAddr rfl rfl (by decide)) rfl rfl (.none rfl) ?_
  refine G_val (V_load rfl rfl (Cell.own (.head _) rfl)) rfl rfl (.none rfl) ?_
  refine G_val (V_assign rfl rfl) rfl rfl (.none rfl) ?_
  refine G_end ?_
  refine X_then ?_
  refine G_seq ?_
  refine G_seq ?_
  refine G_region ?_
  refine G_val (V_load rfl rfl (Cell.own1 (.tail _ (.tail _ (.head _))))) rfl rfl (.none rfl) ?_
  refine G_val (V_lss rfl rfl rfl) rfl rfl (.none rfl) ?_
  refine G_end ?_
  refine X_then ?_
  refine G_cond rfl (fun H1 => ?_) (fun H1 => ?_)
  · simp only [Bool.and_eq_true, Bool.or_eq_true, Bool.not_eq_true', Bool.not_eq_false', Bool.and_eq_false_iff, Bool.or_eq_false_iff, Bool.not_not, decide_eq_true_eq, decide_eq_false_iff_not, ne_eq, Decidable.not_not, Bool.decide_eq_true] at H1
    refine G_seq ?_
    refine G_region ?_
    refine G_val (V_load rfl rfl (Cell.own1 (.tail _ (.head _)))) rfl rfl (.none rfl) ?_
    refine G_val (V_move rfl rfl) rfl rfl (.none rfl) ?_
    refine G_call (k := 87) (.mk rfl rfl rfl rfl) rfl rfl (.none rfl) (fails_call _ _ _ _ _ _) ?_
    rintro r2 E3 L4 hE5 ⟨rfl, ⟨rfl, rfl⟩⟩
    refine G_end ?_
    refine X_then ?_
    refine G_ret ?_
    refine X_then_ret ?_
    refine G_leaveS (.keep _ (.keep _ (.keep _ (.keep _ (.nil _))))) (by exact (.nil)) rfl ?_ ?_
    · exact (.refl _)
    exact ⟨(by first | rfl | (simp (discharger := omega) only [resVal, rstr, if_pos, if_neg]; first | done | rfl) | (simp [resVal, rstr, *]; done) | ((try simp only [resVal, rstr]); (repeat' split) <;> first | rfl | (exfalso; omega) | (simp_all; done) | (simp_all; omega))), (by first | rfl | (simp (discharger := omega) only [resVal, rstr, if_pos, if_neg]; first | done | rfl) | (simp [resVal, rstr, *]; done) | ((try simp only [resVal, rstr]); (repeat' split) <;> first | rfl | (exfalso; omega) | (simp_all; done) | (simp_all; omega)))⟩
  simp only [Bool.and_eq_true, Bool.or_eq_true, Bool.not_eq_true', Bool.not_eq_false', Bool.and_eq_false_iff, Bool.or_eq_false_iff, Bool.not_not, decide_eq_true_eq, decide_eq_false_iff_not, ne_eq, Decidable.not_not, Bool.decide_eq_true] at H1
  refine G_skip ?_
  refine X_then ?_
  refine G_seq ?_
  refine G_region ?_
  refine G_val (V_load rfl rfl (Cell.own1 (.tail _ (.head _)))) rfl rfl (.none rfl) ?_
  refine G_call (k := 88) (.mk rfl rfl rfl rfl) rfl rfl (.none rfl) (wide_call _ _ _ _ (by first | assumption | omega | (simp; omega) | (simp; done))) ?_
  rintro r6 E7 L8 hE9 ⟨rfl, ⟨rfl, rfl⟩⟩
  refine G_val (V_assign rfl rfl) rfl rfl (.none rfl) ?_
  refine G_end ?_
  refine X_then ?_
  refine G_block ?_
  refine G_seq ?_
  refine G_region ?_
  refine G_val (V_load rfl rfl (Cell.own1 (.tail _ (.head _)))) rfl rfl (.none rfl) ?_
  refine G_val (V_nilCheck rfl rfl) rfl rfl (.none rfl) ?_
  refine G_val (V_fieldAddr rfl rfl (by decide)) rfl rfl (.none rfl) ?_
  refine G_val (V_fieldAddr rfl rfl (by decide)) rfl rfl (.none rfl) ?_
  refine G_val (V_fieldAddr rfl rfl (by decide)) rfl rfl (.none rfl) ?_
  refine G_val (V_load rfl rfl (Cell.own (.head _) rfl)) rfl rfl (.none rfl) ?_
  refine G_val (V_neq rfl rfl rfl) rfl rfl (.none rfl) ?_
  refine G_val (V_assign rfl rfl) rfl rfl (.none rfl) ?_
  refine G_end ?_
  refine X_then ?_
  refine G_cond rfl (fun H10 => ?_) (fun H10 => ?_)
  · simp only [Bool.and_eq_true, Bool.or_eq_true, Bool.not_eq_true', Bool.not_eq_false', Bool.and_eq_false_iff, Bool.or_eq_false_iff, Bool.not_not, decide_eq_true_eq, decide_eq_false_iff_not, ne_eq, Decidable.not_not, Bool.decide_eq_true] at H10
    refine G_skip ?_
    refine X_block ?_
    refine G_leaveS_n (.keep _ (.keep _ (.keep _ (.keep _ (.nil _))))) (by exact (.nil)) rfl ?_ ?_
    · exact (.refl _)
    exact ⟨(by first | rfl | (simp (discharger := omega) only [resVal, rstr, if_pos, if_neg]; first | done | rfl) | (simp [resVal, rstr, *]; done) | ((try simp only [resVal, rstr]); (repeat' split) <;> first | rfl | (exfalso; omega) | (simp_all; done) | (simp_all; omega))), (by first | rfl | (simp (discharger := omega) only [resVal, rstr, if_pos, if_neg]; first | done | rfl) | (simp [resVal, rstr, *]; done) | ((try simp only [resVal, rstr]); (repeat' split) <;> first | rfl | (exfalso; omega) | (simp_all; done) | (simp_all; omega)))⟩
  simp only [Bool.and_eq_true, Bool.or_eq_true, Bool.not_eq_true', Bool.not_eq_false', Bool.and_eq_false_iff, Bool.or_eq_false_iff, Bool.not_not, decide_eq_true_eq, decide_eq_false_iff_not, ne_eq, Decidable.not_not, Bool.decide_eq_true] at H10
  refine G_seq ?_
  refine G_region ?_
  refine G_val (V_move rfl rfl) rfl rfl (.none rfl) ?_
  refine G_val (V_load rfl rfl (Cell.own1 (.tail _ (.tail _ (.head _))))) rfl rfl (.none rfl) ?_
  refine G_val (V_conv_u64 rfl rfl (by omega) (by omega)) rfl rfl (.none rfl) ?_
  refine G_val (V_gtr rfl rfl rfl) rfl rfl (.none rfl) ?_
  refine G_val (V_assign rfl rfl) rfl rfl (.none rfl) ?_
  refine G_end ?_
  refine X_then ?_
  refine G_cond rfl (fun H11 => ?_) (fun H11 => ?_)
  · simp only [Bool.and_eq_true, Bool.or_eq_true, Bool.not_eq_true', Bool.not_eq_false', Bool.and_eq_false_iff, Bool.or_eq_false_iff, Bool.not_not, decide_eq_true_eq, decide_eq_false_iff_not, ne_eq, Decidable.not_not, Bool.decide_eq_true] at H11
    refine G_region ?_
    refine G_val (V_load rfl rfl (Cell.own1 (.tail _ (.head _)))) rfl rfl (.none rfl) ?_
    refine G_val (V_move rfl rfl) rfl rfl (.none rfl) ?_
    refine G_call (k := 87) (.mk rfl rfl rfl rfl) rfl rfl (.none rfl) (fails_call _ _ _ _ _ _) ?_
    rintro r12 E13 L14 hE15 ⟨rfl, ⟨rfl, rfl⟩⟩
    refine G_end ?_
    refine X_block ?_
    refine G_leaveS_n (.keep _ (.keep _ (.keep _ (.keep _ (.nil _))))) (by exact (.nil)) rfl ?_ ?_
    · exact (.refl _)
    exact ⟨(by first | rfl | (simp (discharger := omega) only [resVal, rstr, if_pos, if_neg]; first | done | rfl) | (simp [resVal, rstr, *]; done) | ((try simp only [resVal, rstr]); (repeat' split) <;> first | rfl | (exfalso; omega) | (simp_all; done) | (simp_all; omega))), (by first | rfl | (simp (discharger := omega) only [resVal, rstr, if_pos, if_neg]; first | done | rfl) | (simp [resVal, rstr, *]; done) | ((try simp only [resVal, rstr]); (repeat' split) <;> first | rfl | (exfalso; omega) | (simp_all; done) | (simp_all; omega)))⟩
  simp only [Bool.and_eq_true, Bool.or_eq_true, Bool.not_eq_true', Bool.not_eq_false', Bool.and_eq_false_iff, Bool.or_eq_false_iff, Bool.not_not, decide_eq_true_eq, decide_eq_false_iff_not, ne_eq, Decidable.not_not, Bool.decide_eq_true] at H11
  refine G_seq ?_
  refine G_region ?_
  refine G_val (V_move rfl rfl) rfl rfl (.none rfl) ?_
  refine G_val (V_gtr rfl rfl rfl) rfl rfl (.none rfl) ?_
  refine G_val (V_assign rfl rfl) rfl rfl (.none rfl) ?_
  refine G_end ?_
  refine X_then ?_
  refine G_cond rfl (fun H16 => ?_) (fun H16 => ?_)
  · simp only [Bool.and_eq_true, Bool.or_eq_true, Bool.not_eq_true', Bool.not_eq_false', Bool.and_eq_false_iff, Bool.or_eq_false_iff, Bool.not_not, decide_eq_true_eq, decide_eq_false_iff_not, ne_eq, Decidable.not_not, Bool.decide_eq_true] at H16
    refine G_drawX 6 [(0, 1), (1, 1), (2, 0), (3, 0), (4, 0), (5, 1)] mixed (by kernel_rfl) ?_
    refine F_load rfl (.tail _ (.head _)) (V_load rfl rfl (Cell.own1 (.head _))) rfl rfl (.none rfl) ?_
    refine F_load rfl (.tail _ (.head _)) (V_load rfl rfl (Cell.own1 (.head _))) rfl rfl (.none rfl) ?_
    refine F_pure rfl (fun _ _ => V_nilCheck rfl rfl) rfl rfl (.none rfl) ?_
    refine F_pure rfl (fun _ _ => V_fieldAddr rfl rfl (by decide)) rfl rfl (.none rfl) ?_
    refine F_pure rfl (fun _ _ => V_fieldAddr rfl rfl (by decide)) rfl rfl (.none rfl) ?_
    refine F_load rfl (.head _) (V_load rfl rfl (Cell.own (.head _) rfl)) rfl rfl (.none rfl) ?_
    (refine F_end (.nil _) ?_; dsimp only [List.drop])
    refine G_call (k := 87) (.mk rfl rfl rfl rfl) rfl rfl (.none rfl) (fails_call _ _ _ _ _ _) ?_
    rintro r17 E18 L19 hE20 ⟨rfl, ⟨rfl, rfl⟩⟩
    refine G_end ?_
    refine X_block ?_
    refine G_leaveS_n (.keep _ (.keep _ (.keep _ (.keep _ (.nil _))))) (by exact (.nil)) rfl ?_ ?_
    · exact (.refl _)
    exact ⟨(by first | rfl | (simp (discharger := omega) only [resVal, rstr, if_pos, if_neg]; first | done | rfl) | (simp [resVal, rstr, *]; done) | ((try simp only [resVal, rstr]); (repeat' split) <;> first | rfl | (exfalso; omega) | (simp_all; done) | (simp_all; omega))), (by first | rfl | (simp (discharger := omega) only [resVal, rstr, if_pos, if_neg]; first | done | rfl) | (simp [resVal, rstr, *]; done) | ((try simp only [resVal, rstr]); (repeat' split) <;> first | rfl | (exfalso; omega) | (simp_all; done) | (simp_all; omega)))⟩
  simp only [Bool.and_eq_true, Bool.or_eq_true, Bool.not_eq_true', Bool.not_eq_false', Bool.and_eq_false_iff, Bool.or_eq_false_iff, Bool.not_not, decide_eq_true_eq, decide_eq_false_iff_not, ne_eq, Decidable.not_not, Bool.decide_eq_true] at H16
  refine G_region ?_
  refine G_val (V_load rfl rfl (Cell.own1 (.tail _ (.head _)))) rfl rfl (.none rfl) ?_
  refine G_val (V_move rfl rfl) rfl rfl (.none rfl) ?_
  refine G_val (V_conv_i64 rfl rfl (by omega) (by omega)) rfl rfl (.none rfl) ?_
  refine G_call (k := 90) (.mk rfl rfl rfl rfl) rfl rfl (.none rfl) (take_call _ _ _ _ (by first | assumption | omega | (simp; omega) | (simp; done)) (by first | assumption | omega | (simp; omega) | (simp; done)) (by first | assumption | omega | (simp; omega) | (simp; done)) _ (by first | assumption | omega | (simp; omega) | (simp; done))) ?_
  rintro r21 E22 L23 hE24 ⟨rfl, ⟨rfl, rfl⟩⟩
  refine G_store1 rfl rfl rfl rfl rfl rfl (.none rfl) (.tail _ (.tail _ (.tail _ (.head _ _ _)))) ?_
  refine G_end ?_
  refine X_block ?_
  refine G_leaveS_n (.keep _ (.keep _ (.keep _ (.keep _ (.nil _))))) (by exact (.nil)) rfl ?_ ?_
  · exact (.refl _)
  exact ⟨(by first | rfl | (simp (discharger := omega) only [resVal, rstr, if_pos, if_neg]; first | done | rfl) | (simp [resVal, rstr, *]; done) | ((try simp only [resVal, rstr]); (repeat' split) <;> first | rfl | (exfalso; omega) | (simp_all; done) | (simp_all; omega))), (by first | rfl | (simp (discharger := omega) only [resVal, rstr, if_pos, if_neg]; first | done | rfl) | (simp [resVal, rstr, *]; done) | ((try simp only [resVal, rstr]); (repeat' split) <;> first | rfl | (exfalso; omega) | (simp_all; done) | (simp_all; omega)))⟩

def rfix (q : Rdr) (n : Int) (o : List UInt8) : Rdr × List UInt8 := if n < 0 then (⟨q.s, q.at', 2, q.at'⟩, o) else rtake q n
theorem Fixed1_call (E : Env) (L : List Res) (c0 c1 c2 b : Nat) (q : Rdr) (hq : q.s.length ≤ 1000000000000) (ha : 0 ≤ q.at') (hl : q.at' ≤ q.s.length) (n : Int) (o : List UInt8) :
    CallS Try.prog 94 #[.pointer (some ⟨c0, 0, none⟩), .pointer (some ⟨c1, 0, none⟩), .pointer (some ⟨c2, 0, none⟩)] E (RB b q :: IB c0 n :: PB c1 b :: SB c2 o :: L)
      (fun _ E' L' => E = E' ∧ L' = RB b (rfix q n o).1 :: IB c0 n :: PB c1 b :: SB c2 (rfix q n o).2 :: L) := by
  refine CallS.intro (l := [.pointer (some ⟨c0, 0, none⟩), .pointer (some ⟨c1, 0, none⟩), .pointer (some ⟨c2, 0, none⟩)]) _ Try.func94 rfl Try.ntmps94 rfl ?_
  refine G_seq ?_
  refine G_seq ?_
  refine G_region ?_
  refine G_val (V_load rfl rfl (Cell.own1 (.tail _ (.head _)))) rfl rfl (.none rfl) ?_
  refine G_val (V_lss rfl rfl rfl) rfl rfl (.none rfl) ?_
  refine G_end ?_
  refine X_then ?_
  refine G_cond rfl (fun H1 => ?_) (fun H1 => ?_)
  · simp only [Bool.and_eq_true, Bool.or_eq_true, Bool.not_eq_true', Bool.not_eq_false', Bool.and_eq_false_iff, Bool.or_eq_false_iff, Bool.not_not, decide_eq_true_eq, decide_eq_false_iff_not, ne_eq, Decidable.not_not, Bool.decide_eq_true] at H1
    refine G_seq ?_
    refine G_drawX 6 [(0, 1), (1, 1), (2, 0), (3, 0), (4, 0), (5, 1)] mixed (by kernel_rfl) ?_
    refine F_load rfl (.tail _ (.tail _ (.head _))) (V_load rfl rfl (Cell.own1 (.head _))) rfl rfl (.none rfl) ?_
    refine F_load rfl (.tail _ (.tail _ (.head _))) (V_load rfl rfl (Cell.own1 (.head _))) rfl rfl (.none rfl) ?_
    refine F_pure rfl (fun _ _ => V_nilCheck rfl rfl) rfl rfl (.none rfl) ?_
    refine F_pure rfl (fun _ _ => V_fieldAddr rfl rfl (by decide)) rfl rfl (.none rfl) ?_
    refine F_pure rfl (fun _ _ => V_fieldAddr rfl rfl (by decide)) rfl rfl (.none rfl) ?_
    refine F_load rfl (.head _) (V_load rfl rfl (Cell.own (.head _) rfl)) rfl rfl (.none rfl) ?_
    (refine F_end (.nil _) ?_; dsimp only [List.drop])
    refine G_call (k := 87) (.mk rfl rfl rfl rfl) rfl rfl (.none rfl) (fails_call _ _ _ _ _ _) ?_
    rintro r2 E3 L4 hE5 ⟨rfl, ⟨rfl, rfl⟩⟩
    refine G_end ?_
    refine X_then ?_
    refine G_ret ?_
    refine X_then_ret ?_
    refine G_leaveS (.keep _ (.keep _ (.keep _ (.keep _ (.nil _))))) (by exact (.nil)) rfl ?_ ?_
    · exact (.refl _)
    exact ⟨(by first | rfl | (simp (discharger := omega) only [resVal, rfix, if_pos, if_neg]; first | done | rfl) | (simp [resVal, rfix, *]; done) | ((try simp only [resVal, rfix]); (repeat' split) <;> first | rfl | (exfalso; omega) | (simp_all; done) | (simp_all; omega))), (by first | rfl | (simp (discharger := omega) only [resVal, rfix, if_pos, if_neg]; first | done | rfl) | (simp [resVal, rfix, *]; done) | ((try simp only [resVal, rfix]); (repeat' split) <;> first | rfl | (exfalso; omega) | (simp_all; done) | (simp_all; omega)))⟩
  simp only [Bool.and_eq_true, Bool.or_eq_true, Bool.not_eq_true', Bool.not_eq_false', Bool.and_eq_false_iff, Bool.or_eq_false_iff, Bool.not_not, decide_eq_true_eq, decide_eq_false_iff_not, ne_eq, Decidable.not_not, Bool.decide_eq_true] at H1
  refine G_skip ?_
  refine X_then ?_
  refine G_region ?_
  refine G_val (V_load rfl rfl (Cell.own1 (.tail _ (.tail _ (.head _))))) rfl rfl (.none rfl) ?_
  refine G_val (V_load rfl rfl (Cell.own1 (.tail _ (.head _)))) rfl rfl (.none rfl) ?_
  refine G_call (k := 90) (.mk rfl rfl rfl rfl) rfl rfl (.none rfl) (take_call _ _ _ _ (by first | assumption | omega | (simp; omega) | (simp; done)) (by first | assumption | omega | (simp; omega) | (simp; done)) (by first | assumption | omega | (simp; omega) | (simp; done)) _ (by first | assumption | omega | (simp; omega) | (simp; done))) ?_
  rintro r6 E7 L8 hE9 ⟨rfl, ⟨rfl, rfl⟩⟩
  refine G_store1 rfl rfl rfl rfl rfl rfl (.none rfl) (.tail _ (.tail _ (.tail _ (.head _ _ _)))) ?_
  refine G_end ?_
  refine G_leaveS_n (.keep _ (.keep _ (.keep _ (.keep _ (.nil _))))) (by exact (.nil)) rfl ?_ ?_
  · exact (.refl _)
  exact ⟨(by first | rfl | (simp (discharger := omega) only [resVal, rfix, if_pos, if_neg]; first | done | rfl) | (simp [resVal, rfix, *]; done) | ((try simp only [resVal, rfix]); (repeat' split) <;> first | rfl | (exfalso; omega) | (simp_all; done) | (simp_all; omega))), (by first | rfl | (simp (discharger := omega) only [resVal, rfix, if_pos, if_neg]; first | done | rfl) | (simp [resVal, rfix, *]; done) | ((try simp only [resVal, rfix]); (repeat' split) <;> first | rfl | (exfalso; omega) | (simp_all; done) | (simp_all; omega)))⟩
end Go.Proofs.Ytlkfbokdbfnicaa
