import Derived.Test.YtlkfbokdbfnicaaSep17
import Derived.Test.YtlkfbokdbfnicaaInst
import Derived.Test.YtlkfbokdbfnicaaC4
set_option linter.unusedSimpArgs false
set_option linter.unusedVariables false
set_option maxHeartbeats 2000000
set_option maxRecDepth 20000
namespace Go.Proofs.Ytlkfbokdbfnicaa
open Go.RowKit

def i64s (l : List Int) : List Value := l.map fun n => .int .i64 n
theorem i64s_get {l : List Int} {k : Nat} {n : Int} (h : l[k]? = some n) : (i64s l)[k]? = some (.int .i64 n) := by simp [i64s, h]
abbrev LB (c : Nat) (a : Option Addr) (n cap : Nat) : Res := .blk c (.cells #[.slice a n cap] 34 (0, 0))

/-- One number of a list. -/
def rone (q : Rdr) (least most : Int) : Rdr × Int :=
  if (rwide q).1.e = 0 ∧ (unzig (rwide q).2 < least ∨ most < unzig (rwide q).2) then (⟨(rwide q).1.s, (rwide q).1.at', 2, q.at'⟩, unzig (rwide q).2) else ((rwide q).1, unzig (rwide q).2)

theorem Ints11_call (E : Env) (L : List Res) (c0 c1 c2 c3 b : Nat) (q : Rdr) (hq : q.s.length ≤ 1000000000000) (h0 : q.e = 0) (hf : q.fa = 0) (ha : 0 ≤ q.at') (hl : q.at' ≤ q.s.length) (least most : Int) (p : Option Addr) (cap : Nat) (xs : List Int) (hx : xs.length ≤ 1000000000) :
    CallS Try.prog 92 #[.pointer (some ⟨c0, 0, none⟩), .pointer (some ⟨c1, 0, none⟩), .pointer (some ⟨c2, 0, none⟩), .pointer (some ⟨c3, 0, none⟩)] E
      (RB b q :: PB c0 b :: IB c1 least :: IB c2 most :: LB c3 p xs.length cap :: .sl 3 1 p xs.length cap (i64s xs) :: L)
      (fun r E' L' => ∃ p' cap', r = .bool (decide ((rone q least most).1.e = 0)) ∧ E = E' ∧ L' = RB b (rone q least most).1 :: PB c0 b :: IB c1 least :: IB c2 most :: LB c3 p' (xs.length + 1) cap' :: .sl 3 1 p' (xs.length + 1) cap' (i64s xs ++ [.int .i64 (rone q least most).2]) :: L) := by
  refine CallS.intro (l := [.pointer (some ⟨c0, 0, none⟩), .pointer (some ⟨c1, 0, none⟩), .pointer (some ⟨c2, 0, none⟩), .pointer (some ⟨c3, 0, none⟩)]) _ Try.func92 rfl Try.ntmps92 rfl ?_
  have he := rwide_props q h0 hf ha hl
  refine G_seq ?_
  refine G_region ?_
  refine G_val (V_assign rfl rfl) rfl rfl (.none rfl) ?_
  refine G_end ?_
  refine X_then ?_
  refine G_seq ?_
  refine G_region ?_
  refine G_val (V_load rfl rfl (Cell.own1 (.tail _ (.head _)))) rfl rfl (.none rfl) ?_
  refine G_val (V_nilCheck rfl rfl) rfl rfl (.none rfl) ?_
  refine G_val (V_fieldAddr rfl rfl (by decide)) rfl rfl (.none rfl) ?_
  refine G_val (V_fieldAddr rfl rfl (by decide)) rfl rfl (.none rfl) ?_
  refine G_val (V_load rfl rfl (Cell.own (.head _) rfl)) rfl rfl (.none rfl) ?_
  refine G_val (V_assign rfl rfl) rfl rfl (.none rfl) ?_
  refine G_end ?_
  refine X_then ?_
  refine G_seq ?_
  refine G_region ?_
  refine G_val (V_load rfl rfl (Cell.own1 (.tail _ (.head _)))) rfl rfl (.none rfl) ?_
  refine G_call (k := 88) (.mk rfl rfl rfl rfl) rfl rfl (.none rfl) (wide_call _ _ _ _ (by first | assumption | omega | (simp; omega) | (simp; done))) ?_
  rintro r1 E2 L3 hE4 ⟨rfl, ⟨rfl, rfl⟩⟩
  refine G_callv (k := 93) (.mk rfl rfl rfl rfl) rfl rfl (.none rfl) (Unzigzag_call _ _ _ (by first | assumption | omega | (simp; omega) | (simp; done))) ?_
  refine G_val (V_assign rfl rfl) rfl rfl (.none rfl) ?_
  refine G_end ?_
  refine X_then ?_
  refine G_seq ?_
  refine G_seq ?_
  refine G_region ?_
  refine G_val (V_load rfl rfl (Cell.own1 (.tail _ (.head _)))) rfl rfl (.none rfl) ?_
  refine G_val (V_nilCheck rfl rfl) rfl rfl (.none rfl) ?_
  refine G_val (V_fieldAddr rfl rfl (by decide)) rfl rfl (.none rfl) ?_
  refine G_val (V_fieldAddr rfl rfl (by decide)) rfl rfl (.none rfl) ?_
  refine G_val (V_fieldAddr rfl rfl (by decide)) rfl rfl (.none rfl) ?_
  refine G_val (V_load rfl rfl (Cell.own (.head _) rfl)) rfl rfl (.none rfl) ?_
  refine G_val (V_eql rfl rfl rfl) rfl rfl (.none rfl) ?_
  refine G_val (V_move rfl rfl) rfl rfl (.none rfl) ?_
  apply G_joinAnd 9 22 31 rfl
  · intro H5
    dsimp only [List.take]
    simp only [Bool.and_eq_true, Bool.or_eq_true, Bool.not_eq_true', Bool.not_eq_false', Bool.and_eq_false_iff, Bool.or_eq_false_iff, Bool.not_not, decide_eq_true_eq, decide_eq_false_iff_not, ne_eq, Decidable.not_not, Bool.decide_eq_true] at H5
    refine G_val (V_move rfl rfl) rfl rfl (.yes rfl rfl rfl rfl) ?_
    refine G_val (V_load rfl rfl (Cell.own1 (.tail _ (.tail _ (.head _))))) rfl rfl (.yes rfl rfl rfl rfl) ?_
    refine G_val (V_lss rfl rfl rfl) rfl rfl (.yes rfl rfl rfl rfl) ?_
    refine G_val (V_move rfl rfl) rfl rfl (.yes rfl rfl rfl rfl) ?_
    apply G_joinOr 4 26 30 rfl
    · intro H6
      dsimp only [List.take]
      simp only [Bool.and_eq_true, Bool.or_eq_true, Bool.not_eq_true', Bool.not_eq_false', Bool.and_eq_false_iff, Bool.or_eq_false_iff, Bool.not_not, decide_eq_true_eq, decide_eq_false_iff_not, ne_eq, Decidable.not_not, Bool.decide_eq_true] at H6
      refine G_stay (.no rfl rfl rfl rfl) rfl rfl ?_
      refine G_stay (.no rfl rfl rfl rfl) rfl rfl ?_
      refine G_stay (.no rfl rfl rfl rfl) rfl rfl ?_
      refine G_val (V_pick_t rfl rfl rfl) rfl rfl (.yes rfl rfl rfl rfl) ?_
      refine G_end ?_
      exact JQ_end 4 rfl rfl (by kernel_rfl)
    · intro H7
      dsimp only [List.take]
      simp only [Bool.and_eq_true, Bool.or_eq_true, Bool.not_eq_true', Bool.not_eq_false', Bool.and_eq_false_iff, Bool.or_eq_false_iff, Bool.not_not, decide_eq_true_eq, decide_eq_false_iff_not, ne_eq, Decidable.not_not, Bool.decide_eq_true] at H7
      refine G_val (V_move rfl rfl) rfl rfl (.yes rfl rfl rfl rfl) ?_
      refine G_val (V_load rfl rfl (Cell.own1 (.tail _ (.tail _ (.tail _ (.head _)))))) rfl rfl (.yes rfl rfl rfl rfl) ?_
      refine G_val (V_gtr rfl rfl rfl) rfl rfl (.yes rfl rfl rfl rfl) ?_
      refine G_val (V_pick_f rfl rfl rfl) rfl rfl (.yes rfl rfl rfl rfl) ?_
      refine G_end ?_
      exact JQ_end 4 rfl rfl (by kernel_rfl)
    dsimp only [List.drop]
    refine G_val (V_pick_t rfl rfl rfl) rfl rfl (.none rfl) ?_
    refine G_end ?_
    exact JQ_end 6 rfl rfl (by kernel_rfl)
  · intro H8
    dsimp only [List.take]
    simp only [Bool.and_eq_true, Bool.or_eq_true, Bool.not_eq_true', Bool.not_eq_false', Bool.and_eq_false_iff, Bool.or_eq_false_iff, Bool.not_not, decide_eq_true_eq, decide_eq_false_iff_not, ne_eq, Decidable.not_not, Bool.decide_eq_true] at H8
    refine G_stay (.no rfl rfl rfl rfl) rfl rfl ?_
    refine G_stay (.no rfl rfl rfl rfl) rfl rfl ?_
    refine G_stay (.no rfl rfl rfl rfl) rfl rfl ?_
    refine G_stay (.no rfl rfl rfl rfl) rfl rfl ?_
    refine G_stay (.un rfl rfl rfl rfl) rfl rfl ?_
    refine G_stay (.un rfl rfl rfl rfl) rfl rfl ?_
    refine G_stay (.un rfl rfl rfl rfl) rfl rfl ?_
    refine G_stay (.no rfl rfl rfl rfl) rfl rfl ?_
    refine G_val (V_pick_f rfl rfl rfl) rfl rfl (.none rfl) ?_
    refine G_end ?_
    exact JQ_end 9 rfl rfl (by kernel_rfl)
  dsimp only [List.drop]
  refine G_end ?_
  refine X_then ?_
  refine G_cond rfl (fun H9 => ?_) (fun H9 => ?_)
  · simp only [Bool.and_eq_true, Bool.or_eq_true, Bool.not_eq_true', Bool.not_eq_false', Bool.and_eq_false_iff, Bool.or_eq_false_iff, Bool.not_not, decide_eq_true_eq, decide_eq_false_iff_not, ne_eq, Decidable.not_not, Bool.decide_eq_true] at H9
    refine G_region ?_
    refine G_val (V_load rfl rfl (Cell.own1 (.tail _ (.head _)))) rfl rfl (.none rfl) ?_
    refine G_val (V_move rfl rfl) rfl rfl (.none rfl) ?_
    refine G_call (k := 87) (.mk rfl rfl rfl rfl) rfl rfl (.none rfl) (fails_call _ _ _ _ _ _) ?_
    rintro r10 E11 L12 hE13 ⟨rfl, ⟨rfl, rfl⟩⟩
    refine G_end ?_
    refine X_then ?_
    refine G_seq ?_
    refine G_region ?_
    refine G_val (V_load rfl rfl (Cell.own1 (.tail _ (.tail _ (.tail _ (.tail _ (.head _))))))) rfl rfl (.none rfl) ?_
    refine G_val (V_move rfl rfl) rfl rfl (.none rfl) ?_
    (refine G_lit1 rfl rfl rfl rfl rfl (.none rfl) ?_; intro b37)
    (refine G_append rfl rfl rfl (Rd.lit (.head _) rfl) (by simp [Value.oneCell']) (by omega) (by omega) rfl rfl (.none rfl) (fun _ _ => (.tail _ (.tail _ (.tail _ (.tail _ (.tail _ (.tail _ (.head _ _ _)))))))) ?_; intro a38 c38; refine G.rm (.head _ _) ?_)
    refine G_store1 rfl rfl rfl rfl rfl rfl (.none rfl) (.tail _ (.tail _ (.tail _ (.tail _ (.head _ _ _))))) ?_
    refine G_end ?_
    refine X_then ?_
    refine G_seq ?_
    refine G_region ?_
    refine G_val (V_load rfl rfl (Cell.own1 (.tail _ (.head _)))) rfl rfl (.none rfl) ?_
    refine G_val (V_nilCheck rfl rfl) rfl rfl (.none rfl) ?_
    refine G_val (V_fieldAddr rfl rfl (by decide)) rfl rfl (.none rfl) ?_
    refine G_val (V_fieldAddr rfl rfl (by decide)) rfl rfl (.none rfl) ?_
    refine G_val (V_fieldAddr rfl rfl (by decide)) rfl rfl (.none rfl) ?_
    refine G_val (V_load rfl rfl (Cell.own (.head _) rfl)) rfl rfl (.none rfl) ?_
    refine G_val (V_eql rfl rfl rfl) rfl rfl (.none rfl) ?_
    refine G_val (V_assign rfl rfl) rfl rfl (.none rfl) ?_
    refine G_end ?_
    refine X_then ?_
    refine G_ret ?_
    refine G_leaveS (.keep _ (.keep _ (.keep _ (.keep _ (.keep _ (.keep _ (.nil _))))))) (by exact (.cons (.tmp rfl) (.nil))) rfl ?_ ?_
    · exact (.refl _)
    exact ⟨_, ⟨_, ⟨(by first | rfl | (simp (discharger := omega) only [resVal, rone, if_pos, if_neg]; first | done | rfl) | (simp [resVal, rone, *]; done) | ((try simp only [resVal, rone]); (repeat' split) <;> first | rfl | (exfalso; omega) | (simp_all; done) | (simp_all; omega))), ⟨(by first | rfl | (simp (discharger := omega) only [resVal, rone, if_pos, if_neg]; first | done | rfl) | (simp [resVal, rone, *]; done) | ((try simp only [resVal, rone]); (repeat' split) <;> first | rfl | (exfalso; omega) | (simp_all; done) | (simp_all; omega))), (by first | rfl | (simp (discharger := omega) only [resVal, rone, if_pos, if_neg]; first | done | rfl) | (simp [resVal, rone, *]; done) | ((try simp only [resVal, rone]); (repeat' split) <;> first | rfl | (exfalso; omega) | (simp_all; done) | (simp_all; omega)))⟩⟩⟩⟩
  simp only [Bool.and_eq_true, Bool.or_eq_true, Bool.not_eq_true', Bool.not_eq_false', Bool.and_eq_false_iff, Bool.or_eq_false_iff, Bool.not_not, decide_eq_true_eq, decide_eq_false_iff_not, ne_eq, Decidable.not_not, Bool.decide_eq_true] at H9
  refine G_skip ?_
  refine X_then ?_
  refine G_seq ?_
  refine G_region ?_
  refine G_val (V_load rfl rfl (Cell.own1 (.tail _ (.tail _ (.tail _ (.tail _ (.head _))))))) rfl rfl (.none rfl) ?_
  refine G_val (V_move rfl rfl) rfl rfl (.none rfl) ?_
  (refine G_lit1 rfl rfl rfl rfl rfl (.none rfl) ?_; intro b37)
  (refine G_append rfl rfl rfl (Rd.lit (.head _) rfl) (by simp [Value.oneCell']) (by omega) (by omega) rfl rfl (.none rfl) (fun _ _ => (.tail _ (.tail _ (.tail _ (.tail _ (.tail _ (.tail _ (.head _ _ _)))))))) ?_; intro a38 c38; refine G.rm (.head _ _) ?_)
  refine G_store1 rfl rfl rfl rfl rfl rfl (.none rfl) (.tail _ (.tail _ (.tail _ (.tail _ (.head _ _ _))))) ?_
  refine G_end ?_
  refine X_then ?_
  refine G_seq ?_
  refine G_region ?_
  refine G_val (V_load rfl rfl (Cell.own1 (.tail _ (.head _)))) rfl rfl (.none rfl) ?_
  refine G_val (V_nilCheck rfl rfl) rfl rfl (.none rfl) ?_
  refine G_val (V_fieldAddr rfl rfl (by decide)) rfl rfl (.none rfl) ?_
  refine G_val (V_fieldAddr rfl rfl (by decide)) rfl rfl (.none rfl) ?_
  refine G_val (V_fieldAddr rfl rfl (by decide)) rfl rfl (.none rfl) ?_
  refine G_val (V_load rfl rfl (Cell.own (.head _) rfl)) rfl rfl (.none rfl) ?_
  refine G_val (V_eql rfl rfl rfl) rfl rfl (.none rfl) ?_
  refine G_val (V_assign rfl rfl) rfl rfl (.none rfl) ?_
  refine G_end ?_
  refine X_then ?_
  refine G_ret ?_
  refine G_leaveS (.keep _ (.keep _ (.keep _ (.keep _ (.keep _ (.keep _ (.nil _))))))) (by exact (.cons (.tmp rfl) (.nil))) rfl ?_ ?_
  · exact (.refl _)
  exact ⟨_, ⟨_, ⟨(by first | rfl | (simp (discharger := omega) only [resVal, rone, if_pos, if_neg]; first | done | rfl) | (simp [resVal, rone, *]; done) | ((try simp only [resVal, rone]); (repeat' split) <;> first | rfl | (exfalso; omega) | (simp_all; done) | (simp_all; omega))), ⟨(by first | rfl | (simp (discharger := omega) only [resVal, rone, if_pos, if_neg]; first | done | rfl) | (simp [resVal, rone, *]; done) | ((try simp only [resVal, rone]); (repeat' split) <;> first | rfl | (exfalso; omega) | (simp_all; done) | (simp_all; omega))), (by first | rfl | (simp (discharger := omega) only [resVal, rone, if_pos, if_neg]; first | done | rfl) | (simp [resVal, rone, *]; done) | ((try simp only [resVal, rone]); (repeat' split) <;> first | rfl | (exfalso; omega) | (simp_all; done) | (simp_all; omega)))⟩⟩⟩⟩

def rintsK (least most : Int) : Nat → Rdr → List Int → Rdr × List Int
  | 0, q, out => (q, out)
  | k + 1, q, out => if (rone q least most).1.e = 0 then rintsK least most k (rone q least most).1 (out ++ [(rone q least most).2]) else ((rone q least most).1, out ++ [(rone q least most).2])
/-- A list of numbers. -/
def rints (q : Rdr) (most least great : Int) : Rdr × List Int :=
  if most < 0 ∨ great < least then (⟨q.s, q.at', 2, q.at'⟩, [])
  else if (rwide q).1.e ≠ 0 then ((rwide q).1, [])
  else if most < ((rwide q).2 : Int) then (⟨(rwide q).1.s, (rwide q).1.at', 4, q.at'⟩, [])
  else rintsK least great (rwide q).2 (rwide q).1 []
theorem rone_props (q : Rdr) (h0 : q.e = 0) (hf : q.fa = 0) (ha : 0 ≤ q.at') (hl : q.at' ≤ q.s.length) (least most : Int) :
    (rone q least most).1.s = q.s ∧ ((rone q least most).1.e = 0 → q.at' < (rone q least most).1.at' ∧ (rone q least most).1.at' ≤ q.s.length ∧ (rone q least most).1.fa = 0) ∧
    ((rone q least most).1.e ≠ 0 → 1 ≤ (rone q least most).1.e ∧ (rone q least most).1.e ≤ 31 ∧ 0 ≤ (rone q least most).1.fa ∧ (rone q least most).1.fa ≤ q.s.length) := by
  obtain ⟨h1, h2⟩ := rwide_props q h0 hf ha hl
  have h3 := rwide_s q
  unfold rone
  split
  · rename_i h
    refine ⟨h3, fun h => absurd (show (2 : Int) = 0 from h) (by decide), fun _ => ?_⟩
    show (1 : Int) ≤ 2 ∧ (2 : Int) ≤ 31 ∧ 0 ≤ q.at' ∧ q.at' ≤ _
    omega
  · refine ⟨h3, fun h => ?_, fun h => ?_⟩
    · have := h1 h; exact ⟨this.1, this.2.1, this.2.2.1⟩
    · have := h2 h; exact this.2.2

end Go.Proofs.Ytlkfbokdbfnicaa
