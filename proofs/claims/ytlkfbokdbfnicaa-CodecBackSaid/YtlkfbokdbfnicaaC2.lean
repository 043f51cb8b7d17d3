import Derived.Test.YtlkfbokdbfnicaaSep17
import Derived.Test.YtlkfbokdbfnicaaInst
import Derived.Test.YtlkfbokdbfnicaaC1
set_option linter.unusedSimpArgs false
set_option linter.unusedVariables false
set_option maxHeartbeats 2000000
set_option maxRecDepth 20000
namespace Go.Proofs.Ytlkfbokdbfnicaa
open Go.RowKit

abbrev PB (b c : Nat) : Res := .blk b (.cells #[.pointer (some ⟨c, 0, none⟩)] 93 (0, 0))
abbrev BB (b : Nat) (v : Bool) : Res := .blk b (.cells #[.bool v] 4 (0, 0))
abbrev SB (b : Nat) (v : List UInt8) : Res := .blk b (.cells #[.string (S v)] 9 (0, 0))
abbrev UB (b : Nat) (v : Nat) : Res := .blk b (.cells #[.int .u64 v] 32 (0, 0))

/-- A field is read, or the reader stays where it was. -/
def rback (a : Int) (q : Rdr) : Rdr := if q.e = 0 then q else ⟨q.s, a, q.e, q.fa⟩

theorem field1_call (E : Env) (L : List Res) (c2 c4 c5 b : Nat) (q : Rdr) (v : Bool) (a : Int) :
    CallD Try.prog 107 #[.pointer (some ⟨c2, 0, none⟩), .pointer (some ⟨c4, 0, none⟩), .pointer (some ⟨c5, 0, none⟩)] E (RB b q :: PB c2 b :: BB c4 v :: IB c5 a :: L)
      (fun _ E' L' => E = E' ∧ L' = RB b (rback a q) :: PB c2 b :: BB c4 (decide (q.e = 0)) :: IB c5 a :: L) := by
  refine CallD.intro (l := [.pointer (some ⟨c2, 0, none⟩), .pointer (some ⟨c4, 0, none⟩), .pointer (some ⟨c5, 0, none⟩)]) _ Try.func107 rfl Try.ntmps107 rfl ?_
  refine G_seq ?_
  refine G_region ?_
  refine G_val (V_load rfl rfl (Cell.own1 (.tail _ (.head _)))) rfl rfl (.none rfl) ?_
  refine G_val (V_nilCheck rfl rfl) rfl rfl (.none rfl) ?_
  refine G_val (V_fieldAddr rfl rfl (by decide)) rfl rfl (.none rfl) ?_
  refine G_val (V_fieldAddr rfl rfl (by decide)) rfl rfl (.none rfl) ?_
  refine G_val (V_fieldAddr rfl rfl (by decide)) rfl rfl (.none rfl) ?_
  refine G_val (V_load rfl rfl (Cell.own (.head _) rfl)) rfl rfl (.none rfl) ?_
  refine G_val (V_eql rfl rfl rfl) rfl rfl (.none rfl) ?_
  refine G_store1 rfl rfl rfl rfl rfl rfl (.none rfl) (.tail _ (.tail _ (.head _ _ _))) ?_
  refine G_end ?_
  refine X_then ?_
  refine G_seq ?_
  refine G_region ?_
  refine G_val (V_load rfl rfl (Cell.own1 (.tail _ (.tail _ (.head _))))) rfl rfl (.none rfl) ?_
  refine G_val (V_not rfl rfl) rfl rfl (.none rfl) ?_
  refine G_end ?_
  refine X_then ?_
  refine G_cond rfl (fun H1 => ?_) (fun H1 => ?_)
  · simp only [Bool.and_eq_true, Bool.or_eq_true, Bool.not_eq_true', Bool.not_eq_false', Bool.and_eq_false_iff, Bool.or_eq_false_iff, Bool.not_not, decide_eq_true_eq, decide_eq_false_iff_not, ne_eq, Decidable.not_not, Bool.decide_eq_true] at H1
    refine G_region ?_
    refine G_val (V_load rfl rfl (Cell.own1 (.tail _ (.head _)))) rfl rfl (.none rfl) ?_
    refine G_val (V_load rfl rfl (Cell.own1 (.tail _ (.tail _ (.tail _ (.head _)))))) rfl rfl (.none rfl) ?_
    refine G_val (V_nilCheck rfl rfl) rfl rfl (.none rfl) ?_
    refine G_val (V_fieldAddr rfl rfl (by decide)) rfl rfl (.none rfl) ?_
    refine G_val (V_fieldAddr rfl rfl (by decide)) rfl rfl (.none rfl) ?_
    refine G_storeAt rfl rfl rfl rfl rfl rfl (.none rfl) (.head _ _ _) (Nat.le_of_ble_eq_true rfl) (by simp only [putAll, Nat.zero_add, Nat.reduceAdd, List.setIfInBounds_toArray, List.set_cons_succ, List.set_cons_zero]; rfl) ?_
    refine G_end ?_
    refine G_leaveS_bn (.keep _ (.keep _ (.keep _ (.keep _ (.nil _))))) (by exact (.nil)) rfl ?_ ?_
    · exact (.refl _)
    exact ⟨(by first | rfl | (simp (discharger := omega) only [resVal, rback, if_pos, if_neg]; first | done | rfl) | (simp [resVal, rback, *]; done) | ((try simp only [resVal, rback]); (repeat' split) <;> first | rfl | (exfalso; omega) | (simp_all; done) | (simp_all; omega))), (by first | rfl | (simp (discharger := omega) only [resVal, rback, if_pos, if_neg]; first | done | rfl) | (simp [resVal, rback, *]; done) | ((try simp only [resVal, rback]); (repeat' split) <;> first | rfl | (exfalso; omega) | (simp_all; done) | (simp_all; omega)))⟩
  simp only [Bool.and_eq_true, Bool.or_eq_true, Bool.not_eq_true', Bool.not_eq_false', Bool.and_eq_false_iff, Bool.or_eq_false_iff, Bool.not_not, decide_eq_true_eq, decide_eq_false_iff_not, ne_eq, Decidable.not_not, Bool.decide_eq_true] at H1
  refine G_skip ?_
  refine G_leaveS_bn (.keep _ (.keep _ (.keep _ (.keep _ (.nil _))))) (by exact (.nil)) rfl ?_ ?_
  · exact (.refl _)
  exact ⟨(by first | rfl | (simp (discharger := omega) only [resVal, rback, if_pos, if_neg]; first | done | rfl) | (simp [resVal, rback, *]; done) | ((try simp only [resVal, rback]); (repeat' split) <;> first | rfl | (exfalso; omega) | (simp_all; done) | (simp_all; omega))), (by first | rfl | (simp (discharger := omega) only [resVal, rback, if_pos, if_neg]; first | done | rfl) | (simp [resVal, rback, *]; done) | ((try simp only [resVal, rback]); (repeat' split) <;> first | rfl | (exfalso; omega) | (simp_all; done) | (simp_all; omega)))⟩

theorem perm_m3 (a b c : Res) (l m : List Res) : (l ++ a :: b :: c :: m).Perm (a :: b :: c :: (l ++ m)) :=
  List.perm_middle.trans (.cons _ (List.perm_middle.trans (.cons _ List.perm_middle)))
theorem perm_rev4 (a b c d : Res) (l : List Res) : (a :: b :: c :: d :: l).Perm (d :: c :: b :: a :: l) := by
  have := (List.reverse_perm [d, c, b, a]).append_right l
  simpa using this

theorem field_no (E : Env) (L : List Res) (b : Nat) (q : Rdr) (h : q.e ≠ 0) (k : FuncId) (caps : List Value) :
    CallS Try.prog 85 #[.pointer (some ⟨b, 0, none⟩), .func (.func k) #[] caps.toArray] E (RB b q :: L) (fun r E' L' => E = E' ∧ r = .bool false ∧ L' = RB b q :: L) := by
  refine CallS.intro (l := [.pointer (some ⟨b, 0, none⟩), .func (.func k) #[] caps.toArray]) _ Try.func85 rfl Try.ntmps85 rfl ?_
  refine G_seq ?_
  refine G_region ?_
  (refine G_box1 rfl rfl rfl rfl rfl (.none rfl) ?_; intro b2)
  (refine G_alloc rfl rfl rfl (.none rfl) ?_; intro b4)
  refine G_end ?_
  refine X_then ?_
  refine G_seq ?_
  refine G_seq ?_
  refine G_region ?_
  refine G_val (V_load rfl rfl (Cell.own1 (.tail _ (.head _)))) rfl rfl (.none rfl) ?_
  refine G_val (V_nilCheck rfl rfl) rfl rfl (.none rfl) ?_
  refine G_val (V_fieldAddr rfl rfl (by decide)) rfl rfl (.none rfl) ?_
  refine G_val (V_fieldAddr rfl rfl (by decide)) rfl rfl (.none rfl) ?_
  refine G_val (V_fieldAddr rfl rfl (by decide)) rfl rfl (.none rfl) ?_
  refine G_val (V_load rfl rfl (Cell.own (.tail _ (.tail _ (.head _))) rfl)) rfl rfl (.none rfl) ?_
  refine G_val (V_neq rfl rfl rfl) rfl rfl (.none rfl) ?_
  refine G_end ?_
  refine X_then ?_
  refine G_cond_t rfl (decide_eq_true (by omega)) ?_
  refine G_seq ?_
  refine G_region ?_
  refine G_store1 rfl rfl rfl rfl rfl rfl (.none rfl) (.head _ _ _) ?_
  refine G_end ?_
  refine X_then ?_
  refine G_ret ?_
  refine X_then_ret ?_
  refine G_leaveS (.drop _ (.drop _ (.keep _ (.nil _)))) (by exact (.cons (.cell1 rfl (Cell.own1 (.head _))) (.nil))) rfl ?_ ?_
  · exact (.refl _)
  exact ⟨rfl, ⟨rfl, rfl⟩⟩
theorem field_yes (E : Env) (L Lr : List Res) (b : Nat) (q : Rdr) (h : q.e = 0) (k : FuncId) [Ent Try.prog k] (caps : List Value) (q' : Rdr) {ι : Type} (Lr' : ι → List Res)
    (hread : ∀ M, CallS Try.prog k caps.toArray E (RB b q :: (Lr ++ M)) (fun r E' L' => E = E' ∧ ∃ x, L' = RB b q' :: (Lr' x ++ M))) :
    CallS Try.prog 85 #[.pointer (some ⟨b, 0, none⟩), .func (.func k) #[] caps.toArray] E (RB b q :: (Lr ++ L))
      (fun r E' L' => ∃ x, E = E' ∧ r = .bool (decide (q'.e = 0)) ∧ L' = RB b (rback q.at' q') :: (Lr' x ++ L)) := by
  refine CallS.intro (l := [.pointer (some ⟨b, 0, none⟩), .func (.func k) #[] caps.toArray]) _ Try.func85 rfl Try.ntmps85 rfl ?_
  refine G_seq ?_
  refine G_region ?_
  (refine G_box1 rfl rfl rfl rfl rfl (.none rfl) ?_; intro b2)
  (refine G_alloc rfl rfl rfl (.none rfl) ?_; intro b4)
  refine G_end ?_
  refine X_then ?_
  refine G_seq ?_
  refine G_seq ?_
  refine G_region ?_
  refine G_val (V_load rfl rfl (Cell.own1 (.tail _ (.head _)))) rfl rfl (.none rfl) ?_
  refine G_val (V_nilCheck rfl rfl) rfl rfl (.none rfl) ?_
  refine G_val (V_fieldAddr rfl rfl (by decide)) rfl rfl (.none rfl) ?_
  refine G_val (V_fieldAddr rfl rfl (by decide)) rfl rfl (.none rfl) ?_
  refine G_val (V_fieldAddr rfl rfl (by decide)) rfl rfl (.none rfl) ?_
  refine G_val (V_load rfl rfl (Cell.own (.tail _ (.tail _ (.head _))) rfl)) rfl rfl (.none rfl) ?_
  refine G_val (V_neq rfl rfl rfl) rfl rfl (.none rfl) ?_
  refine G_end ?_
  refine X_then ?_
  refine G_cond_f rfl (decide_eq_false (by omega)) ?_
  refine G_skip ?_
  refine X_then ?_
  refine G_seq ?_
  refine G_region ?_
  refine G_val (V_load rfl rfl (Cell.own1 (.tail _ (.head _)))) rfl rfl (.none rfl) ?_
  refine G_val (V_nilCheck rfl rfl) rfl rfl (.none rfl) ?_
  refine G_val (V_fieldAddr rfl rfl (by decide)) rfl rfl (.none rfl) ?_
  refine G_val (V_fieldAddr rfl rfl (by decide)) rfl rfl (.none rfl) ?_
  refine G_val (V_load rfl rfl (Cell.own (.tail _ (.tail _ (.head _))) rfl)) rfl rfl (.none rfl) ?_
  (refine G_alloc rfl rfl rfl (.none rfl) ?_; intro b5)
  refine G_store1 rfl rfl rfl rfl rfl rfl (.none rfl) (.head _ _ _) ?_
  refine G_end ?_
  refine X_then ?_
  refine G_seq ?_
  refine G_region ?_
  refine G_val (V_makeFunc rfl rfl rfl) rfl rfl (.none rfl) ?_
  refine G_defer rfl rfl rfl (.none rfl) rfl ?_
  refine G_end ?_
  refine X_then ?_
  refine G_seq ?_
  refine G_region ?_
  refine G_val (V_move rfl rfl) rfl rfl (.none rfl) ?_
  refine G_call (k := k) (args := caps.toArray) (.mk rfl rfl rfl (by simp)) rfl rfl (.none rfl) (CallS.perm ?_ (hread (PB b2 b :: BB b4 false :: IB b5 q.at' :: L))) ?_
  · exact (perm_rev4 _ _ _ _ _).trans (.cons _ (perm_m3 _ _ _ _ _).symm)
  · rintro r E' L' hE ⟨rfl, x, rfl⟩
    refine G.perm _ (.cons _ (perm_m3 _ _ _ _ _)) ?_
    refine G_end ?_
    refine X_then ?_
    refine G_ret ?_
    refine G_leave_dn (k := 107) (field1_call _ _ _ _ _ _ _ _ _) ?_
    rintro r E' L' hE ⟨rfl, rfl⟩
    refine G_leaveS (.keep _ (.drop _ (.drop _ (.drop _ (.nil _))))) (by exact (.cons (.cell1 rfl (Cell.own1 (.tail _ (.tail _ (.head _))))) (.nil))) rfl ?_ ?_
    · exact (.refl _)
    exact ⟨_, ⟨rfl, ⟨rfl, rfl⟩⟩⟩
end Go.Proofs.Ytlkfbokdbfnicaa
