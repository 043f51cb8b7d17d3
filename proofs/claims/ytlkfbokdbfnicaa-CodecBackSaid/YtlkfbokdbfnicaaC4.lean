import Derived.Test.YtlkfbokdbfnicaaSep17
import Derived.Test.YtlkfbokdbfnicaaInst
import Derived.Test.YtlkfbokdbfnicaaC3
set_option linter.unusedSimpArgs false
set_option linter.unusedVariables false
set_option maxHeartbeats 2000000
set_option maxRecDepth 20000
namespace Go.Proofs.Ytlkfbokdbfnicaa
open Go.RowKit

/-- A field of a reader as it counts. -/
def rfield {α : Type} (q : Rdr) (f : Rdr × α) (z : α) : Rdr × α := if q.e = 0 then (rback q.at' f.1, if f.1.e = 0 then f.2 else z) else (q, z)
theorem rback_e (a : Int) (q : Rdr) : (rback a q).e = q.e := by unfold rback; split <;> rfl

theorem Number_call (E : Env) (L : List Res) (s : List UInt8) (hs : s.length ≤ 1000000000000) (a e f : Int) (least most : Int) (hm : most ≤ 9223372036854775807) :
    CallV Try.prog 51 #[.agg #[.string (S s), .int .i64 a, .int .i64 e, .int .i64 f], .int .i64 least, .int .i64 most] E L (.tuple #[(rfield (rbegin ⟨s, a, e, f⟩) (rnum (rbegin ⟨s, a, e, f⟩) least most 0) 0).1.v, .int .i64 (rfield (rbegin ⟨s, a, e, f⟩) (rnum (rbegin ⟨s, a, e, f⟩) least most 0) 0).2]) := by
  refine CallS.toV (CallS.intro (l := [.agg #[.string (S s), .int .i64 a, .int .i64 e, .int .i64 f], .int .i64 least, .int .i64 most]) _ Try.func51 rfl Try.ntmps51 rfl ?_)
  have hok := rbegin_ok ⟨s, a, e, f⟩
  refine G_seq ?_
  refine G_region ?_
  (refine G_boxA rfl rfl rfl rfl (.none rfl) ?_; intro b3)
  (refine G_box1 rfl rfl rfl rfl rfl (.none rfl) ?_; intro b4)
  (refine G_box1 rfl rfl rfl rfl rfl (.none rfl) ?_; intro b5)
  (refine G_alloc rfl rfl rfl (.none rfl) ?_; intro b6)
  refine G_val (V_assign rfl rfl) rfl rfl (.none rfl) ?_
  refine G_end ?_
  refine X_then ?_
  refine G_seq ?_
  refine G_region ?_
  refine G_val (V_loadA rfl rfl (Cells.own (.tail _ (.tail _ (.tail _ (.head _))))) rfl) rfl rfl (.none rfl) ?_
  refine G_call (k := 68) (.mk rfl rfl rfl rfl) rfl rfl (.none rfl) (begin_call _ _ _ (by first | assumption | omega | (simp; omega) | (simp; done)) _ _ _) ?_
  rintro r1 E2 L3 hE4 ⟨z5, ⟨z6, ⟨rfl, ⟨rfl, ⟨rfl, rfl⟩⟩⟩⟩⟩
  (refine G_alloc rfl rfl rfl (.none rfl) ?_; intro b8)
  (refine G_alloc rfl rfl rfl (.none rfl) ?_; intro b9)
  refine G_store1 rfl rfl rfl rfl rfl rfl (.none rfl) (.tail _ (.head _ _ _)) ?_
  refine G_store1 rfl rfl rfl rfl rfl rfl (.none rfl) (.head _ _ _) ?_
  refine G_end ?_
  refine X_then ?_
  refine G_seq ?_
  refine G_region ?_
  refine G_val (V_load rfl rfl (Cell.own1 (.tail _ (.head _)))) rfl rfl (.none rfl) ?_
  refine G_val (V_makeFunc rfl rfl rfl) rfl rfl (.none rfl) ?_
  generalize rbegin ⟨s, a, e, f⟩ = q at *
  obtain ⟨h1, h2, h3, h4⟩ := hok
  by_cases hq : q.e = 0
  · have hfa : q.fa = 0 := by omega
    refine G.front (.tail _ (.tail _ (.tail _ (.tail _ (.head _ _))))) ?_
    refine G.front (.tail _ (.tail _ (.tail _ (.tail _ (.tail _ (.head _ _)))))) ?_
    refine G.front (.tail _ (.tail _ (.tail _ (.head _ _)))) ?_
    refine G.front (.tail _ (.tail _ (.tail _ (.tail _ (.head _ _))))) ?_
    refine G_call (k := 85) (.mk rfl rfl rfl rfl) rfl rfl (.none rfl) (field_yes _ _ [PB b8 z5, IB b4 least, IB b5 most, IB b9 0] z5 q hq 86 [.pointer (some ⟨b8, 0, none⟩), .pointer (some ⟨b4, 0, none⟩), .pointer (some ⟨b5, 0, none⟩), .pointer (some ⟨b9, 0, none⟩)] (rnum q least most 0).1 (fun _ : Unit => [PB b8 z5, IB b4 least, IB b5 most, IB b9 (rnum q least most 0).2]) (fun M => CallS.mono (Number1_call _ M b8 b4 b5 b9 z5 q (by omega) hq least most 0 hm) (by rintro r E' L' hE ⟨rfl, rfl⟩; exact ⟨rfl, (), rfl⟩))) ?_
    rintro r E' L' hE ⟨x, rfl, rfl, rfl⟩
    dsimp only [List.cons_append, List.nil_append]
    have hbe := rback_e q.at' (rnum q least most 0).1
    refine G_val (V_assign rfl rfl) rfl rfl (.none rfl) ?_
    refine G_end ?_
    refine X_then ?_
    refine G_seq ?_
    refine G_seq ?_
    refine G_region ?_
    refine G_val (V_move rfl rfl) rfl rfl (.none rfl) ?_
    refine G_val (V_not rfl rfl) rfl rfl (.none rfl) ?_
    refine G_end ?_
    refine X_then ?_
    refine G_cond rfl (fun H1 => ?_) (fun H1 => ?_)
    · simp only [Bool.and_eq_true, Bool.or_eq_true, Bool.not_eq_true', Bool.not_eq_false', Bool.and_eq_false_iff, Bool.or_eq_false_iff, Bool.not_not, decide_eq_true_eq, decide_eq_false_iff_not, ne_eq, Decidable.not_not, Bool.decide_eq_true] at H1
      refine G_region ?_
      refine G_store1 rfl rfl rfl rfl rfl rfl (.none rfl) (.tail _ (.tail _ (.tail _ (.tail _ (.head _ _ _))))) ?_
      refine G_end ?_
      refine X_then ?_
      refine G_seq ?_
      refine G_drawX 7 [(0, 1), (1, 0), (2, 0), (3, 1), (4, 1), (5, 4), (6, 0)] mixed (by kernel_rfl) ?_
      refine F_load rfl (.tail _ (.head _)) (V_load rfl rfl (Cell.own1 (.head _))) rfl rfl (.none rfl) ?_
      refine F_pure rfl (fun _ _ => V_nilCheck rfl rfl) rfl rfl (.none rfl) ?_
      refine F_pure rfl (fun _ _ => V_fieldAddr rfl rfl (by decide)) rfl rfl (.none rfl) ?_
      refine F_load rfl (.head _) (V_loadA rfl rfl (Cells.own (.head _)) rfl) rfl rfl (.none rfl) ?_
      refine F_load rfl (.tail _ (.tail _ (.tail _ (.tail _ (.head _))))) (V_load rfl rfl (Cell.own1 (.head _))) rfl rfl (.none rfl) ?_
      refine F_storeF rfl rfl rfl rfl rfl (by simp [Value.oneCell']) rfl (.none rfl) (.tail _ (.tail _ (.tail _ (.tail _ (.tail _ (.head _ _ _)))))) (Nat.le_of_ble_eq_true rfl) (by simp only [putAll, Nat.zero_add, Nat.reduceAdd, List.setIfInBounds_toArray, List.set_cons_succ, List.set_cons_zero]; rfl) (.cons (by first | exact .refl _ | assumption) (by simp) (.cons (by first | exact .refl _ | assumption) (by simp) (.cons (by first | exact .refl _ | assumption) (by simp) (.nil)))) ?_
      refine F_pure rfl (fun _ _ => V_assign rfl rfl) rfl rfl (.none rfl) ?_
      (refine F_end (.nil _) ?_; dsimp only [List.drop])
      refine G_end ?_
      refine X_then ?_
      refine G_ret ?_
      refine G_leaveS (.drop _ (.drop _ (.drop _ (.drop _ (.drop _ (.drop _ (.drop _ (.nil _)))))))) (by exact (.cons (.cellA rfl (Cells.own (.tail _ (.tail _ (.tail _ (.tail _ (.tail _ (.head _))))))) rfl) (.cons (.tmp rfl) (.nil)))) rfl ?_ ?_
      · exact (.refl _)
      exact ⟨(by first | rfl | (simp (discharger := omega) only [resVal, rfield, if_pos, if_neg]; first | done | rfl) | (simp [resVal, rfield, *]; done) | ((try simp only [resVal, rfield]); (repeat' split) <;> first | rfl | (exfalso; omega) | (simp_all; done) | (simp_all; omega))), (by first | rfl | (simp (discharger := omega) only [resVal, rfield, if_pos, if_neg]; first | done | rfl) | (simp [resVal, rfield, *]; done) | ((try simp only [resVal, rfield]); (repeat' split) <;> first | rfl | (exfalso; omega) | (simp_all; done) | (simp_all; omega)))⟩
    simp only [Bool.and_eq_true, Bool.or_eq_true, Bool.not_eq_true', Bool.not_eq_false', Bool.and_eq_false_iff, Bool.or_eq_false_iff, Bool.not_not, decide_eq_true_eq, decide_eq_false_iff_not, ne_eq, Decidable.not_not, Bool.decide_eq_true] at H1
    refine G_skip ?_
    refine X_then ?_
    refine G_seq ?_
    refine G_drawX 7 [(0, 1), (1, 0), (2, 0), (3, 1), (4, 1), (5, 4), (6, 0)] mixed (by kernel_rfl) ?_
    refine F_load rfl (.tail _ (.head _)) (V_load rfl rfl (Cell.own1 (.head _))) rfl rfl (.none rfl) ?_
    refine F_pure rfl (fun _ _ => V_nilCheck rfl rfl) rfl rfl (.none rfl) ?_
    refine F_pure rfl (fun _ _ => V_fieldAddr rfl rfl (by decide)) rfl rfl (.none rfl) ?_
    refine F_load rfl (.head _) (V_loadA rfl rfl (Cells.own (.head _)) rfl) rfl rfl (.none rfl) ?_
    refine F_load rfl (.tail _ (.tail _ (.tail _ (.tail _ (.head _))))) (V_load rfl rfl (Cell.own1 (.head _))) rfl rfl (.none rfl) ?_
    refine F_storeF rfl rfl rfl rfl rfl (by simp [Value.oneCell']) rfl (.none rfl) (.tail _ (.tail _ (.tail _ (.tail _ (.tail _ (.head _ _ _)))))) (Nat.le_of_ble_eq_true rfl) (by simp only [putAll, Nat.zero_add, Nat.reduceAdd, List.setIfInBounds_toArray, List.set_cons_succ, List.set_cons_zero]; rfl) (.cons (by first | exact .refl _ | assumption) (by simp) (.cons (by first | exact .refl _ | assumption) (by simp) (.cons (by first | exact .refl _ | assumption) (by simp) (.nil)))) ?_
    refine F_pure rfl (fun _ _ => V_assign rfl rfl) rfl rfl (.none rfl) ?_
    (refine F_end (.nil _) ?_; dsimp only [List.drop])
    refine G_end ?_
    refine X_then ?_
    refine G_ret ?_
    refine G_leaveS (.drop _ (.drop _ (.drop _ (.drop _ (.drop _ (.drop _ (.drop _ (.nil _)))))))) (by exact (.cons (.cellA rfl (Cells.own (.tail _ (.tail _ (.tail _ (.tail _ (.tail _ (.head _))))))) rfl) (.cons (.tmp rfl) (.nil)))) rfl ?_ ?_
    · exact (.refl _)
    exact ⟨(by first | rfl | (simp (discharger := omega) only [resVal, rfield, if_pos, if_neg]; first | done | rfl) | (simp [resVal, rfield, *]; done) | ((try simp only [resVal, rfield]); (repeat' split) <;> first | rfl | (exfalso; omega) | (simp_all; done) | (simp_all; omega))), (by first | rfl | (simp (discharger := omega) only [resVal, rfield, if_pos, if_neg]; first | done | rfl) | (simp [resVal, rfield, *]; done) | ((try simp only [resVal, rfield]); (repeat' split) <;> first | rfl | (exfalso; omega) | (simp_all; done) | (simp_all; omega)))⟩
  · refine G.front (.tail _ (.tail _ (.head _ _))) ?_
    refine G_call (k := 85) (.mk rfl rfl rfl rfl) rfl rfl (.none rfl) (field_no _ _ z5 q hq 86 [.pointer (some ⟨b8, 0, none⟩), .pointer (some ⟨b4, 0, none⟩), .pointer (some ⟨b5, 0, none⟩), .pointer (some ⟨b9, 0, none⟩)]) ?_
    rintro r E' L' hE ⟨rfl, rfl, rfl⟩
    refine G_val (V_assign rfl rfl) rfl rfl (.none rfl) ?_
    refine G_end ?_
    refine X_then ?_
    refine G_seq ?_
    refine G_seq ?_
    refine G_region ?_
    refine G_val (V_move rfl rfl) rfl rfl (.none rfl) ?_
    refine G_val (V_not rfl rfl) rfl rfl (.none rfl) ?_
    refine G_end ?_
    refine X_then ?_
    refine G_cond_t rfl rfl ?_
    refine G_region ?_
    refine G_store1 rfl rfl rfl rfl rfl rfl (.none rfl) (.tail _ (.head _ _ _)) ?_
    refine G_end ?_
    refine X_then ?_
    refine G_seq ?_
    refine G_drawX 7 [(0, 1), (1, 0), (2, 0), (3, 1), (4, 1), (5, 4), (6, 0)] mixed (by kernel_rfl) ?_
    refine F_load rfl (.tail _ (.tail _ (.head _))) (V_load rfl rfl (Cell.own1 (.head _))) rfl rfl (.none rfl) ?_
    refine F_pure rfl (fun _ _ => V_nilCheck rfl rfl) rfl rfl (.none rfl) ?_
    refine F_pure rfl (fun _ _ => V_fieldAddr rfl rfl (by decide)) rfl rfl (.none rfl) ?_
    refine F_load rfl (.head _) (V_loadA rfl rfl (Cells.own (.head _)) rfl) rfl rfl (.none rfl) ?_
    refine F_load rfl (.tail _ (.head _)) (V_load rfl rfl (Cell.own1 (.head _))) rfl rfl (.none rfl) ?_
    refine F_storeF rfl rfl rfl rfl rfl (by simp [Value.oneCell']) rfl (.none rfl) (.tail _ (.tail _ (.tail _ (.head _ _ _)))) (Nat.le_of_ble_eq_true rfl) (by simp only [putAll, Nat.zero_add, Nat.reduceAdd, List.setIfInBounds_toArray, List.set_cons_succ, List.set_cons_zero]; rfl) (.cons (by first | exact .refl _ | assumption) (by simp) (.cons (by first | exact .refl _ | assumption) (by simp) (.cons (by first | exact .refl _ | assumption) (by simp) (.nil)))) ?_
    refine F_pure rfl (fun _ _ => V_assign rfl rfl) rfl rfl (.none rfl) ?_
    (refine F_end (.nil _) ?_; dsimp only [List.drop])
    refine G_end ?_
    refine X_then ?_
    refine G_ret ?_
    refine G_leaveS (.drop _ (.drop _ (.drop _ (.drop _ (.drop _ (.drop _ (.drop _ (.nil _)))))))) (by exact (.cons (.cellA rfl (Cells.own (.tail _ (.tail _ (.tail _ (.head _))))) rfl) (.cons (.tmp rfl) (.nil)))) rfl ?_ ?_
    · exact (.refl _)
    exact ⟨(by first | rfl | (simp (discharger := omega) only [resVal, rfield, if_pos, if_neg]; first | done | rfl) | (simp [resVal, rfield, *]; done) | ((try simp only [resVal, rfield]); (repeat' split) <;> first | rfl | (exfalso; omega) | (simp_all; done) | (simp_all; omega))), (by first | rfl | (simp (discharger := omega) only [resVal, rfield, if_pos, if_neg]; first | done | rfl) | (simp [resVal, rfield, *]; done) | ((try simp only [resVal, rfield]); (repeat' split) <;> first | rfl | (exfalso; omega) | (simp_all; done) | (simp_all; omega)))⟩
theorem Wide_call (E : Env) (L : List Res) (s : List UInt8) (hs : s.length ≤ 1000000000000) (a e f : Int) (most : Nat) :
    CallV Try.prog 60 #[.agg #[.string (S s), .int .i64 a, .int .i64 e, .int .i64 f], .int .u64 most] E L (.tuple #[(rfield (rbegin ⟨s, a, e, f⟩) (rwd (rbegin ⟨s, a, e, f⟩) most) 0).1.v, .int .u64 (rfield (rbegin ⟨s, a, e, f⟩) (rwd (rbegin ⟨s, a, e, f⟩) most) 0).2]) := by
  refine CallS.toV (CallS.intro (l := [.agg #[.string (S s), .int .i64 a, .int .i64 e, .int .i64 f], .int .u64 most]) _ Try.func60 rfl Try.ntmps60 rfl ?_)
  have hok := rbegin_ok ⟨s, a, e, f⟩
  refine G_seq ?_
  refine G_region ?_
  (refine G_boxA rfl rfl rfl rfl (.none rfl) ?_; intro b2)
  (refine G_box1 rfl rfl rfl rfl rfl (.none rfl) ?_; intro b3)
  (refine G_alloc rfl rfl rfl (.none rfl) ?_; intro b4)
  refine G_val (V_assign rfl rfl) rfl rfl (.none rfl) ?_
  refine G_end ?_
  refine X_then ?_
  refine G_seq ?_
  refine G_region ?_
  refine G_val (V_loadA rfl rfl (Cells.own (.tail _ (.tail _ (.head _)))) rfl) rfl rfl (.none rfl) ?_
  refine G_call (k := 68) (.mk rfl rfl rfl rfl) rfl rfl (.none rfl) (begin_call _ _ _ (by first | assumption | omega | (simp; omega) | (simp; done)) _ _ _) ?_
  rintro r1 E2 L3 hE4 ⟨z5, ⟨z6, ⟨rfl, ⟨rfl, ⟨rfl, rfl⟩⟩⟩⟩⟩
  (refine G_alloc rfl rfl rfl (.none rfl) ?_; intro b6)
  (refine G_alloc rfl rfl rfl (.none rfl) ?_; intro b7)
  refine G_store1 rfl rfl rfl rfl rfl rfl (.none rfl) (.tail _ (.head _ _ _)) ?_
  refine G_store1 rfl rfl rfl rfl rfl rfl (.none rfl) (.head _ _ _) ?_
  refine G_end ?_
  refine X_then ?_
  refine G_seq ?_
  refine G_region ?_
  refine G_val (V_load rfl rfl (Cell.own1 (.tail _ (.head _)))) rfl rfl (.none rfl) ?_
  refine G_val (V_makeFunc rfl rfl rfl) rfl rfl (.none rfl) ?_
  generalize rbegin ⟨s, a, e, f⟩ = q at *
  obtain ⟨h1, h2, h3, h4⟩ := hok
  by_cases hq : q.e = 0
  · have hfa : q.fa = 0 := by omega
    refine G.front (.tail _ (.tail _ (.tail _ (.tail _ (.head _ _))))) ?_
    refine G.front (.tail _ (.head _ _)) ?_
    refine G.front (.tail _ (.tail _ (.head _ _))) ?_
    refine G.front (.tail _ (.tail _ (.tail _ (.head _ _)))) ?_
    refine G_call (k := 85) (.mk rfl rfl rfl rfl) rfl rfl (.none rfl) (field_yes _ _ [PB b6 z5, UB b7 0, UB b3 most] z5 q hq 97 [.pointer (some ⟨b6, 0, none⟩), .pointer (some ⟨b7, 0, none⟩), .pointer (some ⟨b3, 0, none⟩)] (rwd q most).1 (fun _ : Unit => [PB b6 z5, UB b7 (rwd q most).2, UB b3 most]) (fun M => CallS.mono (Wide1_call _ M b6 b7 b3 z5 q (by omega) most 0) (by rintro r E' L' hE ⟨rfl, rfl⟩; exact ⟨rfl, (), rfl⟩))) ?_
    rintro r E' L' hE ⟨x, rfl, rfl, rfl⟩
    dsimp only [List.cons_append, List.nil_append]
    have hbe := rback_e q.at' (rwd q most).1
    refine G_val (V_assign rfl rfl) rfl rfl (.none rfl) ?_
    refine G_end ?_
    refine X_then ?_
    refine G_seq ?_
    refine G_seq ?_
    refine G_region ?_
    refine G_val (V_move rfl rfl) rfl rfl (.none rfl) ?_
    refine G_val (V_not rfl rfl) rfl rfl (.none rfl) ?_
    refine G_end ?_
    refine X_then ?_
    refine G_cond rfl (fun H1 => ?_) (fun H1 => ?_)
    · simp only [Bool.and_eq_true, Bool.or_eq_true, Bool.not_eq_true', Bool.not_eq_false', Bool.and_eq_false_iff, Bool.or_eq_false_iff, Bool.not_not, decide_eq_true_eq, decide_eq_false_iff_not, ne_eq, Decidable.not_not, Bool.decide_eq_true] at H1
      refine G_region ?_
      refine G_store1 rfl rfl rfl rfl rfl rfl (.none rfl) (.tail _ (.tail _ (.head _ _ _))) ?_
      refine G_end ?_
      refine X_then ?_
      refine G_seq ?_
      refine G_drawX 7 [(0, 1), (1, 0), (2, 0), (3, 1), (4, 1), (5, 4), (6, 0)] mixed (by kernel_rfl) ?_
      refine F_load rfl (.tail _ (.head _)) (V_load rfl rfl (Cell.own1 (.head _))) rfl rfl (.none rfl) ?_
      refine F_pure rfl (fun _ _ => V_nilCheck rfl rfl) rfl rfl (.none rfl) ?_
      refine F_pure rfl (fun _ _ => V_fieldAddr rfl rfl (by decide)) rfl rfl (.none rfl) ?_
      refine F_load rfl (.head _) (V_loadA rfl rfl (Cells.own (.head _)) rfl) rfl rfl (.none rfl) ?_
      refine F_load rfl (.tail _ (.tail _ (.head _))) (V_load rfl rfl (Cell.own1 (.head _))) rfl rfl (.none rfl) ?_
      refine F_storeF rfl rfl rfl rfl rfl (by simp [Value.oneCell']) rfl (.none rfl) (.tail _ (.tail _ (.tail _ (.tail _ (.head _ _ _))))) (Nat.le_of_ble_eq_true rfl) (by simp only [putAll, Nat.zero_add, Nat.reduceAdd, List.setIfInBounds_toArray, List.set_cons_succ, List.set_cons_zero]; rfl) (.cons (by first | exact .refl _ | assumption) (by simp) (.cons (by first | exact .refl _ | assumption) (by simp) (.cons (by first | exact .refl _ | assumption) (by simp) (.nil)))) ?_
      refine F_pure rfl (fun _ _ => V_assign rfl rfl) rfl rfl (.none rfl) ?_
      (refine F_end (.nil _) ?_; dsimp only [List.drop])
      refine G_end ?_
      refine X_then ?_
      refine G_ret ?_
      refine G_leaveS (.drop _ (.drop _ (.drop _ (.drop _ (.drop _ (.drop _ (.nil _))))))) (by exact (.cons (.cellA rfl (Cells.own (.tail _ (.tail _ (.tail _ (.tail _ (.head _)))))) rfl) (.cons (.tmp rfl) (.nil)))) rfl ?_ ?_
      · exact (.refl _)
      exact ⟨(by first | rfl | (simp (discharger := omega) only [resVal, rfield, if_pos, if_neg]; first | done | rfl) | (simp [resVal, rfield, *]; done) | ((try simp only [resVal, rfield]); (repeat' split) <;> first | rfl | (exfalso; omega) | (simp_all; done) | (simp_all; omega))), (by first | rfl | (simp (discharger := omega) only [resVal, rfield, if_pos, if_neg]; first | done | rfl) | (simp [resVal, rfield, *]; done) | ((try simp only [resVal, rfield]); (repeat' split) <;> first | rfl | (exfalso; omega) | (simp_all; done) | (simp_all; omega)))⟩
    simp only [Bool.and_eq_true, Bool.or_eq_true, Bool.not_eq_true', Bool.not_eq_false', Bool.and_eq_false_iff, Bool.or_eq_false_iff, Bool.not_not, decide_eq_true_eq, decide_eq_false_iff_not, ne_eq, Decidable.not_not, Bool.decide_eq_true] at H1
    refine G_skip ?_
    refine X_then ?_
    refine G_seq ?_
    refine G_drawX 7 [(0, 1), (1, 0), (2, 0), (3, 1), (4, 1), (5, 4), (6, 0)] mixed (by kernel_rfl) ?_
    refine F_load rfl (.tail _ (.head _)) (V_load rfl rfl (Cell.own1 (.head _))) rfl rfl (.none rfl) ?_
    refine F_pure rfl (fun _ _ => V_nilCheck rfl rfl) rfl rfl (.none rfl) ?_
    refine F_pure rfl (fun _ _ => V_fieldAddr rfl rfl (by decide)) rfl rfl (.none rfl) ?_
    refine F_load rfl (.head _) (V_loadA rfl rfl (Cells.own (.head _)) rfl) rfl rfl (.none rfl) ?_
    refine F_load rfl (.tail _ (.tail _ (.head _))) (V_load rfl rfl (Cell.own1 (.head _))) rfl rfl (.none rfl) ?_
    refine F_storeF rfl rfl rfl rfl rfl (by simp [Value.oneCell']) rfl (.none rfl) (.tail _ (.tail _ (.tail _ (.tail _ (.head _ _ _))))) (Nat.le_of_ble_eq_true rfl) (by simp only [putAll, Nat.zero_add, Nat.reduceAdd, List.setIfInBounds_toArray, List.set_cons_succ, List.set_cons_zero]; rfl) (.cons (by first | exact .refl _ | assumption) (by simp) (.cons (by first | exact .refl _ | assumption) (by simp) (.cons (by first | exact .refl _ | assumption) (by simp) (.nil)))) ?_
    refine F_pure rfl (fun _ _ => V_assign rfl rfl) rfl rfl (.none rfl) ?_
    (refine F_end (.nil _) ?_; dsimp only [List.drop])
    refine G_end ?_
    refine X_then ?_
    refine G_ret ?_
    refine G_leaveS (.drop _ (.drop _ (.drop _ (.drop _ (.drop _ (.drop _ (.nil _))))))) (by exact (.cons (.cellA rfl (Cells.own (.tail _ (.tail _ (.tail _ (.tail _ (.head _)))))) rfl) (.cons (.tmp rfl) (.nil)))) rfl ?_ ?_
    · exact (.refl _)
    exact ⟨(by first | rfl | (simp (discharger := omega) only [resVal, rfield, if_pos, if_neg]; first | done | rfl) | (simp [resVal, rfield, *]; done) | ((try simp only [resVal, rfield]); (repeat' split) <;> first | rfl | (exfalso; omega) | (simp_all; done) | (simp_all; omega))), (by first | rfl | (simp (discharger := omega) only [resVal, rfield, if_pos, if_neg]; first | done | rfl) | (simp [resVal, rfield, *]; done) | ((try simp only [resVal, rfield]); (repeat' split) <;> first | rfl | (exfalso; omega) | (simp_all; done) | (simp_all; omega)))⟩
  · refine G.front (.tail _ (.tail _ (.head _ _))) ?_
    refine G_call (k := 85) (.mk rfl rfl rfl rfl) rfl rfl (.none rfl) (field_no _ _ z5 q hq 97 [.pointer (some ⟨b6, 0, none⟩), .pointer (some ⟨b7, 0, none⟩), .pointer (some ⟨b3, 0, none⟩)]) ?_
    rintro r E' L' hE ⟨rfl, rfl, rfl⟩
    refine G_val (V_assign rfl rfl) rfl rfl (.none rfl) ?_
    refine G_end ?_
    refine X_then ?_
    refine G_seq ?_
    refine G_seq ?_
    refine G_region ?_
    refine G_val (V_move rfl rfl) rfl rfl (.none rfl) ?_
    refine G_val (V_not rfl rfl) rfl rfl (.none rfl) ?_
    refine G_end ?_
    refine X_then ?_
    refine G_cond_t rfl rfl ?_
    refine G_region ?_
    refine G_store1 rfl rfl rfl rfl rfl rfl (.none rfl) (.tail _ (.head _ _ _)) ?_
    refine G_end ?_
    refine X_then ?_
    refine G_seq ?_
    refine G_drawX 7 [(0, 1), (1, 0), (2, 0), (3, 1), (4, 1), (5, 4), (6, 0)] mixed (by kernel_rfl) ?_
    refine F_load rfl (.tail _ (.tail _ (.head _))) (V_load rfl rfl (Cell.own1 (.head _))) rfl rfl (.none rfl) ?_
    refine F_pure rfl (fun _ _ => V_nilCheck rfl rfl) rfl rfl (.none rfl) ?_
    refine F_pure rfl (fun _ _ => V_fieldAddr rfl rfl (by decide)) rfl rfl (.none rfl) ?_
    refine F_load rfl (.head _) (V_loadA rfl rfl (Cells.own (.head _)) rfl) rfl rfl (.none rfl) ?_
    refine F_load rfl (.tail _ (.head _)) (V_load rfl rfl (Cell.own1 (.head _))) rfl rfl (.none rfl) ?_
    refine F_storeF rfl rfl rfl rfl rfl (by simp [Value.oneCell']) rfl (.none rfl) (.tail _ (.tail _ (.tail _ (.head _ _ _)))) (Nat.le_of_ble_eq_true rfl) (by simp only [putAll, Nat.zero_add, Nat.reduceAdd, List.setIfInBounds_toArray, List.set_cons_succ, List.set_cons_zero]; rfl) (.cons (by first | exact .refl _ | assumption) (by simp) (.cons (by first | exact .refl _ | assumption) (by simp) (.cons (by first | exact .refl _ | assumption) (by simp) (.nil)))) ?_
    refine F_pure rfl (fun _ _ => V_assign rfl rfl) rfl rfl (.none rfl) ?_
    (refine F_end (.nil _) ?_; dsimp only [List.drop])
    refine G_end ?_
    refine X_then ?_
    refine G_ret ?_
    refine G_leaveS (.drop _ (.drop _ (.drop _ (.drop _ (.drop _ (.drop _ (.nil _))))))) (by exact (.cons (.cellA rfl (Cells.own (.tail _ (.tail _ (.tail _ (.head _))))) rfl) (.cons (.tmp rfl) (.nil)))) rfl ?_ ?_
    · exact (.refl _)
    exact ⟨(by first | rfl | (simp (discharger := omega) only [resVal, rfield, if_pos, if_neg]; first | done | rfl) | (simp [resVal, rfield, *]; done) | ((try simp only [resVal, rfield]); (repeat' split) <;> first | rfl | (exfalso; omega) | (simp_all; done) | (simp_all; omega))), (by first | rfl | (simp (discharger := omega) only [resVal, rfield, if_pos, if_neg]; first | done | rfl) | (simp [resVal, rfield, *]; done) | ((try simp only [resVal, rfield]); (repeat' split) <;> first | rfl | (exfalso; omega) | (simp_all; done) | (simp_all; omega)))⟩
theorem String_call (E : Env) (L : List Res) (s : List UInt8) (hs : s.length ≤ 1000000000000) (a e f : Int) (most : Int) (hm : most ≤ 9223372036854775807) :
    CallV Try.prog 52 #[.agg #[.string (S s), .int .i64 a, .int .i64 e, .int .i64 f], .int .i64 most] E L (.tuple #[(rfield (rbegin ⟨s, a, e, f⟩) (rstr (rbegin ⟨s, a, e, f⟩) most []) []).1.v, .string (S (rfield (rbegin ⟨s, a, e, f⟩) (rstr (rbegin ⟨s, a, e, f⟩) most []) []).2)]) := by
  refine CallS.toV (CallS.intro (l := [.agg #[.string (S s), .int .i64 a, .int .i64 e, .int .i64 f], .int .i64 most]) _ Try.func52 rfl Try.ntmps52 rfl ?_)
  have hok := rbegin_ok ⟨s, a, e, f⟩
  refine G_seq ?_
  refine G_region ?_
  (refine G_boxA rfl rfl rfl rfl (.none rfl) ?_; intro b2)
  (refine G_box1 rfl rfl rfl rfl rfl (.none rfl) ?_; intro b3)
  (refine G_alloc rfl rfl rfl (.none rfl) ?_; intro b4)
  refine G_val (V_assign rfl rfl) rfl rfl (.none rfl) ?_
  refine G_end ?_
  refine X_then ?_
  refine G_seq ?_
  refine G_region ?_
  refine G_val (V_loadA rfl rfl (Cells.own (.tail _ (.tail _ (.head _)))) rfl) rfl rfl (.none rfl) ?_
  refine G_call (k := 68) (.mk rfl rfl rfl rfl) rfl rfl (.none rfl) (begin_call _ _ _ (by first | assumption | omega | (simp; omega) | (simp; done)) _ _ _) ?_
  rintro r1 E2 L3 hE4 ⟨z5, ⟨z6, ⟨rfl, ⟨rfl, ⟨rfl, rfl⟩⟩⟩⟩⟩
  (refine G_alloc rfl rfl rfl (.none rfl) ?_; intro b6)
  (refine G_alloc rfl rfl rfl (.none rfl) ?_; intro b7)
  refine G_store1 rfl rfl rfl rfl rfl rfl (.none rfl) (.tail _ (.head _ _ _)) ?_
  refine G_store1 rfl rfl rfl rfl rfl rfl (.none rfl) (.head _ _ _) ?_
  refine G_end ?_
  refine X_then ?_
  refine G_seq ?_
  refine G_region ?_
  refine G_val (V_load rfl rfl (Cell.own1 (.tail _ (.head _)))) rfl rfl (.none rfl) ?_
  refine G_val (V_makeFunc rfl rfl rfl) rfl rfl (.none rfl) ?_
  generalize rbegin ⟨s, a, e, f⟩ = q at *
  obtain ⟨h1, h2, h3, h4⟩ := hok
  by_cases hq : q.e = 0
  · have hfa : q.fa = 0 := by omega
    refine G.front (.tail _ (.tail _ (.tail _ (.tail _ (.head _ _))))) ?_
    refine G.front (.tail _ (.tail _ (.head _ _))) ?_
    refine G.front (.tail _ (.tail _ (.tail _ (.head _ _)))) ?_
    refine G_call (k := 85) (.mk rfl rfl rfl rfl) rfl rfl (.none rfl) (field_yes _ _ [PB b6 z5, IB b3 most, SB b7 []] z5 q hq 89 [.pointer (some ⟨b6, 0, none⟩), .pointer (some ⟨b3, 0, none⟩), .pointer (some ⟨b7, 0, none⟩)] (rstr q most []).1 (fun _ : Unit => [PB b6 z5, IB b3 most, SB b7 (rstr q most []).2]) (fun M => CallS.mono (String1_call _ M b6 b3 b7 z5 q (by omega) hq hfa h2 h3 most hm []) (by rintro r E' L' hE ⟨rfl, rfl⟩; exact ⟨rfl, (), rfl⟩))) ?_
    rintro r E' L' hE ⟨x, rfl, rfl, rfl⟩
    dsimp only [List.cons_append, List.nil_append]
    have hbe := rback_e q.at' (rstr q most []).1
    refine G_val (V_assign rfl rfl) rfl rfl (.none rfl) ?_
    refine G_end ?_
    refine X_then ?_
    refine G_seq ?_
    refine G_seq ?_
    refine G_region ?_
    refine G_val (V_move rfl rfl) rfl rfl (.none rfl) ?_
    refine G_val (V_not rfl rfl) rfl rfl (.none rfl) ?_
    refine G_end ?_
    refine X_then ?_
    refine G_cond rfl (fun H1 => ?_) (fun H1 => ?_)
    · simp only [Bool.and_eq_true, Bool.or_eq_true, Bool.not_eq_true', Bool.not_eq_false', Bool.and_eq_false_iff, Bool.or_eq_false_iff, Bool.not_not, decide_eq_true_eq, decide_eq_false_iff_not, ne_eq, Decidable.not_not, Bool.decide_eq_true] at H1
      refine G_region ?_
      refine G_store1 rfl rfl rfl rfl rfl rfl (.none rfl) (.tail _ (.tail _ (.tail _ (.head _ _ _)))) ?_
      refine G_end ?_
      refine X_then ?_
      refine G_seq ?_
      refine G_drawX 7 [(0, 1), (1, 0), (2, 0), (3, 1), (4, 1), (5, 4), (6, 0)] mixed (by kernel_rfl) ?_
      refine F_load rfl (.tail _ (.head _)) (V_load rfl rfl (Cell.own1 (.head _))) rfl rfl (.none rfl) ?_
      refine F_pure rfl (fun _ _ => V_nilCheck rfl rfl) rfl rfl (.none rfl) ?_
      refine F_pure rfl (fun _ _ => V_fieldAddr rfl rfl (by decide)) rfl rfl (.none rfl) ?_
      refine F_load rfl (.head _) (V_loadA rfl rfl (Cells.own (.head _)) rfl) rfl rfl (.none rfl) ?_
      refine F_load rfl (.tail _ (.tail _ (.tail _ (.head _)))) (V_load rfl rfl (Cell.own1 (.head _))) rfl rfl (.none rfl) ?_
      refine F_storeF rfl rfl rfl rfl rfl (by simp [Value.oneCell']) rfl (.none rfl) (.tail _ (.tail _ (.tail _ (.tail _ (.head _ _ _))))) (Nat.le_of_ble_eq_true rfl) (by simp only [putAll, Nat.zero_add, Nat.reduceAdd, List.setIfInBounds_toArray, List.set_cons_succ, List.set_cons_zero]; rfl) (.cons (by first | exact .refl _ | assumption) (by simp) (.cons (by first | exact .refl _ | assumption) (by simp) (.cons (by first | exact .refl _ | assumption) (by simp) (.nil)))) ?_
      refine F_pure rfl (fun _ _ => V_assign rfl rfl) rfl rfl (.none rfl) ?_
      (refine F_end (.nil _) ?_; dsimp only [List.drop])
      refine G_end ?_
      refine X_then ?_
      refine G_ret ?_
      refine G_leaveS (.drop _ (.drop _ (.drop _ (.drop _ (.drop _ (.drop _ (.nil _))))))) (by exact (.cons (.cellA rfl (Cells.own (.tail _ (.tail _ (.tail _ (.tail _ (.head _)))))) rfl) (.cons (.tmp rfl) (.nil)))) rfl ?_ ?_
      · exact (.refl _)
      exact ⟨(by first | rfl | (simp (discharger := omega) only [resVal, rfield, if_pos, if_neg]; first | done | rfl) | (simp [resVal, rfield, *]; done) | ((try simp only [resVal, rfield]); (repeat' split) <;> first | rfl | (exfalso; omega) | (simp_all; done) | (simp_all; omega))), (by first | rfl | (simp (discharger := omega) only [resVal, rfield, if_pos, if_neg]; first | done | rfl) | (simp [resVal, rfield, *]; done) | ((try simp only [resVal, rfield]); (repeat' split) <;> first | rfl | (exfalso; omega) | (simp_all; done) | (simp_all; omega)))⟩
    simp only [Bool.and_eq_true, Bool.or_eq_true, Bool.not_eq_true', Bool.not_eq_false', Bool.and_eq_false_iff, Bool.or_eq_false_iff, Bool.not_not, decide_eq_true_eq, decide_eq_false_iff_not, ne_eq, Decidable.not_not, Bool.decide_eq_true] at H1
    refine G_skip ?_
    refine X_then ?_
    refine G_seq ?_
    refine G_drawX 7 [(0, 1), (1, 0), (2, 0), (3, 1), (4, 1), (5, 4), (6, 0)] mixed (by kernel_rfl) ?_
    refine F_load rfl (.tail _ (.head _)) (V_load rfl rfl (Cell.own1 (.head _))) rfl rfl (.none rfl) ?_
    refine F_pure rfl (fun _ _ => V_nilCheck rfl rfl) rfl rfl (.none rfl) ?_
    refine F_pure rfl (fun _ _ => V_fieldAddr rfl rfl (by decide)) rfl rfl (.none rfl) ?_
    refine F_load rfl (.head _) (V_loadA rfl rfl (Cells.own (.head _)) rfl) rfl rfl (.none rfl) ?_
    refine F_load rfl (.tail _ (.tail _ (.tail _ (.head _)))) (V_load rfl rfl (Cell.own1 (.head _))) rfl rfl (.none rfl) ?_
    refine F_storeF rfl rfl rfl rfl rfl (by simp [Value.oneCell']) rfl (.none rfl) (.tail _ (.tail _ (.tail _ (.tail _ (.head _ _ _))))) (Nat.le_of_ble_eq_true rfl) (by simp only [putAll, Nat.zero_add, Nat.reduceAdd, List.setIfInBounds_toArray, List.set_cons_succ, List.set_cons_zero]; rfl) (.cons (by first | exact .refl _ | assumption) (by simp) (.cons (by first | exact .refl _ | assumption) (by simp) (.cons (by first | exact .refl _ | assumption) (by simp) (.nil)))) ?_
    refine F_pure rfl (fun _ _ => V_assign rfl rfl) rfl rfl (.none rfl) ?_
    (refine F_end (.nil _) ?_; dsimp only [List.drop])
    refine G_end ?_
    refine X_then ?_
    refine G_ret ?_
    refine G_leaveS (.drop _ (.drop _ (.drop _ (.drop _ (.drop _ (.drop _ (.nil _))))))) (by exact (.cons (.cellA rfl (Cells.own (.tail _ (.tail _ (.tail _ (.tail _ (.head _)))))) rfl) (.cons (.tmp rfl) (.nil)))) rfl ?_ ?_
    · exact (.refl _)
    exact ⟨(by first | rfl | (simp (discharger := omega) only [resVal, rfield, if_pos, if_neg]; first | done | rfl) | (simp [resVal, rfield, *]; done) | ((try simp only [resVal, rfield]); (repeat' split) <;> first | rfl | (exfalso; omega) | (simp_all; done) | (simp_all; omega))), (by first | rfl | (simp (discharger := omega) only [resVal, rfield, if_pos, if_neg]; first | done | rfl) | (simp [resVal, rfield, *]; done) | ((try simp only [resVal, rfield]); (repeat' split) <;> first | rfl | (exfalso; omega) | (simp_all; done) | (simp_all; omega)))⟩
  · refine G.front (.tail _ (.tail _ (.head _ _))) ?_
    refine G_call (k := 85) (.mk rfl rfl rfl rfl) rfl rfl (.none rfl) (field_no _ _ z5 q hq 89 [.pointer (some ⟨b6, 0, none⟩), .pointer (some ⟨b3, 0, none⟩), .pointer (some ⟨b7, 0, none⟩)]) ?_
    rintro r E' L' hE ⟨rfl, rfl, rfl⟩
    refine G_val (V_assign rfl rfl) rfl rfl (.none rfl) ?_
    refine G_end ?_
    refine X_then ?_
    refine G_seq ?_
    refine G_seq ?_
    refine G_region ?_
    refine G_val (V_move rfl rfl) rfl rfl (.none rfl) ?_
    refine G_val (V_not rfl rfl) rfl rfl (.none rfl) ?_
    refine G_end ?_
    refine X_then ?_
    refine G_cond_t rfl rfl ?_
    refine G_region ?_
    refine G_store1 rfl rfl rfl rfl rfl rfl (.none rfl) (.tail _ (.head _ _ _)) ?_
    refine G_end ?_
    refine X_then ?_
    refine G_seq ?_
    refine G_drawX 7 [(0, 1), (1, 0), (2, 0), (3, 1), (4, 1), (5, 4), (6, 0)] mixed (by kernel_rfl) ?_
    refine F_load rfl (.tail _ (.tail _ (.head _))) (V_load rfl rfl (Cell.own1 (.head _))) rfl rfl (.none rfl) ?_
    refine F_pure rfl (fun _ _ => V_nilCheck rfl rfl) rfl rfl (.none rfl) ?_
    refine F_pure rfl (fun _ _ => V_fieldAddr rfl rfl (by decide)) rfl rfl (.none rfl) ?_
    refine F_load rfl (.head _) (V_loadA rfl rfl (Cells.own (.head _)) rfl) rfl rfl (.none rfl) ?_
    refine F_load rfl (.tail _ (.head _)) (V_load rfl rfl (Cell.own1 (.head _))) rfl rfl (.none rfl) ?_
    refine F_storeF rfl rfl rfl rfl rfl (by simp [Value.oneCell']) rfl (.none rfl) (.tail _ (.tail _ (.tail _ (.head _ _ _)))) (Nat.le_of_ble_eq_true rfl) (by simp only [putAll, Nat.zero_add, Nat.reduceAdd, List.setIfInBounds_toArray, List.set_cons_succ, List.set_cons_zero]; rfl) (.cons (by first | exact .refl _ | assumption) (by simp) (.cons (by first | exact .refl _ | assumption) (by simp) (.cons (by first | exact .refl _ | assumption) (by simp) (.nil)))) ?_
    refine F_pure rfl (fun _ _ => V_assign rfl rfl) rfl rfl (.none rfl) ?_
    (refine F_end (.nil _) ?_; dsimp only [List.drop])
    refine G_end ?_
    refine X_then ?_
    refine G_ret ?_
    refine G_leaveS (.drop _ (.drop _ (.drop _ (.drop _ (.drop _ (.drop _ (.nil _))))))) (by exact (.cons (.cellA rfl (Cells.own (.tail _ (.tail _ (.tail _ (.head _))))) rfl) (.cons (.tmp rfl) (.nil)))) rfl ?_ ?_
    · exact (.refl _)
    exact ⟨(by first | rfl | (simp (discharger := omega) only [resVal, rfield, if_pos, if_neg]; first | done | rfl) | (simp [resVal, rfield, *]; done) | ((try simp only [resVal, rfield]); (repeat' split) <;> first | rfl | (exfalso; omega) | (simp_all; done) | (simp_all; omega))), (by first | rfl | (simp (discharger := omega) only [resVal, rfield, if_pos, if_neg]; first | done | rfl) | (simp [resVal, rfield, *]; done) | ((try simp only [resVal, rfield]); (repeat' split) <;> first | rfl | (exfalso; omega) | (simp_all; done) | (simp_all; omega)))⟩
theorem Fixed_call (E : Env) (L : List Res) (s : List UInt8) (hs : s.length ≤ 1000000000000) (a e f : Int) (n : Int) :
    CallV Try.prog 54 #[.agg #[.string (S s), .int .i64 a, .int .i64 e, .int .i64 f], .int .i64 n] E L (.tuple #[(rfield (rbegin ⟨s, a, e, f⟩) (rfix (rbegin ⟨s, a, e, f⟩) n []) []).1.v, .string (S (rfield (rbegin ⟨s, a, e, f⟩) (rfix (rbegin ⟨s, a, e, f⟩) n []) []).2)]) := by
  refine CallS.toV (CallS.intro (l := [.agg #[.string (S s), .int .i64 a, .int .i64 e, .int .i64 f], .int .i64 n]) _ Try.func54 rfl Try.ntmps54 rfl ?_)
  have hok := rbegin_ok ⟨s, a, e, f⟩
  refine G_seq ?_
  refine G_region ?_
  (refine G_boxA rfl rfl rfl rfl (.none rfl) ?_; intro b2)
  (refine G_box1 rfl rfl rfl rfl rfl (.none rfl) ?_; intro b3)
  (refine G_alloc rfl rfl rfl (.none rfl) ?_; intro b4)
  refine G_val (V_assign rfl rfl) rfl rfl (.none rfl) ?_
  refine G_end ?_
  refine X_then ?_
  refine G_seq ?_
  refine G_region ?_
  refine G_val (V_loadA rfl rfl (Cells.own (.tail _ (.tail _ (.head _)))) rfl) rfl rfl (.none rfl) ?_
  refine G_call (k := 68) (.mk rfl rfl rfl rfl) rfl rfl (.none rfl) (begin_call _ _ _ (by first | assumption | omega | (simp; omega) | (simp; done)) _ _ _) ?_
  rintro r1 E2 L3 hE4 ⟨z5, ⟨z6, ⟨rfl, ⟨rfl, ⟨rfl, rfl⟩⟩⟩⟩⟩
  (refine G_alloc rfl rfl rfl (.none rfl) ?_; intro b6)
  (refine G_alloc rfl rfl rfl (.none rfl) ?_; intro b7)
  refine G_store1 rfl rfl rfl rfl rfl rfl (.none rfl) (.tail _ (.head _ _ _)) ?_
  refine G_store1 rfl rfl rfl rfl rfl rfl (.none rfl) (.head _ _ _) ?_
  refine G_end ?_
  refine X_then ?_
  refine G_seq ?_
  refine G_region ?_
  refine G_val (V_load rfl rfl (Cell.own1 (.tail _ (.head _)))) rfl rfl (.none rfl) ?_
  refine G_val (V_makeFunc rfl rfl rfl) rfl rfl (.none rfl) ?_
  generalize rbegin ⟨s, a, e, f⟩ = q at *
  obtain ⟨h1, h2, h3, h4⟩ := hok
  by_cases hq : q.e = 0
  · have hfa : q.fa = 0 := by omega
    refine G.front (.tail _ (.head _ _)) ?_
    refine G.front (.tail _ (.tail _ (.tail _ (.tail _ (.head _ _))))) ?_
    refine G.front (.tail _ (.tail _ (.tail _ (.head _ _)))) ?_
    refine G_call (k := 85) (.mk rfl rfl rfl rfl) rfl rfl (.none rfl) (field_yes _ _ [IB b3 n, PB b6 z5, SB b7 []] z5 q hq 94 [.pointer (some ⟨b3, 0, none⟩), .pointer (some ⟨b6, 0, none⟩), .pointer (some ⟨b7, 0, none⟩)] (rfix q n []).1 (fun _ : Unit => [IB b3 n, PB b6 z5, SB b7 (rfix q n []).2]) (fun M => CallS.mono (Fixed1_call _ M b3 b6 b7 z5 q (by omega) h2 h3 n []) (by rintro r E' L' hE ⟨rfl, rfl⟩; exact ⟨rfl, (), rfl⟩))) ?_
    rintro r E' L' hE ⟨x, rfl, rfl, rfl⟩
    dsimp only [List.cons_append, List.nil_append]
    have hbe := rback_e q.at' (rfix q n []).1
    refine G_val (V_assign rfl rfl) rfl rfl (.none rfl) ?_
    refine G_end ?_
    refine X_then ?_
    refine G_seq ?_
    refine G_seq ?_
    refine G_region ?_
    refine G_val (V_move rfl rfl) rfl rfl (.none rfl) ?_
    refine G_val (V_not rfl rfl) rfl rfl (.none rfl) ?_
    refine G_end ?_
    refine X_then ?_
    refine G_cond rfl (fun H1 => ?_) (fun H1 => ?_)
    · simp only [Bool.and_eq_true, Bool.or_eq_true, Bool.not_eq_true', Bool.not_eq_false', Bool.and_eq_false_iff, Bool.or_eq_false_iff, Bool.not_not, decide_eq_true_eq, decide_eq_false_iff_not, ne_eq, Decidable.not_not, Bool.decide_eq_true] at H1
      refine G_region ?_
      refine G_store1 rfl rfl rfl rfl rfl rfl (.none rfl) (.tail _ (.tail _ (.tail _ (.head _ _ _)))) ?_
      refine G_end ?_
      refine X_then ?_
      refine G_seq ?_
      refine G_drawX 7 [(0, 1), (1, 0), (2, 0), (3, 1), (4, 1), (5, 4), (6, 0)] mixed (by kernel_rfl) ?_
      refine F_load rfl (.tail _ (.tail _ (.head _))) (V_load rfl rfl (Cell.own1 (.head _))) rfl rfl (.none rfl) ?_
      refine F_pure rfl (fun _ _ => V_nilCheck rfl rfl) rfl rfl (.none rfl) ?_
      refine F_pure rfl (fun _ _ => V_fieldAddr rfl rfl (by decide)) rfl rfl (.none rfl) ?_
      refine F_load rfl (.head _) (V_loadA rfl rfl (Cells.own (.head _)) rfl) rfl rfl (.none rfl) ?_
      refine F_load rfl (.tail _ (.tail _ (.tail _ (.head _)))) (V_load rfl rfl (Cell.own1 (.head _))) rfl rfl (.none rfl) ?_
      refine F_storeF rfl rfl rfl rfl rfl (by simp [Value.oneCell']) rfl (.none rfl) (.tail _ (.tail _ (.tail _ (.tail _ (.head _ _ _))))) (Nat.le_of_ble_eq_true rfl) (by simp only [putAll, Nat.zero_add, Nat.reduceAdd, List.setIfInBounds_toArray, List.set_cons_succ, List.set_cons_zero]; rfl) (.cons (by first | exact .refl _ | assumption) (by simp) (.cons (by first | exact .refl _ | assumption) (by simp) (.cons (by first | exact .refl _ | assumption) (by simp) (.nil)))) ?_
      refine F_pure rfl (fun _ _ => V_assign rfl rfl) rfl rfl (.none rfl) ?_
      (refine F_end (.nil _) ?_; dsimp only [List.drop])
      refine G_end ?_
      refine X_then ?_
      refine G_ret ?_
      refine G_leaveS (.drop _ (.drop _ (.drop _ (.drop _ (.drop _ (.drop _ (.nil _))))))) (by exact (.cons (.cellA rfl (Cells.own (.tail _ (.tail _ (.tail _ (.tail _ (.head _)))))) rfl) (.cons (.tmp rfl) (.nil)))) rfl ?_ ?_
      · exact (.refl _)
      exact ⟨(by first | rfl | (simp (discharger := omega) only [resVal, rfield, if_pos, if_neg]; first | done | rfl) | (simp [resVal, rfield, *]; done) | ((try simp only [resVal, rfield]); (repeat' split) <;> first | rfl | (exfalso; omega) | (simp_all; done) | (simp_all; omega))), (by first | rfl | (simp (discharger := omega) only [resVal, rfield, if_pos, if_neg]; first | done | rfl) | (simp [resVal, rfield, *]; done) | ((try simp only [resVal, rfield]); (repeat' split) <;> first | rfl | (exfalso; omega) | (simp_all; done) | (simp_all; omega)))⟩
    simp only [Bool.and_eq_true, Bool.or_eq_true, Bool.not_eq_true', Bool.not_eq_false', Bool.and_eq_false_iff, Bool.or_eq_false_iff, Bool.not_not, decide_eq_true_eq, decide_eq_false_iff_not, ne_eq, Decidable.not_not, Bool.decide_eq_true] at H1
    refine G_skip ?_
    refine X_then ?_
    refine G_seq ?_
    refine G_drawX 7 [(0, 1), (1, 0), (2, 0), (3, 1), (4, 1), (5, 4), (6, 0)] mixed (by kernel_rfl) ?_
    refine F_load rfl (.tail _ (.tail _ (.head _))) (V_load rfl rfl (Cell.own1 (.head _))) rfl rfl (.none rfl) ?_
    refine F_pure rfl (fun _ _ => V_nilCheck rfl rfl) rfl rfl (.none rfl) ?_
    refine F_pure rfl (fun _ _ => V_fieldAddr rfl rfl (by decide)) rfl rfl (.none rfl) ?_
    refine F_load rfl (.head _) (V_loadA rfl rfl (Cells.own (.head _)) rfl) rfl rfl (.none rfl) ?_
    refine F_load rfl (.tail _ (.tail _ (.tail _ (.head _)))) (V_load rfl rfl (Cell.own1 (.head _))) rfl rfl (.none rfl) ?_
    refine F_storeF rfl rfl rfl rfl rfl (by simp [Value.oneCell']) rfl (.none rfl) (.tail _ (.tail _ (.tail _ (.tail _ (.head _ _ _))))) (Nat.le_of_ble_eq_true rfl) (by simp only [putAll, Nat.zero_add, Nat.reduceAdd, List.setIfInBounds_toArray, List.set_cons_succ, List.set_cons_zero]; rfl) (.cons (by first | exact .refl _ | assumption) (by simp) (.cons (by first | exact .refl _ | assumption) (by simp) (.cons (by first | exact .refl _ | assumption) (by simp) (.nil)))) ?_
    refine F_pure rfl (fun _ _ => V_assign rfl rfl) rfl rfl (.none rfl) ?_
    (refine F_end (.nil _) ?_; dsimp only [List.drop])
    refine G_end ?_
    refine X_then ?_
    refine G_ret ?_
    refine G_leaveS (.drop _ (.drop _ (.drop _ (.drop _ (.drop _ (.drop _ (.nil _))))))) (by exact (.cons (.cellA rfl (Cells.own (.tail _ (.tail _ (.tail _ (.tail _ (.head _)))))) rfl) (.cons (.tmp rfl) (.nil)))) rfl ?_ ?_
    · exact (.refl _)
    exact ⟨(by first | rfl | (simp (discharger := omega) only [resVal, rfield, if_pos, if_neg]; first | done | rfl) | (simp [resVal, rfield, *]; done) | ((try simp only [resVal, rfield]); (repeat' split) <;> first | rfl | (exfalso; omega) | (simp_all; done) | (simp_all; omega))), (by first | rfl | (simp (discharger := omega) only [resVal, rfield, if_pos, if_neg]; first | done | rfl) | (simp [resVal, rfield, *]; done) | ((try simp only [resVal, rfield]); (repeat' split) <;> first | rfl | (exfalso; omega) | (simp_all; done) | (simp_all; omega)))⟩
  · refine G.front (.tail _ (.tail _ (.head _ _))) ?_
    refine G_call (k := 85) (.mk rfl rfl rfl rfl) rfl rfl (.none rfl) (field_no _ _ z5 q hq 94 [.pointer (some ⟨b3, 0, none⟩), .pointer (some ⟨b6, 0, none⟩), .pointer (some ⟨b7, 0, none⟩)]) ?_
    rintro r E' L' hE ⟨rfl, rfl, rfl⟩
    refine G_val (V_assign rfl rfl) rfl rfl (.none rfl) ?_
    refine G_end ?_
    refine X_then ?_
    refine G_seq ?_
    refine G_seq ?_
    refine G_region ?_
    refine G_val (V_move rfl rfl) rfl rfl (.none rfl) ?_
    refine G_val (V_not rfl rfl) rfl rfl (.none rfl) ?_
    refine G_end ?_
    refine X_then ?_
    refine G_cond_t rfl rfl ?_
    refine G_region ?_
    refine G_store1 rfl rfl rfl rfl rfl rfl (.none rfl) (.tail _ (.head _ _ _)) ?_
    refine G_end ?_
    refine X_then ?_
    refine G_seq ?_
    refine G_drawX 7 [(0, 1), (1, 0), (2, 0), (3, 1), (4, 1), (5, 4), (6, 0)] mixed (by kernel_rfl) ?_
    refine F_load rfl (.tail _ (.tail _ (.head _))) (V_load rfl rfl (Cell.own1 (.head _))) rfl rfl (.none rfl) ?_
    refine F_pure rfl (fun _ _ => V_nilCheck rfl rfl) rfl rfl (.none rfl) ?_
    refine F_pure rfl (fun _ _ => V_fieldAddr rfl rfl (by decide)) rfl rfl (.none rfl) ?_
    refine F_load rfl (.head _) (V_loadA rfl rfl (Cells.own (.head _)) rfl) rfl rfl (.none rfl) ?_
    refine F_load rfl (.tail _ (.head _)) (V_load rfl rfl (Cell.own1 (.head _))) rfl rfl (.none rfl) ?_
    refine F_storeF rfl rfl rfl rfl rfl (by simp [Value.oneCell']) rfl (.none rfl) (.tail _ (.tail _ (.tail _ (.head _ _ _)))) (Nat.le_of_ble_eq_true rfl) (by simp only [putAll, Nat.zero_add, Nat.reduceAdd, List.setIfInBounds_toArray, List.set_cons_succ, List.set_cons_zero]; rfl) (.cons (by first | exact .refl _ | assumption) (by simp) (.cons (by first | exact .refl _ | assumption) (by simp) (.cons (by first | exact .refl _ | assumption) (by simp) (.nil)))) ?_
    refine F_pure rfl (fun _ _ => V_assign rfl rfl) rfl rfl (.none rfl) ?_
    (refine F_end (.nil _) ?_; dsimp only [List.drop])
    refine G_end ?_
    refine X_then ?_
    refine G_ret ?_
    refine G_leaveS (.drop _ (.drop _ (.drop _ (.drop _ (.drop _ (.drop _ (.nil _))))))) (by exact (.cons (.cellA rfl (Cells.own (.tail _ (.tail _ (.tail _ (.head _))))) rfl) (.cons (.tmp rfl) (.nil)))) rfl ?_ ?_
    · exact (.refl _)
    exact ⟨(by first | rfl | (simp (discharger := omega) only [resVal, rfield, if_pos, if_neg]; first | done | rfl) | (simp [resVal, rfield, *]; done) | ((try simp only [resVal, rfield]); (repeat' split) <;> first | rfl | (exfalso; omega) | (simp_all; done) | (simp_all; omega))), (by first | rfl | (simp (discharger := omega) only [resVal, rfield, if_pos, if_neg]; first | done | rfl) | (simp [resVal, rfield, *]; done) | ((try simp only [resVal, rfield]); (repeat' split) <;> first | rfl | (exfalso; omega) | (simp_all; done) | (simp_all; omega)))⟩
end Go.Proofs.Ytlkfbokdbfnicaa
