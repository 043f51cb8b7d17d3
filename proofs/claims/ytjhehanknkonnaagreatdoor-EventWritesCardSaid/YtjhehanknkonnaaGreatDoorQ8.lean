/-
  Rules and contracts, packed: C4, C5, C9, C11, C6, C7, C10, C12, C13, C14, C15, C18, C20, C16, Vback, C22, W31, Sep44, T17, W21, W22, W23, W3, Sep37.
-/
import Derived.Lib.Hide
import Derived.Test.YtjhehanknkonnaaGreatDoorQ7
set_option maxHeartbeats 1000000
set_option linter.unusedSimpArgs false
set_option linter.unusedVariables false
set_option maxHeartbeats 2000000
set_option maxRecDepth 20000
namespace Go.Proofs.YtjhehanknkonnaaGreatDoor
open Go.RowKit

/-- A field of a reader as it counts. -/
def rfield {α : Type} (q : Rdr) (f : Rdr × α) (z : α) : Rdr × α := if q.e = 0 then (rback q.at' f.1, if f.1.e = 0 then f.2 else z) else (q, z)
theorem rback_e (a : Int) (q : Rdr) : (rback a q).e = q.e := by unfold rback; split <;> rfl

theorem Number_call (E : Env) (L : List Res) (s : List UInt8) (hs : s.length ≤ 1000000000000) (a e f : Int) (least most : Int) (hm : most ≤ 9223372036854775807) :
    CallV Tryz.prog 63 #[.agg #[.string (S s), .int .i64 a, .int .i64 e, .int .i64 f], .int .i64 least, .int .i64 most] E L (.tuple #[(rfield (rbegin ⟨s, a, e, f⟩) (rnum (rbegin ⟨s, a, e, f⟩) least most 0) 0).1.v, .int .i64 (rfield (rbegin ⟨s, a, e, f⟩) (rnum (rbegin ⟨s, a, e, f⟩) least most 0) 0).2]) := by
  refine CallS.toV (CallS.intro (l := [.agg #[.string (S s), .int .i64 a, .int .i64 e, .int .i64 f], .int .i64 least, .int .i64 most]) _ Tryz.func63 rfl Tryz.ntmps63 rfl ?_)
  have hok := rbegin_ok ⟨s, a, e, f⟩
  refine G_seq (G_region ?_)
  (refine G_boxA rfl rfl rfl rfl (.none rfl) ?_; intro b3)
  (refine G_box1 rfl rfl rfl rfl rfl (.none rfl) ?_; intro b4)
  (refine G_box1 rfl rfl rfl rfl rfl (.none rfl) ?_; intro b5)
  (refine G_alloc rfl rfl rfl (.none rfl) ?_; intro b6)
  refine Ga ?_
  refine G_end (X_then (G_seq (G_region ?_)))
  refine Gv (V_loadA rfl rfl (Cells.own (.tail _ (.tail _ (.tail _ (.head _))))) rfl) ?_
  refine G_call (k := 97) (.mk rfl rfl rfl rfl) rfl rfl (.none rfl) (begin_call _ _ _ (by assumption) _ _ _) ?_
  rintro r1 E2 L3 hE4 ⟨z5, ⟨z6, ⟨rfl, ⟨rfl, ⟨rfl, rfl⟩⟩⟩⟩⟩
  (refine G_alloc rfl rfl rfl (.none rfl) ?_; intro b8)
  (refine G_alloc rfl rfl rfl (.none rfl) ?_; intro b9)
  refine G_store1 rfl rfl rfl rfl rfl rfl (.none rfl) (.tail _ (.head _ _ _)) ?_
  refine G_store1 rfl rfl rfl rfl rfl rfl (.none rfl) (.head _ _ _) ?_
  refine G_end (X_then (G_seq (G_region ?_)))
  refine Gv (V_load rfl rfl (Cell.own1 (.tail _ (.head _)))) ?_
  refine Gv (V_makeFunc rfl rfl rfl) ?_
  generalize rbegin ⟨s, a, e, f⟩ = q at *
  obtain ⟨h1, h2, h3, h4⟩ := hok
  by_cases hq : q.e = 0
  · have hfa : q.fa = 0 := by omega
    refine G.front (.tail _ (.tail _ (.tail _ (.tail _ (.head _ _))))) ?_
    refine G.front (.tail _ (.tail _ (.tail _ (.tail _ (.tail _ (.head _ _)))))) ?_
    refine G.front (.tail _ (.tail _ (.tail _ (.head _ _)))) ?_
    refine G.front (.tail _ (.tail _ (.tail _ (.tail _ (.head _ _))))) ?_
    refine G_call (k := 98) (.mk rfl rfl rfl rfl) rfl rfl (.none rfl) (field_yes _ _ [PB b8 z5, IB b4 least, IB b5 most, IB b9 0] z5 q hq 99 [.pointer (some ⟨b8, 0, none⟩), .pointer (some ⟨b4, 0, none⟩), .pointer (some ⟨b5, 0, none⟩), .pointer (some ⟨b9, 0, none⟩)] (rnum q least most 0).1 (fun _ : Unit => [PB b8 z5, IB b4 least, IB b5 most, IB b9 (rnum q least most 0).2]) (fun M => CallS.mono (Number1_call _ M b8 b4 b5 b9 z5 q (by omega) hq least most 0 hm) (by rintro r E' L' hE ⟨rfl, rfl⟩; exact ⟨rfl, (), rfl⟩))) ?_
    rintro r E' L' hE ⟨x, rfl, rfl, rfl⟩
    dsimp only [List.cons_append, List.nil_append]
    have hbe := rback_e q.at' (rnum q least most 0).1
    refine Ga ?_
    refine G_end (X_then (G_seq (G_seq (G_region ?_))))
    refine Gm ?_
    refine Gv (V_not rfl rfl) ?_
    refine G_end (X_then ?_)
    refine G_cond rfl (fun H1 => ?_) (fun H1 => ?_)
    · simp only [Bool.and_eq_true, Bool.or_eq_true, Bool.not_eq_true', Bool.not_eq_false', Bool.and_eq_false_iff, Bool.or_eq_false_iff, Bool.not_not, decide_eq_true_eq, decide_eq_false_iff_not, ne_eq, Decidable.not_not, Bool.decide_eq_true] at H1
      refine G_region ?_
      refine G_store1 rfl rfl rfl rfl rfl rfl (.none rfl) (.tail _ (.tail _ (.tail _ (.tail _ (.head _ _ _))))) ?_
      refine G_end (X_then (G_seq ?_))
      refine G_drawX 7 [(0, 1), (1, 0), (2, 0), (3, 1), (4, 1), (5, 4), (6, 0)] mixed (by kernel_rfl) ?_
      refine F_load rfl (.tail _ (.head _)) (V_load rfl rfl (Cell.own1 (.head _))) rfl rfl (.none rfl) ?_
      refine F_pure rfl (fun _ _ => V_nilCheck rfl rfl) rfl rfl (.none rfl) ?_
      refine F_pure rfl (fun _ _ => V_fieldAddr rfl rfl (by decide)) rfl rfl (.none rfl) ?_
      refine F_load rfl (.head _) (V_loadA rfl rfl (Cells.own (.head _)) rfl) rfl rfl (.none rfl) ?_
      refine F_load rfl (.tail _ (.tail _ (.tail _ (.tail _ (.head _))))) (V_load rfl rfl (Cell.own1 (.head _))) rfl rfl (.none rfl) ?_
      refine F_storeF rfl rfl rfl rfl rfl (by simp [Value.oneCell']) rfl (.none rfl) (.tail _ (.tail _ (.tail _ (.tail _ (.tail _ (.head _ _ _)))))) (Nat.le_of_ble_eq_true rfl) (by simp only [putAll, Nat.zero_add, Nat.reduceAdd, List.setIfInBounds_toArray, List.set_cons_succ, List.set_cons_zero]; rfl) (.cons (by exact .refl _) (by simp) (.drop (by kernel_rfl) (.drop (by kernel_rfl) (.nil)))) ?_
      refine F_pure rfl (fun _ _ => V_assign rfl rfl) rfl rfl (.none rfl) ?_
      (refine F_end (.nil _) ?_; dsimp only [List.drop])
      refine G_end (X_then (G_ret ?_))
      refine G_leaveS (.drop _ (.drop _ (.drop _ (.drop _ (.drop _ (.drop _ (.drop _ (.nil _)))))))) (by exact (.cons (.cellA rfl (Cells.own (.tail _ (.tail _ (.tail _ (.tail _ (.tail _ (.head _))))))) rfl) (.cons (.tmp rfl) (.nil)))) rfl ?_ ?_
      · exact (.refl _)
      exact ⟨(by (simp (discharger := omega) only [resVal, rfield, if_pos, if_neg]; first | done | rfl)), (by rfl)⟩
    simp only [Bool.and_eq_true, Bool.or_eq_true, Bool.not_eq_true', Bool.not_eq_false', Bool.and_eq_false_iff, Bool.or_eq_false_iff, Bool.not_not, decide_eq_true_eq, decide_eq_false_iff_not, ne_eq, Decidable.not_not, Bool.decide_eq_true] at H1
    refine G_skip (X_then (G_seq ?_))
    refine G_drawX 7 [(0, 1), (1, 0), (2, 0), (3, 1), (4, 1), (5, 4), (6, 0)] mixed (by kernel_rfl) ?_
    refine F_load rfl (.tail _ (.head _)) (V_load rfl rfl (Cell.own1 (.head _))) rfl rfl (.none rfl) ?_
    refine F_pure rfl (fun _ _ => V_nilCheck rfl rfl) rfl rfl (.none rfl) ?_
    refine F_pure rfl (fun _ _ => V_fieldAddr rfl rfl (by decide)) rfl rfl (.none rfl) ?_
    refine F_load rfl (.head _) (V_loadA rfl rfl (Cells.own (.head _)) rfl) rfl rfl (.none rfl) ?_
    refine F_load rfl (.tail _ (.tail _ (.tail _ (.tail _ (.head _))))) (V_load rfl rfl (Cell.own1 (.head _))) rfl rfl (.none rfl) ?_
    refine F_storeF rfl rfl rfl rfl rfl (by simp [Value.oneCell']) rfl (.none rfl) (.tail _ (.tail _ (.tail _ (.tail _ (.tail _ (.head _ _ _)))))) (Nat.le_of_ble_eq_true rfl) (by simp only [putAll, Nat.zero_add, Nat.reduceAdd, List.setIfInBounds_toArray, List.set_cons_succ, List.set_cons_zero]; rfl) (.cons (by exact .refl _) (by simp) (.drop (by kernel_rfl) (.drop (by kernel_rfl) (.nil)))) ?_
    refine F_pure rfl (fun _ _ => V_assign rfl rfl) rfl rfl (.none rfl) ?_
    (refine F_end (.nil _) ?_; dsimp only [List.drop])
    refine G_end (X_then (G_ret ?_))
    refine G_leaveS (.drop _ (.drop _ (.drop _ (.drop _ (.drop _ (.drop _ (.drop _ (.nil _)))))))) (by exact (.cons (.cellA rfl (Cells.own (.tail _ (.tail _ (.tail _ (.tail _ (.tail _ (.head _))))))) rfl) (.cons (.tmp rfl) (.nil)))) rfl ?_ ?_
    · exact (.refl _)
    exact ⟨(by (simp (discharger := omega) only [resVal, rfield, if_pos, if_neg]; first | done | rfl)), (by rfl)⟩
  · refine G.front (.tail _ (.tail _ (.head _ _))) ?_
    refine G_call (k := 98) (.mk rfl rfl rfl rfl) rfl rfl (.none rfl) (field_no _ _ z5 q hq 99 [.pointer (some ⟨b8, 0, none⟩), .pointer (some ⟨b4, 0, none⟩), .pointer (some ⟨b5, 0, none⟩), .pointer (some ⟨b9, 0, none⟩)]) ?_
    rintro r E' L' hE ⟨rfl, rfl, rfl⟩
    refine Ga ?_
    refine G_end (X_then (G_seq (G_seq (G_region ?_))))
    refine Gm ?_
    refine Gv (V_not rfl rfl) ?_
    refine G_end (X_then ?_)
    refine G_cond_t rfl (by kernel_rfl) ?_
    refine G_region ?_
    refine G_store1 rfl rfl rfl rfl rfl rfl (.none rfl) (.tail _ (.head _ _ _)) ?_
    refine G_end (X_then (G_seq ?_))
    refine G_drawX 7 [(0, 1), (1, 0), (2, 0), (3, 1), (4, 1), (5, 4), (6, 0)] mixed (by kernel_rfl) ?_
    refine F_load rfl (.tail _ (.tail _ (.head _))) (V_load rfl rfl (Cell.own1 (.head _))) rfl rfl (.none rfl) ?_
    refine F_pure rfl (fun _ _ => V_nilCheck rfl rfl) rfl rfl (.none rfl) ?_
    refine F_pure rfl (fun _ _ => V_fieldAddr rfl rfl (by decide)) rfl rfl (.none rfl) ?_
    refine F_load rfl (.head _) (V_loadA rfl rfl (Cells.own (.head _)) rfl) rfl rfl (.none rfl) ?_
    refine F_load rfl (.tail _ (.head _)) (V_load rfl rfl (Cell.own1 (.head _))) rfl rfl (.none rfl) ?_
    refine F_storeF rfl rfl rfl rfl rfl (by simp [Value.oneCell']) rfl (.none rfl) (.tail _ (.tail _ (.tail _ (.head _ _ _)))) (Nat.le_of_ble_eq_true rfl) (by simp only [putAll, Nat.zero_add, Nat.reduceAdd, List.setIfInBounds_toArray, List.set_cons_succ, List.set_cons_zero]; rfl) (.cons (by exact .refl _) (by simp) (.drop (by kernel_rfl) (.drop (by kernel_rfl) (.nil)))) ?_
    refine F_pure rfl (fun _ _ => V_assign rfl rfl) rfl rfl (.none rfl) ?_
    (refine F_end (.nil _) ?_; dsimp only [List.drop])
    refine G_end (X_then (G_ret ?_))
    refine G_leaveS (.drop _ (.drop _ (.drop _ (.drop _ (.drop _ (.drop _ (.drop _ (.nil _)))))))) (by exact (.cons (.cellA rfl (Cells.own (.tail _ (.tail _ (.tail _ (.head _))))) rfl) (.cons (.tmp rfl) (.nil)))) rfl ?_ ?_
    · exact (.refl _)
    exact ⟨(by (simp (discharger := omega) only [resVal, rfield, if_pos, if_neg]; first | done | rfl)), (by rfl)⟩
theorem String_call (E : Env) (L : List Res) (s : List UInt8) (hs : s.length ≤ 1000000000000) (a e f : Int) (most : Int) (hm : most ≤ 9223372036854775807) :
    CallV Tryz.prog 64 #[.agg #[.string (S s), .int .i64 a, .int .i64 e, .int .i64 f], .int .i64 most] E L (.tuple #[(rfield (rbegin ⟨s, a, e, f⟩) (rstr (rbegin ⟨s, a, e, f⟩) most []) []).1.v, .string (S (rfield (rbegin ⟨s, a, e, f⟩) (rstr (rbegin ⟨s, a, e, f⟩) most []) []).2)]) := by
  refine CallS.toV (CallS.intro (l := [.agg #[.string (S s), .int .i64 a, .int .i64 e, .int .i64 f], .int .i64 most]) _ Tryz.func64 rfl Tryz.ntmps64 rfl ?_)
  have hok := rbegin_ok ⟨s, a, e, f⟩
  refine G_seq (G_region ?_)
  (refine G_boxA rfl rfl rfl rfl (.none rfl) ?_; intro b2)
  (refine G_box1 rfl rfl rfl rfl rfl (.none rfl) ?_; intro b3)
  (refine G_alloc rfl rfl rfl (.none rfl) ?_; intro b4)
  refine Ga ?_
  refine G_end (X_then (G_seq (G_region ?_)))
  refine Gv (V_loadA rfl rfl (Cells.own (.tail _ (.tail _ (.head _)))) rfl) ?_
  refine G_call (k := 97) (.mk rfl rfl rfl rfl) rfl rfl (.none rfl) (begin_call _ _ _ (by assumption) _ _ _) ?_
  rintro r1 E2 L3 hE4 ⟨z5, ⟨z6, ⟨rfl, ⟨rfl, ⟨rfl, rfl⟩⟩⟩⟩⟩
  (refine G_alloc rfl rfl rfl (.none rfl) ?_; intro b6)
  (refine G_alloc rfl rfl rfl (.none rfl) ?_; intro b7)
  refine G_store1 rfl rfl rfl rfl rfl rfl (.none rfl) (.tail _ (.head _ _ _)) ?_
  refine G_store1 rfl rfl rfl rfl rfl rfl (.none rfl) (.head _ _ _) ?_
  refine G_end (X_then (G_seq (G_region ?_)))
  refine Gv (V_load rfl rfl (Cell.own1 (.tail _ (.head _)))) ?_
  refine Gv (V_makeFunc rfl rfl rfl) ?_
  generalize rbegin ⟨s, a, e, f⟩ = q at *
  obtain ⟨h1, h2, h3, h4⟩ := hok
  by_cases hq : q.e = 0
  · have hfa : q.fa = 0 := by omega
    refine G.front (.tail _ (.tail _ (.tail _ (.tail _ (.head _ _))))) ?_
    refine G.front (.tail _ (.tail _ (.head _ _))) ?_
    refine G.front (.tail _ (.tail _ (.tail _ (.head _ _)))) ?_
    refine G_call (k := 98) (.mk rfl rfl rfl rfl) rfl rfl (.none rfl) (field_yes _ _ [PB b6 z5, IB b3 most, SB b7 []] z5 q hq 102 [.pointer (some ⟨b6, 0, none⟩), .pointer (some ⟨b3, 0, none⟩), .pointer (some ⟨b7, 0, none⟩)] (rstr q most []).1 (fun _ : Unit => [PB b6 z5, IB b3 most, SB b7 (rstr q most []).2]) (fun M => CallS.mono (String1_call _ M b6 b3 b7 z5 q (by omega) hq hfa h2 h3 most hm []) (by rintro r E' L' hE ⟨rfl, rfl⟩; exact ⟨rfl, (), rfl⟩))) ?_
    rintro r E' L' hE ⟨x, rfl, rfl, rfl⟩
    dsimp only [List.cons_append, List.nil_append]
    have hbe := rback_e q.at' (rstr q most []).1
    refine Ga ?_
    refine G_end (X_then (G_seq (G_seq (G_region ?_))))
    refine Gm ?_
    refine Gv (V_not rfl rfl) ?_
    refine G_end (X_then ?_)
    refine G_cond rfl (fun H1 => ?_) (fun H1 => ?_)
    · simp only [Bool.and_eq_true, Bool.or_eq_true, Bool.not_eq_true', Bool.not_eq_false', Bool.and_eq_false_iff, Bool.or_eq_false_iff, Bool.not_not, decide_eq_true_eq, decide_eq_false_iff_not, ne_eq, Decidable.not_not, Bool.decide_eq_true] at H1
      refine G_region ?_
      refine G_store1 rfl rfl rfl rfl rfl rfl (.none rfl) (.tail _ (.tail _ (.tail _ (.head _ _ _)))) ?_
      refine G_end (X_then (G_seq ?_))
      refine G_drawX 7 [(0, 1), (1, 0), (2, 0), (3, 1), (4, 1), (5, 4), (6, 0)] mixed (by kernel_rfl) ?_
      refine F_load rfl (.tail _ (.head _)) (V_load rfl rfl (Cell.own1 (.head _))) rfl rfl (.none rfl) ?_
      refine F_pure rfl (fun _ _ => V_nilCheck rfl rfl) rfl rfl (.none rfl) ?_
      refine F_pure rfl (fun _ _ => V_fieldAddr rfl rfl (by decide)) rfl rfl (.none rfl) ?_
      refine F_load rfl (.head _) (V_loadA rfl rfl (Cells.own (.head _)) rfl) rfl rfl (.none rfl) ?_
      refine F_load rfl (.tail _ (.tail _ (.tail _ (.head _)))) (V_load rfl rfl (Cell.own1 (.head _))) rfl rfl (.none rfl) ?_
      refine F_storeF rfl rfl rfl rfl rfl (by simp [Value.oneCell']) rfl (.none rfl) (.tail _ (.tail _ (.tail _ (.tail _ (.head _ _ _))))) (Nat.le_of_ble_eq_true rfl) (by simp only [putAll, Nat.zero_add, Nat.reduceAdd, List.setIfInBounds_toArray, List.set_cons_succ, List.set_cons_zero]; rfl) (.cons (by exact .refl _) (by simp) (.drop (by kernel_rfl) (.drop (by kernel_rfl) (.nil)))) ?_
      refine F_pure rfl (fun _ _ => V_assign rfl rfl) rfl rfl (.none rfl) ?_
      (refine F_end (.nil _) ?_; dsimp only [List.drop])
      refine G_end (X_then (G_ret ?_))
      refine G_leaveS (.drop _ (.drop _ (.drop _ (.drop _ (.drop _ (.drop _ (.nil _))))))) (by exact (.cons (.cellA rfl (Cells.own (.tail _ (.tail _ (.tail _ (.tail _ (.head _)))))) rfl) (.cons (.tmp rfl) (.nil)))) rfl ?_ ?_
      · exact (.refl _)
      exact ⟨(by (simp (discharger := omega) only [resVal, rfield, if_pos, if_neg]; first | done | rfl)), (by rfl)⟩
    simp only [Bool.and_eq_true, Bool.or_eq_true, Bool.not_eq_true', Bool.not_eq_false', Bool.and_eq_false_iff, Bool.or_eq_false_iff, Bool.not_not, decide_eq_true_eq, decide_eq_false_iff_not, ne_eq, Decidable.not_not, Bool.decide_eq_true] at H1
    refine G_skip (X_then (G_seq ?_))
    refine G_drawX 7 [(0, 1), (1, 0), (2, 0), (3, 1), (4, 1), (5, 4), (6, 0)] mixed (by kernel_rfl) ?_
    refine F_load rfl (.tail _ (.head _)) (V_load rfl rfl (Cell.own1 (.head _))) rfl rfl (.none rfl) ?_
    refine F_pure rfl (fun _ _ => V_nilCheck rfl rfl) rfl rfl (.none rfl) ?_
    refine F_pure rfl (fun _ _ => V_fieldAddr rfl rfl (by decide)) rfl rfl (.none rfl) ?_
    refine F_load rfl (.head _) (V_loadA rfl rfl (Cells.own (.head _)) rfl) rfl rfl (.none rfl) ?_
    refine F_load rfl (.tail _ (.tail _ (.tail _ (.head _)))) (V_load rfl rfl (Cell.own1 (.head _))) rfl rfl (.none rfl) ?_
    refine F_storeF rfl rfl rfl rfl rfl (by simp [Value.oneCell']) rfl (.none rfl) (.tail _ (.tail _ (.tail _ (.tail _ (.head _ _ _))))) (Nat.le_of_ble_eq_true rfl) (by simp only [putAll, Nat.zero_add, Nat.reduceAdd, List.setIfInBounds_toArray, List.set_cons_succ, List.set_cons_zero]; rfl) (.cons (by exact .refl _) (by simp) (.drop (by kernel_rfl) (.drop (by kernel_rfl) (.nil)))) ?_
    refine F_pure rfl (fun _ _ => V_assign rfl rfl) rfl rfl (.none rfl) ?_
    (refine F_end (.nil _) ?_; dsimp only [List.drop])
    refine G_end (X_then (G_ret ?_))
    refine G_leaveS (.drop _ (.drop _ (.drop _ (.drop _ (.drop _ (.drop _ (.nil _))))))) (by exact (.cons (.cellA rfl (Cells.own (.tail _ (.tail _ (.tail _ (.tail _ (.head _)))))) rfl) (.cons (.tmp rfl) (.nil)))) rfl ?_ ?_
    · exact (.refl _)
    exact ⟨(by (simp (discharger := omega) only [resVal, rfield, if_pos, if_neg]; first | done | rfl)), (by rfl)⟩
  · refine G.front (.tail _ (.tail _ (.head _ _))) ?_
    refine G_call (k := 98) (.mk rfl rfl rfl rfl) rfl rfl (.none rfl) (field_no _ _ z5 q hq 102 [.pointer (some ⟨b6, 0, none⟩), .pointer (some ⟨b3, 0, none⟩), .pointer (some ⟨b7, 0, none⟩)]) ?_
    rintro r E' L' hE ⟨rfl, rfl, rfl⟩
    refine Ga ?_
    refine G_end (X_then (G_seq (G_seq (G_region ?_))))
    refine Gm ?_
    refine Gv (V_not rfl rfl) ?_
    refine G_end (X_then ?_)
    refine G_cond_t rfl (by kernel_rfl) ?_
    refine G_region ?_
    refine G_store1 rfl rfl rfl rfl rfl rfl (.none rfl) (.tail _ (.head _ _ _)) ?_
    refine G_end (X_then (G_seq ?_))
    refine G_drawX 7 [(0, 1), (1, 0), (2, 0), (3, 1), (4, 1), (5, 4), (6, 0)] mixed (by kernel_rfl) ?_
    refine F_load rfl (.tail _ (.tail _ (.head _))) (V_load rfl rfl (Cell.own1 (.head _))) rfl rfl (.none rfl) ?_
    refine F_pure rfl (fun _ _ => V_nilCheck rfl rfl) rfl rfl (.none rfl) ?_
    refine F_pure rfl (fun _ _ => V_fieldAddr rfl rfl (by decide)) rfl rfl (.none rfl) ?_
    refine F_load rfl (.head _) (V_loadA rfl rfl (Cells.own (.head _)) rfl) rfl rfl (.none rfl) ?_
    refine F_load rfl (.tail _ (.head _)) (V_load rfl rfl (Cell.own1 (.head _))) rfl rfl (.none rfl) ?_
    refine F_storeF rfl rfl rfl rfl rfl (by simp [Value.oneCell']) rfl (.none rfl) (.tail _ (.tail _ (.tail _ (.head _ _ _)))) (Nat.le_of_ble_eq_true rfl) (by simp only [putAll, Nat.zero_add, Nat.reduceAdd, List.setIfInBounds_toArray, List.set_cons_succ, List.set_cons_zero]; rfl) (.cons (by exact .refl _) (by simp) (.drop (by kernel_rfl) (.drop (by kernel_rfl) (.nil)))) ?_
    refine F_pure rfl (fun _ _ => V_assign rfl rfl) rfl rfl (.none rfl) ?_
    (refine F_end (.nil _) ?_; dsimp only [List.drop])
    refine G_end (X_then (G_ret ?_))
    refine G_leaveS (.drop _ (.drop _ (.drop _ (.drop _ (.drop _ (.drop _ (.nil _))))))) (by exact (.cons (.cellA rfl (Cells.own (.tail _ (.tail _ (.tail _ (.head _))))) rfl) (.cons (.tmp rfl) (.nil)))) rfl ?_ ?_
    · exact (.refl _)
    exact ⟨(by (simp (discharger := omega) only [resVal, rfield, if_pos, if_neg]; first | done | rfl)), (by rfl)⟩
end Go.Proofs.YtjhehanknkonnaaGreatDoor
set_option linter.unusedSimpArgs false
set_option linter.unusedVariables false
set_option maxHeartbeats 2000000
set_option maxRecDepth 20000
namespace Go.Proofs.YtjhehanknkonnaaGreatDoor
open Go.RowKit

/-- One number of a list. -/
def rone (q : Rdr) (least most : Int) : Rdr × Int :=
  if (rwide q).1.e = 0 ∧ (unzig (rwide q).2 < least ∨ most < unzig (rwide q).2) then (⟨(rwide q).1.s, (rwide q).1.at', 2, q.at'⟩, unzig (rwide q).2) else ((rwide q).1, unzig (rwide q).2)

def rintsK (least most : Int) : Nat → Rdr → List Int → Rdr × List Int
  | 0, q, out => (q, out)
  | k + 1, q, out => if (rone q least most).1.e = 0 then rintsK least most k (rone q least most).1 (out ++ [(rone q least most).2]) else ((rone q least most).1, out ++ [(rone q least most).2])
/-- A list of numbers. -/
def rints (q : Rdr) (most least great : Int) : Rdr × List Int :=
  if most < 0 ∨ great < least then (⟨q.s, q.at', 2, q.at'⟩, [])
  else if (rwide q).1.e ≠ 0 then ((rwide q).1, [])
  else if most < ((rwide q).2 : Int) then (⟨(rwide q).1.s, (rwide q).1.at', 4, q.at'⟩, [])
  else rintsK least great (rwide q).2 (rwide q).1 []
theorem rone_props (q : Rdr) (h0 : q.e = 0) (hf : q.fa = 0) (ha : 0 ≤ q.at') (hl : q.at' ≤ q.s.length) (least most : Int) :
    (rone q least most).1.s = q.s ∧ ((rone q least most).1.e = 0 → q.at' < (rone q least most).1.at' ∧ (rone q least most).1.at' ≤ q.s.length ∧ (rone q least most).1.fa = 0) ∧
    ((rone q least most).1.e ≠ 0 → 1 ≤ (rone q least most).1.e ∧ (rone q least most).1.e ≤ 31 ∧ 0 ≤ (rone q least most).1.fa ∧ (rone q least most).1.fa ≤ q.s.length) := by
  obtain ⟨h1, h2⟩ := rwide_props q h0 hf ha hl
  have h3 := rwide_s q
  unfold rone
  split
  · rename_i h
    refine ⟨h3, fun h => absurd (show (2 : Int) = 0 from h) (by decide), fun _ => ?_⟩
    show (1 : Int) ≤ 2 ∧ (2 : Int) ≤ 31 ∧ 0 ≤ q.at' ∧ q.at' ≤ _
    omega
  · refine ⟨h3, fun h => ?_, fun h => ?_⟩
    · have := h1 h; exact ⟨this.1, this.2.1, this.2.2.1⟩
    · have := h2 h; exact this.2.2

end Go.Proofs.YtjhehanknkonnaaGreatDoor
set_option linter.unusedSimpArgs false
set_option linter.unusedVariables false
set_option maxHeartbeats 2000000
set_option maxRecDepth 20000
namespace Go.Proofs.YtjhehanknkonnaaGreatDoor
open Go.RowKit

theorem Make_call (E : Env) (L : List Res) (m : Int) : CallV Tryz.prog 44 #[.int .i64 m] E L (wstart ⟨[], m, 0⟩).v := by
  refine CallS.toV (CallS.intro (l := [.int .i64 m]) _ Tryz.func44 rfl Tryz.ntmps44 rfl ?_)
  refine G_seq (G_region ?_)
  (refine G_alloc rfl rfl rfl (.none rfl) ?_; intro b2)
  refine G_end (X_then (G_seq (G_region ?_)))
  refine Gm ?_
  refine Gv (V_build rfl rfl (by simp [fillV, setLs, setL, Value.cells]; rfl)) ?_
  refine G_call (k := 78) (.mk rfl rfl rfl rfl) rfl rfl (.none rfl) (start_call _ _ _ (by (simp; done)) _ _) ?_
  rintro r1 E2 L3 hE4 ⟨z5, ⟨rfl, ⟨rfl, rfl⟩⟩⟩
  refine Gv (V_nilCheck rfl rfl) ?_
  refine Gv (V_fieldAddr rfl rfl (by decide)) ?_
  refine Gv (V_loadA rfl rfl (Cells.own (.head _)) rfl) ?_
  refine G_storeA rfl rfl rfl rfl (by simp [Value.oneCell']) rfl (.none rfl) (.tail _ (.head _ _ _)) rfl ?_
  refine G_end (X_then (G_ret ?_))
  refine G_leaveS (.drop _ (.drop _ (.nil _))) (by exact (.cons (.cellA rfl (Cells.own (.tail _ (.head _))) rfl) (.nil))) rfl ?_ ?_
  · exact (.refl _)
  exact ⟨rfl, rfl⟩
theorem Done_call (E : Env) (L : List Res) (s : List UInt8) (hs : s.length ≤ 1000000000000) (m e : Int) :
    CallV Tryz.prog 46 #[.agg #[.string (S s), .int .i64 m, .int .i64 e]] E L (.tuple #[.string (S (if (wstart ⟨s, m, e⟩).e = 0 then (wstart ⟨s, m, e⟩).s else [])), .int .i64 (wstart ⟨s, m, e⟩).e]) := by
  refine CallS.toV (CallS.intro (l := [.agg #[.string (S s), .int .i64 m, .int .i64 e]]) _ Tryz.func46 rfl Tryz.ntmps46 rfl ?_)
  refine G_seq (G_region ?_)
  (refine G_boxA rfl rfl rfl rfl (.none rfl) ?_; intro b1)
  refine Ga ?_
  refine Ga ?_
  refine G_end (X_then (G_seq (G_region ?_)))
  refine Gv (V_loadA rfl rfl (Cells.own (.head _)) rfl) ?_
  refine G_call (k := 78) (.mk rfl rfl rfl rfl) rfl rfl (.none rfl) (start_call _ _ _ (by assumption) _ _) ?_
  rintro r1 E2 L3 hE4 ⟨z5, ⟨rfl, ⟨rfl, rfl⟩⟩⟩
  refine Ga ?_
  refine G_end (X_then (G_seq (G_seq (G_region ?_))))
  refine Gm ?_
  refine Gv (V_nilCheck rfl rfl) ?_
  refine Gv (V_fieldAddr rfl rfl (by decide)) ?_
  refine Gv (V_fieldAddr rfl rfl (by decide)) ?_
  refine Gv (V_load rfl rfl (Cell.own (.head _) rfl)) ?_
  refine Gv (V_neq rfl rfl rfl) ?_
  refine G_end (X_then ?_)
  refine G_cond rfl (fun H6 => ?_) (fun H6 => ?_)
  · simp only [Bool.and_eq_true, Bool.or_eq_true, Bool.not_eq_true', Bool.not_eq_false', Bool.and_eq_false_iff, Bool.or_eq_false_iff, Bool.not_not, decide_eq_true_eq, decide_eq_false_iff_not, ne_eq, Decidable.not_not, Bool.decide_eq_true] at H6
    refine G_seq ?_
    refine G_draw mixed (by kernel_rfl) ?_
    refine Q_val (V_move rfl rfl) rfl rfl (.none rfl) ?_
    refine Q_val (V_nilCheck rfl rfl) rfl rfl (.none rfl) ?_
    refine Q_val (V_fieldAddr rfl rfl (by decide)) rfl rfl (.none rfl) ?_
    refine Q_val (V_fieldAddr rfl rfl (by decide)) rfl rfl (.none rfl) ?_
    refine Q_val (V_load rfl rfl (Cell.own (.head _) rfl)) rfl rfl (.none rfl) ?_
    refine Q_val (V_assign rfl rfl) rfl rfl (.none rfl) ?_
    refine Q_val (V_assign rfl rfl) rfl rfl (.none rfl) ?_
    refine Q_end ?_
    refine X_then (G_ret (X_then_ret ?_))
    refine G_leaveS (.drop _ (.drop _ (.nil _))) (by exact (.cons (.tmp rfl) (.cons (.tmp rfl) (.nil)))) rfl ?_ ?_
    · exact (.refl _)
    exact ⟨(by (simp (discharger := omega) only [resVal, if_pos, if_neg]; first | done | rfl)), (by rfl)⟩
  simp only [Bool.and_eq_true, Bool.or_eq_true, Bool.not_eq_true', Bool.not_eq_false', Bool.and_eq_false_iff, Bool.or_eq_false_iff, Bool.not_not, decide_eq_true_eq, decide_eq_false_iff_not, ne_eq, Decidable.not_not, Bool.decide_eq_true] at H6
  refine G_skip (X_then (G_seq (G_region ?_)))
  refine Gm ?_
  refine Gv (V_nilCheck rfl rfl) ?_
  refine Gv (V_fieldAddr rfl rfl (by decide)) ?_
  refine Gv (V_fieldAddr rfl rfl (by decide)) ?_
  refine Gv (V_load rfl rfl (Cell.own (.head _) rfl)) ?_
  refine Ga ?_
  refine Ga ?_
  refine G_end (X_then (G_ret ?_))
  refine G_leaveS (.drop _ (.drop _ (.nil _))) (by exact (.cons (.tmp rfl) (.cons (.tmp rfl) (.nil)))) rfl ?_ ?_
  · exact (.refl _)
  exact ⟨(by (simp [resVal, *]; done)), (by rfl)⟩
theorem Put_call (E : Env) (L : List Res) (s : List UInt8) (hs : s.length ≤ 1000000000000) (m e : Int) (n : Nat) (hn : n < 18446744073709551616) :
    CallV Tryz.prog 43 #[.agg #[.string (S s), .int .i64 m, .int .i64 e], .int .u64 n] E L (wput (wstart ⟨s, m, e⟩) [vbytes n]).v := by
  refine CallS.toV (CallS.intro (l := [.agg #[.string (S s), .int .i64 m, .int .i64 e], .int .u64 n]) _ Tryz.func43 rfl Tryz.ntmps43 rfl ?_)
  have hok := wstart_ok ⟨s, m, e⟩
  have hv := vdig_len 10 n
  refine G_seq (G_region ?_)
  (refine G_boxA rfl rfl rfl rfl (.none rfl) ?_; intro b2)
  (refine G_alloc rfl rfl rfl (.none rfl) ?_; intro b4)
  refine G_end (X_then (G_seq (G_region ?_)))
  refine Gv (V_loadA rfl rfl (Cells.own (.tail _ (.head _))) rfl) ?_
  refine G_call (k := 78) (.mk rfl rfl rfl rfl) rfl rfl (.none rfl) (start_call _ _ _ (by assumption) _ _) ?_
  rintro r1 E2 L3 hE4 ⟨z5, ⟨rfl, ⟨rfl, rfl⟩⟩⟩
  refine Gm ?_
  refine G_callv (k := 80) (.mk rfl rfl rfl rfl) rfl rfl (.none rfl) (Bytes_call _ _ _ (by assumption)) ?_
  (refine G_litZ rfl rfl (by decide) (by simp [fillS, zeros, setLs, setL, Value.cells, List.range, List.range.loop]; rfl) (by rfl) rfl rfl (.none rfl) ?_; intro b9 E9 hE9 hs9)
  generalize wstart ⟨s, m, e⟩ = q at *
  refine G_call (k := 79) (.mk rfl rfl rfl rfl) rfl rfl (.none rfl) (put_call _ _ z5 q hok _ _ [vbytes n] hs9 (by simp) (by intro x hx; simp only [List.mem_singleton] at hx; subst hx; simp only [vbytes]; omega)) ?_
  rintro r E1 L1 hE1 ⟨rfl, rfl, rfl⟩
  refine G_storeA rfl rfl rfl rfl (by simp [Value.oneCell']) rfl (.none rfl) (.tail _ (.head _ _ _)) rfl ?_
  refine G_end (X_then (G_ret ?_))
  refine G_leaveS (.drop _ (.drop _ (.drop _ (.nil _)))) (by exact (.cons (.cellA rfl (Cells.own (.tail _ (.head _))) rfl) (.nil))) rfl ?_ ?_
  · exact hE9
  exact ⟨rfl, rfl⟩

/-- Strings with their lengths ahead. -/
def lens (l : List (List UInt8)) : List (List UInt8) := l.flatMap fun s => [vbytes s.length, s]
theorem lens_take (l : List (List UInt8)) (k : Nat) (h : k < l.length) : lens (l.take (k + 1)) = lens (l.take k) ++ [vbytes l[k].length, l[k]] := by
  rw [List.take_succ_eq_append_getElem h, lens, List.flatMap_append]; simp [lens]
theorem lens_len (l : List (List UInt8)) : (lens l).length = 2 * l.length := by
  induction l with
  | nil => rfl
  | cons s l ih => simp only [lens, List.flatMap_cons, List.length_append, List.length_cons, List.length_nil] at *; omega
theorem lens_mem {l : List (List UInt8)} (hs : ∀ s, s ∈ l → s.length ≤ 1000000000) : ∀ s, s ∈ lens l → s.length ≤ 1000000000 := by
  intro s hm
  simp only [lens, List.mem_flatMap, List.mem_cons, List.not_mem_nil, or_false] at hm
  obtain ⟨t, ht, rfl | rfl⟩ := hm
  · have := vdig_len 10 t.length
    simp only [vbytes]; omega
  · exact hs _ ht
theorem PutString_call (E : Env) (L : List Res) (s : List UInt8) (hs : s.length ≤ 1000000000000) (m e : Int) (p : Option Addr) (c : Nat) (l : List (List UInt8)) (hl : SlE E 1 p l.length (strs l)) (hn : l.length ≤ 100000000) (hls : ∀ s, s ∈ l → s.length ≤ 1000000000) :
    CallV Tryz.prog 119 #[.agg #[.string (S s), .int .i64 m, .int .i64 e], .slice p l.length c] E L (wput (wstart ⟨s, m, e⟩) (lens l)).v := by
  refine CallS.toV (CallS.intro (l := [.agg #[.string (S s), .int .i64 m, .int .i64 e], .slice p l.length c]) _ Tryz.func119 rfl Tryz.ntmps119 rfl ?_)
  have hok := wstart_ok ⟨s, m, e⟩
  refine G_seq (G_region ?_)
  (refine G_boxA rfl rfl rfl rfl (.none rfl) ?_; intro b2)
  (refine G_alloc rfl rfl rfl (.none rfl) ?_; intro b4)
  refine G_end (X_then (G_seq (G_region ?_)))
  refine Ga ?_
  refine G_end (X_then (G_seq (G_seq (G_region ?_))))
  refine Gm ?_
  refine Gv (V_lenS rfl rfl) ?_
  refine Gm ?_
  refine G_end (X_then (G_block ?_))
  refine G.nilSl 9 1 ?_
  refine G_loop (α := Nat × Option Addr × Nat) (fun x => [(2, .pointer (some ⟨b2, 0, none⟩)), (4, .pointer (some ⟨b4, 0, none⟩)), (5, .slice x.2.1 (lens (l.take x.1)).length x.2.2), (8, .slice p l.length c), (9, .int .i64 l.length), (10, .int .i64 x.1)]) (fun _ => E)
    (fun x => .sl 9 1 x.2.1 (lens (l.take x.1)).length x.2.2 (strs (lens (l.take x.1))) :: .blk b4 (.cells #[.string (S []), .int .i64 0, .int .i64 0] 60 (0, 0)) :: .blk b2 (.cells #[.string (S s), .int .i64 m, .int .i64 e] 60 (0, 0)) :: L)
    (fun x => x.1 ≤ l.length) (fun x => l.length - x.1) (0, none, 0) (Nat.zero_le _) ⟨rfl, rfl, rfl, rfl, rfl, rfl, trivial⟩ rfl rfl ?_
  rintro ⟨k, p', c'⟩ hk
  simp only at hk ⊢
  have hll := lens_len (l.take k)
  rw [List.length_take] at hll
  by_cases hlt : k < l.length
  · have hx := strs_get (List.getElem?_eq_getElem hlt)
    have h9 := hls _ (List.getElem_mem hlt)
    refine G_seq (G_region ?_)
    refine Gv (V_lss rfl rfl rfl) ?_
    refine G_end (X_then (G_seq ?_))
    refine G_cond_t rfl (decide_eq_true (by omega)) ?_
    refine G_skip (X_then (G_seq (G_block (G_seq (G_region ?_)))))
    refine Gv (V_idxAddr rfl rfl rfl (SlE.rd (by assumption)) (by omega) (by omega)) ?_
    refine Gv (V_loadS rfl rfl (SlE.rd (by assumption)) (by assumption) (by simp)) ?_
    refine Ga ?_
    refine G_end (X_then (G_region ?_))
    refine Gm ?_
    refine Gm ?_
    refine Gv (V_len rfl rfl) ?_
    refine Gv (V_conv_u64 rfl rfl (by omega) (by omega)) ?_
    refine G_callv (k := 80) (.mk rfl rfl rfl rfl) rfl rfl (.none rfl) (Bytes_call _ _ _ (by omega)) ?_
    refine Gm ?_
    (refine G_lit2 rfl rfl rfl rfl rfl rfl rfl (.none rfl) ?_; intro b20)
    (refine G_append rfl rfl rfl (Rd.lit (.head _) rfl) (by simp [Value.oneCell']) (by omega) (by omega) rfl rfl (.none rfl) (fun _ _ => (.tail _ (.head _ _ _))) ?_; intro a21 c21; refine G.rm (.head _ _) ?_)
    refine Ga ?_
    refine G_end (X_block (X_then (G_region ?_)))
    refine Gv (V_add_i64 rfl rfl rfl (by omega) (by omega)) ?_
    refine Gm ?_
    refine G_end (X_then ?_)
    exact G_again (k + 1, a21, c21) (by simp only; omega) (by simp only; omega) ⟨rfl, rfl, by rw [lens_take l k hlt]; simp only [List.length_append, List.length_cons, List.length_nil]; rfl, rfl, rfl, rfl, trivial⟩ rfl (by rw [lens_take l k hlt]; simp only [strs, List.map_append, List.map_cons, List.map_nil, List.length_append, List.length_cons, List.length_nil])
  · have hke : k = l.length := by omega
    subst hke
    rw [List.take_length] at hll ⊢
    refine G.freeze (.head _ _) ?_
    intro E' hE hok'
    have hal := SlE.sl hok'
    clear hok'
    refine G_seq (G_region ?_)
    refine Gv (V_lss rfl rfl rfl) ?_
    refine G_end (X_then (G_seq ?_))
    refine G_cond_f rfl (decide_eq_false (by omega)) ?_
    refine G_exit (X_then_exit (X_then_exit (X_block_hit (X_then (G_seq (G_region ?_))))))
    refine Gv (V_loadA rfl rfl (Cells.own (.tail _ (.head _))) rfl) ?_
    refine G_call (k := 78) (.mk rfl rfl rfl rfl) rfl rfl (.none rfl) (start_call _ _ _ (by assumption) _ _) ?_
    rintro r1 E2 L3 hE4 ⟨z5, ⟨rfl, ⟨rfl, rfl⟩⟩⟩
    replace hal := hal.mono hE4
    refine Gm ?_
    generalize wstart ⟨s, m, e⟩ = q at *
    refine G_call (k := 79) (.mk rfl rfl rfl rfl) rfl rfl (.none rfl) (put_call _ _ z5 q hok _ _ (lens l) hal (by omega) (lens_mem hls)) ?_
    rintro r E1 L1 hE1 ⟨rfl, rfl, rfl⟩
    refine G_storeA rfl rfl rfl rfl (by simp [Value.oneCell']) rfl (.none rfl) (.tail _ (.head _ _ _)) rfl ?_
    refine G_end (X_then (G_ret ?_))
    refine G_leaveS (.drop _ (.drop _ (.drop _ (.nil _)))) (by exact (.cons (.cellA rfl (Cells.own (.tail _ (.head _))) rfl) (.nil))) rfl ?_ ?_
    · exact hE
    exact ⟨rfl, rfl⟩

end Go.Proofs.YtjhehanknkonnaaGreatDoor
set_option linter.unusedSimpArgs false
set_option linter.unusedVariables false
set_option maxHeartbeats 2000000
set_option maxRecDepth 20000
namespace Go.Proofs.YtjhehanknkonnaaGreatDoor
open Go.RowKit

end Go.Proofs.YtjhehanknkonnaaGreatDoor
set_option linter.unusedSimpArgs false
set_option linter.unusedVariables false
set_option maxHeartbeats 2000000
set_option maxRecDepth 20000
namespace Go.Proofs.YtjhehanknkonnaaGreatDoor
open Go.RowKit

end Go.Proofs.YtjhehanknkonnaaGreatDoor
set_option linter.unusedSimpArgs false
set_option linter.unusedVariables false
set_option maxHeartbeats 2000000
set_option maxRecDepth 20000
namespace Go.Proofs.YtjhehanknkonnaaGreatDoor
open Go.RowKit

theorem Read_codec_call (E : Env) (L : List Res) (s : List UInt8) (hs : s.length ≤ 1000000000000) :
    CallV Tryz.prog 62 #[.string (S s)] E L (rbegin ⟨s, 0, 0, 0⟩).v := by
  refine CallS.toV (CallS.intro (l := [.string (S s)]) _ Tryz.func62 rfl Tryz.ntmps62 rfl ?_)
  refine G_seq (G_region ?_)
  (refine G_alloc rfl rfl rfl (.none rfl) ?_; intro b2)
  refine G_end (X_then (G_seq (G_region ?_)))
  refine Gm ?_
  refine Gv (V_build rfl rfl (by simp [fillV, setLs, setL, Value.cells]; rfl)) ?_
  refine G_call (k := 97) (.mk rfl rfl rfl rfl) rfl rfl (.none rfl) (begin_call _ _ _ (by assumption) _ _ _) ?_
  rintro r1 E2 L3 hE4 ⟨z5, ⟨z6, ⟨rfl, ⟨rfl, ⟨rfl, rfl⟩⟩⟩⟩⟩
  refine Gv (V_nilCheck rfl rfl) ?_
  refine Gv (V_fieldAddr rfl rfl (by decide)) ?_
  refine Gv (V_loadA rfl rfl (Cells.own (.head _)) rfl) ?_
  refine G_storeA rfl rfl rfl rfl (by simp [Value.oneCell']) rfl (.none rfl) (.tail _ (.head _ _ _)) rfl ?_
  refine G_end (X_then (G_ret ?_))
  refine G_leaveS (.drop _ (.drop _ (.nil _))) (by exact (.cons (.cellA rfl (Cells.own (.tail _ (.head _))) rfl) (.nil))) rfl ?_ ?_
  · exact (.refl _)
  exact ⟨rfl, rfl⟩
end Go.Proofs.YtjhehanknkonnaaGreatDoor
set_option linter.unusedSimpArgs false
set_option linter.unusedVariables false
set_option maxHeartbeats 2000000
set_option maxRecDepth 20000
namespace Go.Proofs.YtjhehanknkonnaaGreatDoor
open Go.RowKit

end Go.Proofs.YtjhehanknkonnaaGreatDoor
set_option linter.unusedSimpArgs false
set_option linter.unusedVariables false
set_option maxHeartbeats 2000000
set_option maxRecDepth 20000
namespace Go.Proofs.YtjhehanknkonnaaGreatDoor
open Go.RowKit

end Go.Proofs.YtjhehanknkonnaaGreatDoor
set_option linter.unusedSimpArgs false
set_option linter.unusedVariables false
set_option maxHeartbeats 2000000
set_option maxRecDepth 20000
namespace Go.Proofs.YtjhehanknkonnaaGreatDoor
open Go.RowKit

end Go.Proofs.YtjhehanknkonnaaGreatDoor
set_option linter.unusedSimpArgs false
set_option linter.unusedVariables false
set_option maxHeartbeats 2000000
set_option maxRecDepth 20000
namespace Go.Proofs.YtjhehanknkonnaaGreatDoor
open Go.RowKit

end Go.Proofs.YtjhehanknkonnaaGreatDoor
set_option linter.unusedSimpArgs false
set_option linter.unusedVariables false
set_option maxHeartbeats 2000000
set_option maxRecDepth 20000
namespace Go.Proofs.YtjhehanknkonnaaGreatDoor
open Go.RowKit

theorem PutString_call' (E : Env) (L : List Res) (s : List UInt8) (m e : Int) (p : Option Addr) (n c : Nat) (l : List (List UInt8)) (hl : SlE E 1 p n (strs l)) (hs : s.length ≤ 1000000000000) (hn : n ≤ 100000000) (hls : ∀ s, s ∈ l → s.length ≤ 1000000000) :
    CallV Tryz.prog 119 #[.agg #[.string (S s), .int .i64 m, .int .i64 e], .slice p n c] E L (wput (wstart ⟨s, m, e⟩) (lens l)).v := by
  have e1 := hl.nS; subst e1; exact PutString_call E L s hs m e p c l hl hn hls
@[simp] theorem rbegin_len (q : Rdr) : (rbegin q).s.length ≤ 1000000000000 := by have := (rbegin_ok q).1; omega
@[simp] theorem wstart_len (q : Wrt) : (wstart q).s.length ≤ 1000000000000 := by have := wstart_ok q; simp only [Wrt.ok] at this; omega
theorem rfield_s {α : Type} (q : Rdr) (f : Rdr × α) (z : α) (h : f.1.s = q.s) : (rfield q f z).1.s = q.s := by
  unfold rfield rback
  split
  · split <;> exact h
  · rfl
@[simp] theorem rfield_rnum_s (q : Rdr) (a b o z : Int) : (rfield q (rnum q a b o) z).1.s = q.s := rfield_s _ _ _ (by unfold rnum; split; rfl; split; exact rwide_s q; exact rwide_s q)
@[simp] theorem rfield_rwd_s (q : Rdr) (a z : Nat) : (rfield q (rwd q a) z).1.s = q.s := rfield_s _ _ _ (by unfold rwd; split; exact rwide_s q; exact rwide_s q)
theorem rtake_s (q : Rdr) (n : Int) : (rtake q n).1.s = q.s := by unfold rtake; split <;> rfl
@[simp] theorem rfield_rstr_s (q : Rdr) (a : Int) (o z : List UInt8) : (rfield q (rstr q a o) z).1.s = q.s := rfield_s _ _ _ (by
  unfold rstr
  split; rfl
  split; exact rwide_s q
  split; exact rwide_s q
  split; exact rwide_s q
  rw [rtake_s]; exact rwide_s q)
@[simp] theorem rfield_rfix_s (q : Rdr) (a : Int) (o z : List UInt8) : (rfield q (rfix q a o) z).1.s = q.s := rfield_s _ _ _ (by unfold rfix; split; rfl; exact rtake_s q a)
theorem rone_s (q : Rdr) (a b : Int) : (rone q a b).1.s = q.s := by unfold rone; split <;> exact rwide_s q
theorem rintsK_s (a b : Int) : ∀ (k : Nat) (q : Rdr) (o : List Int), (rintsK a b k q o).1.s = q.s := by
  intro k
  induction k with
  | zero => intro q o; rfl
  | succ k ih =>
    intro q o
    unfold rintsK
    split
    · rw [ih]; exact rone_s q a b
    · exact rone_s q a b
@[simp] theorem rfield_rints_s (q : Rdr) (a b c : Int) (z : List Int) : (rfield q (rints q a b c) z).1.s = q.s := rfield_s _ _ _ (by
  unfold rints
  split; rfl
  split; exact rwide_s q
  split; exact rwide_s q
  rw [rintsK_s]; exact rwide_s q)
theorem wput_ok {q : Wrt} (h : q.ok) (l : List (List UInt8)) : (wput q l).ok := by
  unfold wput
  simp only [Wrt.ok] at h ⊢
  split
  · exact h
  · split
    · simp only; omega
    · simp only [List.length_append]; omega
@[simp] theorem wput_len (q : Wrt) (l : List (List UInt8)) : (wput (wstart q) l).s.length ≤ 1000000000000 := by
  have := wput_ok (wstart_ok q) l
  simp only [Wrt.ok] at this; omega

end Go.Proofs.YtjhehanknkonnaaGreatDoor
set_option linter.unusedSimpArgs false
set_option linter.unusedVariables false
set_option maxHeartbeats 2000000
set_option maxRecDepth 20000
namespace Go.Proofs.YtjhehanknkonnaaGreatDoor
open Go.RowKit

theorem writer_call (E : Env) (L : List Res) (s : List UInt8) (hs : s.length ≤ 1000000000000) (m e : Int) :
    CallV Tryz.prog 89 #[.agg #[.string (S s), .int .i64 m, .int .i64 e]] E L (wstart ⟨s, m, e⟩).v := by
  refine CallS.toV (CallS.intro (l := [.agg #[.string (S s), .int .i64 m, .int .i64 e]]) _ Tryz.func89 rfl Tryz.ntmps89 rfl ?_)
  refine G_seq (G_region ?_)
  (refine G_boxA rfl rfl rfl rfl (.none rfl) ?_; intro b1)
  (refine G_alloc rfl rfl rfl (.none rfl) ?_; intro b2)
  refine G_end (X_then (G_seq (G_seq (G_region ?_))))
  refine Gv (V_fieldAddr rfl rfl (by decide)) ?_
  refine Gv (V_load rfl rfl (Cell.own (.tail _ (.head _)) rfl)) ?_
  refine Gv (V_lss rfl rfl rfl) ?_
  refine Gm ?_
  apply G_joinOr 4 6 10 rfl
  · intro H1
    dsimp only [List.take]
    simp only [Bool.and_eq_true, Bool.or_eq_true, Bool.not_eq_true', Bool.not_eq_false', Bool.and_eq_false_iff, Bool.or_eq_false_iff, Bool.not_not, decide_eq_true_eq, decide_eq_false_iff_not, ne_eq, Decidable.not_not, Bool.decide_eq_true] at H1
    refine Gn ?_
    refine Gn ?_
    refine Gn ?_
    refine Gv (V_pick_t rfl rfl rfl) ?_
    refine G_end ?_
    exact JQ_end 4 rfl rfl (by kernel_rfl)
  · intro H2
    dsimp only [List.take]
    simp only [Bool.and_eq_true, Bool.or_eq_true, Bool.not_eq_true', Bool.not_eq_false', Bool.and_eq_false_iff, Bool.or_eq_false_iff, Bool.not_not, decide_eq_true_eq, decide_eq_false_iff_not, ne_eq, Decidable.not_not, Bool.decide_eq_true] at H2
    refine Gy (V_fieldAddr rfl rfl (by decide)) ?_
    refine Gy (V_load rfl rfl (Cell.own (.tail _ (.head _)) rfl)) ?_
    refine Gy (V_gtr rfl rfl rfl) ?_
    refine Gv (V_pick_f rfl rfl rfl) ?_
    refine G_end ?_
    exact JQ_end 4 rfl rfl (by kernel_rfl)
  dsimp only [List.drop]
  refine Gm ?_
  apply G_joinOr 7 11 18 rfl
  · intro H3
    dsimp only [List.take]
    simp only [Bool.and_eq_true, Bool.or_eq_true, Bool.not_eq_true', Bool.not_eq_false', Bool.and_eq_false_iff, Bool.or_eq_false_iff, Bool.not_not, decide_eq_true_eq, decide_eq_false_iff_not, ne_eq, Decidable.not_not, Bool.decide_eq_true] at H3
    refine Gn ?_
    refine Gn ?_
    refine Gn ?_
    refine Gn ?_
    refine Gn ?_
    refine Gn ?_
    refine Gv (V_pick_t rfl rfl rfl) ?_
    refine G_end ?_
    exact JQ_end 7 rfl rfl (by kernel_rfl)
  · intro H4
    dsimp only [List.take]
    simp only [Bool.and_eq_true, Bool.or_eq_true, Bool.not_eq_true', Bool.not_eq_false', Bool.and_eq_false_iff, Bool.or_eq_false_iff, Bool.not_not, decide_eq_true_eq, decide_eq_false_iff_not, ne_eq, Decidable.not_not, Bool.decide_eq_true] at H4
    refine Gy (V_fieldAddr rfl rfl (by decide)) ?_
    refine Gy (V_load rfl rfl (Cell.own (.tail _ (.head _)) rfl)) ?_
    refine Gy (V_len rfl rfl) ?_
    refine Gy (V_fieldAddr rfl rfl (by decide)) ?_
    refine Gy (V_load rfl rfl (Cell.own (.tail _ (.head _)) rfl)) ?_
    refine Gy (V_gtr rfl rfl rfl) ?_
    refine Gv (V_pick_f rfl rfl rfl) ?_
    refine G_end ?_
    exact JQ_end 7 rfl rfl (by kernel_rfl)
  dsimp only [List.drop]
  refine Gm ?_
  apply G_joinOr 4 19 23 rfl
  · intro H5
    dsimp only [List.take]
    simp only [Bool.and_eq_true, Bool.or_eq_true, Bool.not_eq_true', Bool.not_eq_false', Bool.and_eq_false_iff, Bool.or_eq_false_iff, Bool.not_not, decide_eq_true_eq, decide_eq_false_iff_not, ne_eq, Decidable.not_not, Bool.decide_eq_true] at H5
    refine Gn ?_
    refine Gn ?_
    refine Gn ?_
    refine Gv (V_pick_t rfl rfl rfl) ?_
    refine G_end ?_
    exact JQ_end 4 rfl rfl (by kernel_rfl)
  · intro H6
    dsimp only [List.take]
    simp only [Bool.and_eq_true, Bool.or_eq_true, Bool.not_eq_true', Bool.not_eq_false', Bool.and_eq_false_iff, Bool.or_eq_false_iff, Bool.not_not, decide_eq_true_eq, decide_eq_false_iff_not, ne_eq, Decidable.not_not, Bool.decide_eq_true] at H6
    refine Gy (V_fieldAddr rfl rfl (by decide)) ?_
    refine Gy (V_load rfl rfl (Cell.own (.tail _ (.head _)) rfl)) ?_
    refine Gy (V_lss rfl rfl rfl) ?_
    refine Gv (V_pick_f rfl rfl rfl) ?_
    refine G_end ?_
    exact JQ_end 4 rfl rfl (by kernel_rfl)
  dsimp only [List.drop]
  refine Gm ?_
  apply G_joinOr 4 24 28 rfl
  · intro H7
    dsimp only [List.take]
    simp only [Bool.and_eq_true, Bool.or_eq_true, Bool.not_eq_true', Bool.not_eq_false', Bool.and_eq_false_iff, Bool.or_eq_false_iff, Bool.not_not, decide_eq_true_eq, decide_eq_false_iff_not, ne_eq, Decidable.not_not, Bool.decide_eq_true] at H7
    refine Gn ?_
    refine Gn ?_
    refine Gn ?_
    refine Gv (V_pick_t rfl rfl rfl) ?_
    refine G_end ?_
    exact JQ_end 4 rfl rfl (by kernel_rfl)
  · intro H8
    dsimp only [List.take]
    simp only [Bool.and_eq_true, Bool.or_eq_true, Bool.not_eq_true', Bool.not_eq_false', Bool.and_eq_false_iff, Bool.or_eq_false_iff, Bool.not_not, decide_eq_true_eq, decide_eq_false_iff_not, ne_eq, Decidable.not_not, Bool.decide_eq_true] at H8
    refine Gy (V_fieldAddr rfl rfl (by decide)) ?_
    refine Gy (V_load rfl rfl (Cell.own (.tail _ (.head _)) rfl)) ?_
    refine Gy (V_gtr rfl rfl rfl) ?_
    refine Gv (V_pick_f rfl rfl rfl) ?_
    refine G_end ?_
    exact JQ_end 4 rfl rfl (by kernel_rfl)
  dsimp only [List.drop]
  refine G_end (X_then ?_)
  refine G_cond rfl (fun H9 => ?_) (fun H9 => ?_)
  · simp only [Bool.and_eq_true, Bool.or_eq_true, Bool.not_eq_true', Bool.not_eq_false', Bool.and_eq_false_iff, Bool.or_eq_false_iff, Bool.not_not, decide_eq_true_eq, decide_eq_false_iff_not, ne_eq, Decidable.not_not, Bool.decide_eq_true] at H9
    refine G_seq (G_region ?_)
    refine Gv (V_build rfl rfl (by simp [fillV, setLs, setL, Value.cells]; rfl)) ?_
    refine G_storeA rfl rfl rfl rfl (by simp [Value.oneCell']) rfl (.none rfl) (.head _ _ _) rfl ?_
    refine G_end (X_then (G_ret (X_then_ret ?_)))
    refine G_leaveS (.drop _ (.drop _ (.nil _))) (by exact (.cons (.cellA rfl (Cells.own (.head _)) rfl) (.nil))) rfl ?_ ?_
    · exact (.refl _)
    exact ⟨(by (simp (discharger := omega) only [resVal, wstart, Wrt.ok, if_pos, if_neg]; first | done | rfl)), (by rfl)⟩
  simp only [Bool.and_eq_true, Bool.or_eq_true, Bool.not_eq_true', Bool.not_eq_false', Bool.and_eq_false_iff, Bool.or_eq_false_iff, Bool.not_not, decide_eq_true_eq, decide_eq_false_iff_not, ne_eq, Decidable.not_not, Bool.decide_eq_true] at H9
  refine G_skip (X_then (G_seq (G_region ?_)))
  refine Gv (V_loadA rfl rfl (Cells.own (.tail _ (.head _))) rfl) ?_
  refine G_storeA rfl rfl rfl rfl (by simp [Value.oneCell']) rfl (.none rfl) (.head _ _ _) rfl ?_
  refine G_end (X_then (G_ret ?_))
  refine G_leaveS (.drop _ (.drop _ (.nil _))) (by exact (.cons (.cellA rfl (Cells.own (.head _)) rfl) (.nil))) rfl ?_ ?_
  · exact (.refl _)
  exact ⟨(by (simp (discharger := omega) only [resVal, wstart, Wrt.ok, if_pos, if_neg]; first | done | rfl)), (by rfl)⟩
theorem Add2_call (E : Env) (L : List Res) (s : List UInt8) (hs : s.length ≤ 1000000000000) (m e : Int) (t : List UInt8) (ht : t.length ≤ 1000000000) :
    CallV Tryz.prog 87 #[.agg #[.string (S s), .int .i64 m, .int .i64 e], .string (S t)] E L (wput (wstart ⟨s, m, e⟩) [t]).v := by
  refine CallS.toV (CallS.intro (l := [.agg #[.string (S s), .int .i64 m, .int .i64 e], .string (S t)]) _ Tryz.func87 rfl Tryz.ntmps87 rfl ?_)
  have hok := wstart_ok ⟨s, m, e⟩
  have hfl : [t].flatten = t := by simp
  have hp : ∀ q : Wrt, wput q [t] = if q.e ≠ 0 then q else if q.most - q.s.length < (t.length : Int) then ⟨q.s, q.most, 4⟩ else ⟨q.s ++ t, q.most, q.e⟩ := fun q => by rw [wput, hfl]
  rw [hp]
  obtain ⟨h1, h2, h3, h4, h5⟩ := hok
  refine G_seq (G_region ?_)
  (refine G_boxA rfl rfl rfl rfl (.none rfl) ?_; intro b2)
  (refine G_alloc rfl rfl rfl (.none rfl) ?_; intro b4)
  refine G_end (X_then (G_seq (G_region ?_)))
  refine Gv (V_loadA rfl rfl (Cells.own (.tail _ (.head _))) rfl) ?_
  refine G_callv (k := 89) (.mk rfl rfl rfl rfl) rfl rfl (.none rfl) (writer_call _ _ _ (by assumption) _ _) ?_
  dsimp only [Go.Proofs.YtjhehanknkonnaaGreatDoor.Wrt.v]
  refine G_storeA rfl rfl rfl rfl (by simp [Value.oneCell']) rfl (.none rfl) (.tail _ (.head _ _ _)) rfl ?_
  refine G_end (X_then (G_seq (G_block (G_seq (G_region ?_)))))
  refine Gv (V_fieldAddr rfl rfl (by decide)) ?_
  refine Gv (V_load rfl rfl (Cell.own (.tail _ (.head _)) rfl)) ?_
  refine Gv (V_neq rfl rfl rfl) ?_
  refine Ga ?_
  refine G_end (X_then ?_)
  refine G_cond rfl (fun H1 => ?_) (fun H1 => ?_)
  · simp only [Bool.and_eq_true, Bool.or_eq_true, Bool.not_eq_true', Bool.not_eq_false', Bool.and_eq_false_iff, Bool.or_eq_false_iff, Bool.not_not, decide_eq_true_eq, decide_eq_false_iff_not, ne_eq, Decidable.not_not, Bool.decide_eq_true] at H1
    refine G_skip (X_block (X_then (G_seq (G_region ?_))))
    refine Gv (V_loadA rfl rfl (Cells.own (.tail _ (.head _))) rfl) ?_
    refine G_storeA rfl rfl rfl rfl (by simp [Value.oneCell']) rfl (.none rfl) (.head _ _ _) rfl ?_
    refine G_end (X_then (G_ret ?_))
    refine G_leaveS (.drop _ (.drop _ (.nil _))) (by exact (.cons (.cellA rfl (Cells.own (.head _)) rfl) (.nil))) rfl ?_ ?_
    · exact (.refl _)
    exact ⟨(by (simp (discharger := omega) only [resVal, if_pos, if_neg]; first | done | rfl)), (by rfl)⟩
  simp only [Bool.and_eq_true, Bool.or_eq_true, Bool.not_eq_true', Bool.not_eq_false', Bool.and_eq_false_iff, Bool.or_eq_false_iff, Bool.not_not, decide_eq_true_eq, decide_eq_false_iff_not, ne_eq, Decidable.not_not, Bool.decide_eq_true] at H1
  refine G_seq (G_region ?_)
  refine Gm ?_
  refine Gv (V_len rfl rfl) ?_
  refine Gv (V_fieldAddr rfl rfl (by decide)) ?_
  refine Gv (V_load rfl rfl (Cell.own (.tail _ (.head _)) rfl)) ?_
  refine Gv (V_fieldAddr rfl rfl (by decide)) ?_
  refine Gv (V_load rfl rfl (Cell.own (.tail _ (.head _)) rfl)) ?_
  refine Gv (V_len rfl rfl) ?_
  refine Gv (V_sub_i64 rfl rfl rfl (by omega) (by omega)) ?_
  refine Gv (V_gtr rfl rfl rfl) ?_
  refine Ga ?_
  refine G_end (X_then ?_)
  refine G_cond rfl (fun H2 => ?_) (fun H2 => ?_)
  · simp only [Bool.and_eq_true, Bool.or_eq_true, Bool.not_eq_true', Bool.not_eq_false', Bool.and_eq_false_iff, Bool.or_eq_false_iff, Bool.not_not, decide_eq_true_eq, decide_eq_false_iff_not, ne_eq, Decidable.not_not, Bool.decide_eq_true] at H2
    refine G_region ?_
    refine Gv (V_fieldAddr rfl rfl (by decide)) ?_
    refine G_storeAt rfl rfl rfl rfl rfl rfl (.none rfl) (.tail _ (.head _ _ _)) (Nat.le_of_ble_eq_true rfl) (by simp only [putAll, Nat.zero_add, Nat.reduceAdd, List.setIfInBounds_toArray, List.set_cons_succ, List.set_cons_zero]; rfl) ?_
    refine G_end (X_block (X_then (G_seq (G_region ?_))))
    refine Gv (V_loadA rfl rfl (Cells.own (.tail _ (.head _))) rfl) ?_
    refine G_storeA rfl rfl rfl rfl (by simp [Value.oneCell']) rfl (.none rfl) (.head _ _ _) rfl ?_
    refine G_end (X_then (G_ret ?_))
    refine G_leaveS (.drop _ (.drop _ (.nil _))) (by exact (.cons (.cellA rfl (Cells.own (.head _)) rfl) (.nil))) rfl ?_ ?_
    · exact (.refl _)
    exact ⟨(by (simp (discharger := omega) only [resVal, if_pos, if_neg]; first | done | rfl)), (by rfl)⟩
  simp only [Bool.and_eq_true, Bool.or_eq_true, Bool.not_eq_true', Bool.not_eq_false', Bool.and_eq_false_iff, Bool.or_eq_false_iff, Bool.not_not, decide_eq_true_eq, decide_eq_false_iff_not, ne_eq, Decidable.not_not, Bool.decide_eq_true] at H2
  refine G_region ?_
  refine Gv (V_fieldAddr rfl rfl (by decide)) ?_
  refine Gv (V_load rfl rfl (Cell.own (.tail _ (.head _)) rfl)) ?_
  refine Gm ?_
  refine Gv (V_cat rfl rfl rfl (by omega)) ?_
  refine Gv (V_fieldAddr rfl rfl (by decide)) ?_
  refine G_storeAt rfl rfl rfl rfl rfl rfl (.none rfl) (.tail _ (.head _ _ _)) (Nat.le_of_ble_eq_true rfl) (by simp only [putAll, Nat.zero_add, Nat.reduceAdd, List.setIfInBounds_toArray, List.set_cons_succ, List.set_cons_zero]; rfl) ?_
  refine G_end (X_block (X_then (G_seq (G_region ?_))))
  refine Gv (V_loadA rfl rfl (Cells.own (.tail _ (.head _))) rfl) ?_
  refine G_storeA rfl rfl rfl rfl (by simp [Value.oneCell']) rfl (.none rfl) (.head _ _ _) rfl ?_
  refine G_end (X_then (G_ret ?_))
  refine G_leaveS (.drop _ (.drop _ (.nil _))) (by exact (.cons (.cellA rfl (Cells.own (.head _)) rfl) (.nil))) rfl ?_ ?_
  · exact (.refl _)
  exact ⟨(by (simp (discharger := omega) only [resVal, if_pos, if_neg]; first | done | rfl)), (by rfl)⟩
theorem Make2_call (E : Env) (L : List Res) (m : Int) : CallV Tryz.prog 48 #[.int .i64 m] E L (wstart ⟨[], m, 0⟩).v := by
  refine CallS.toV (CallS.intro (l := [.int .i64 m]) _ Tryz.func48 rfl Tryz.ntmps48 rfl ?_)
  refine G_seq (G_region ?_)
  (refine G_alloc rfl rfl rfl (.none rfl) ?_; intro b2)
  refine G_end (X_then (G_seq (G_region ?_)))
  refine Gm ?_
  refine Gv (V_build rfl rfl (by simp [fillV, setLs, setL, Value.cells]; rfl)) ?_
  refine G_callv (k := 89) (.mk rfl rfl rfl rfl) rfl rfl (.none rfl) (writer_call _ _ _ (by (simp; done)) _ _) ?_
  dsimp only [Go.Proofs.YtjhehanknkonnaaGreatDoor.Wrt.v]
  refine G_storeA rfl rfl rfl rfl (by simp [Value.oneCell']) rfl (.none rfl) (.head _ _ _) rfl ?_
  refine G_end (X_then (G_ret ?_))
  refine G_leaveS (.drop _ (.nil _)) (by exact (.cons (.cellA rfl (Cells.own (.head _)) rfl) (.nil))) rfl ?_ ?_
  · exact (.refl _)
  exact ⟨rfl, rfl⟩
theorem Done2_call (E : Env) (L : List Res) (s : List UInt8) (hs : s.length ≤ 1000000000000) (m e : Int) :
    CallV Tryz.prog 51 #[.agg #[.string (S s), .int .i64 m, .int .i64 e]] E L (.tuple #[.string (S (if (wstart ⟨s, m, e⟩).e = 0 then (wstart ⟨s, m, e⟩).s else [])), .int .i64 (wstart ⟨s, m, e⟩).e]) := by
  refine CallS.toV (CallS.intro (l := [.agg #[.string (S s), .int .i64 m, .int .i64 e]]) _ Tryz.func51 rfl Tryz.ntmps51 rfl ?_)
  refine G_seq (G_region ?_)
  (refine G_boxA rfl rfl rfl rfl (.none rfl) ?_; intro b1)
  refine Ga ?_
  refine Ga ?_
  refine G_end (X_then (G_seq (G_region ?_)))
  refine Gv (V_loadA rfl rfl (Cells.own (.head _)) rfl) ?_
  refine G_callv (k := 89) (.mk rfl rfl rfl rfl) rfl rfl (.none rfl) (writer_call _ _ _ (by assumption) _ _) ?_
  dsimp only [Go.Proofs.YtjhehanknkonnaaGreatDoor.Wrt.v]
  refine G_storeA rfl rfl rfl rfl (by simp [Value.oneCell']) rfl (.none rfl) (.head _ _ _) rfl ?_
  refine G_end (X_then (G_seq (G_seq (G_region ?_))))
  refine Gv (V_fieldAddr rfl rfl (by decide)) ?_
  refine Gv (V_load rfl rfl (Cell.own (.head _) rfl)) ?_
  refine Gv (V_neq rfl rfl rfl) ?_
  refine G_end (X_then ?_)
  refine G_cond rfl (fun H1 => ?_) (fun H1 => ?_)
  · simp only [Bool.and_eq_true, Bool.or_eq_true, Bool.not_eq_true', Bool.not_eq_false', Bool.and_eq_false_iff, Bool.or_eq_false_iff, Bool.not_not, decide_eq_true_eq, decide_eq_false_iff_not, ne_eq, Decidable.not_not, Bool.decide_eq_true] at H1
    refine G_seq ?_
    refine G_draw mixed (by kernel_rfl) ?_
    refine Q_val (V_fieldAddr rfl rfl (by decide)) rfl rfl (.none rfl) ?_
    refine Q_val (V_load rfl rfl (Cell.own (.head _) rfl)) rfl rfl (.none rfl) ?_
    refine Q_val (V_assign rfl rfl) rfl rfl (.none rfl) ?_
    refine Q_val (V_assign rfl rfl) rfl rfl (.none rfl) ?_
    refine Q_end ?_
    refine X_then (G_ret (X_then_ret ?_))
    refine G_leaveS (.drop _ (.nil _)) (by exact (.cons (.tmp rfl) (.cons (.tmp rfl) (.nil)))) rfl ?_ ?_
    · exact (.refl _)
    exact ⟨(by (simp (discharger := omega) only [resVal, if_pos, if_neg]; first | done | rfl)), (by rfl)⟩
  simp only [Bool.and_eq_true, Bool.or_eq_true, Bool.not_eq_true', Bool.not_eq_false', Bool.and_eq_false_iff, Bool.or_eq_false_iff, Bool.not_not, decide_eq_true_eq, decide_eq_false_iff_not, ne_eq, Decidable.not_not, Bool.decide_eq_true] at H1
  refine G_skip (X_then (G_seq (G_region ?_)))
  refine Gv (V_fieldAddr rfl rfl (by decide)) ?_
  refine Gv (V_load rfl rfl (Cell.own (.head _) rfl)) ?_
  refine Ga ?_
  refine Ga ?_
  refine G_end (X_then (G_ret ?_))
  refine G_leaveS (.drop _ (.nil _)) (by exact (.cons (.tmp rfl) (.cons (.tmp rfl) (.nil)))) rfl ?_ ?_
  · exact (.refl _)
  exact ⟨(by (simp [resVal, *]; done)), (by rfl)⟩

theorem Put2_call (E : Env) (L : List Res) (s : List UInt8) (hs : s.length ≤ 1000000000000) (m e : Int) (n : Nat) (hn : n < 18446744073709551616) :
    CallV Tryz.prog 47 #[.agg #[.string (S s), .int .i64 m, .int .i64 e], .int .u64 n] E L (wput (wstart ⟨s, m, e⟩) [vbytes n]).v := by
  refine CallS.toV (CallS.intro (l := [.agg #[.string (S s), .int .i64 m, .int .i64 e], .int .u64 n]) _ Tryz.func47 rfl Tryz.ntmps47 rfl ?_)
  have hv : (vbytes n).length ≤ 10 := vdig_len 10 n
  refine G_seq (G_region ?_)
  (refine G_boxA rfl rfl rfl rfl (.none rfl) ?_; intro b2)
  (refine G_alloc rfl rfl rfl (.none rfl) ?_; intro b4)
  refine G_end (X_then (G_seq ?_))
  (refine G_drawT 4 mixed (by kernel_rfl) ?_; dsimp only [List.take, List.drop])
  refine Q_val (V_loadA rfl rfl (Cells.own (.tail _ (.head _))) rfl) rfl rfl (.none rfl) ?_
  refine Q_val (V_move rfl rfl) rfl rfl (.none rfl) ?_
  refine Q_callv (k := 88) (.mk rfl rfl rfl rfl) rfl rfl (.none rfl) (Bytes2_call _ _ _ (by assumption)) ?_
  refine Q_callv (k := 87) (.mk rfl rfl rfl rfl) rfl rfl (.none rfl) (Add2_call _ _ _ (by assumption) _ _ _ (by omega)) ?_
  dsimp only [Go.Proofs.YtjhehanknkonnaaGreatDoor.Wrt.v]
  refine Q_endT ?_
  refine G_storeA rfl rfl rfl rfl (by simp [Value.oneCell']) rfl (.none rfl) (.head _ _ _) rfl ?_
  refine G_end (X_then (G_ret ?_))
  refine G_leaveS (.drop _ (.drop _ (.nil _))) (by exact (.cons (.cellA rfl (Cells.own (.head _)) rfl) (.nil))) rfl ?_ ?_
  · exact (.refl _)
  exact ⟨rfl, rfl⟩

theorem wput_one (q : Wrt) (l : List (List UInt8)) : wput q [l.flatten] = wput q l := by unfold wput; simp
theorem lens_flat (l : List (List UInt8)) (k : Nat) (h : k < l.length) : (lens (l.take (k + 1))).flatten = (lens (l.take k)).flatten ++ vbytes l[k].length ++ l[k] := by
  rw [lens_take l k h, List.flatten_append]; simp
theorem lens_le (l : List (List UInt8)) (k : Nat) : (lens (l.take k)).flatten.length ≤ (lens l).flatten.length := by
  conv => rhs; rw [← List.take_append_drop k l]
  simp only [lens, List.flatMap_append, List.flatten_append, List.length_append]
  omega
theorem PutString2_call (E : Env) (L : List Res) (s : List UInt8) (hs : s.length ≤ 1000000000000) (m e : Int) (p : Option Addr) (c : Nat) (l : List (List UInt8)) (hl : SlE E 1 p l.length (strs l)) (hn : l.length ≤ 100000000) (hls : (lens l).flatten.length ≤ 20000) :
    CallV Tryz.prog 50 #[.agg #[.string (S s), .int .i64 m, .int .i64 e], .slice p l.length c] E L (wput (wstart ⟨s, m, e⟩) (lens l)).v := by
  refine CallS.toV (CallS.intro (l := [.agg #[.string (S s), .int .i64 m, .int .i64 e], .slice p l.length c]) _ Tryz.func50 rfl Tryz.ntmps50 rfl ?_)
  rw [← wput_one]
  refine G_seq (G_region ?_)
  (refine G_boxA rfl rfl rfl rfl (.none rfl) ?_; intro b2)
  (refine G_alloc rfl rfl rfl (.none rfl) ?_; intro b4)
  refine G_end (X_then (G_seq (G_region ?_)))
  refine Ga ?_
  refine G_end (X_then (G_seq (G_seq (G_region ?_))))
  refine Ga ?_
  refine G_end (X_then (G_block ?_))
  refine G_loop (α := Nat) (fun k => [(1, .slice p l.length c), (2, .pointer (some ⟨b2, 0, none⟩)), (4, .pointer (some ⟨b4, 0, none⟩)), (5, .string (S (lens (l.take k)).flatten)), (6, .int .i64 k)]) (fun _ => E)
    (fun x => .blk b4 (.cells #[.string (S []), .int .i64 0, .int .i64 0] 60 (0, 0)) :: .blk b2 (.cells #[.string (S s), .int .i64 m, .int .i64 e] 60 (0, 0)) :: L)
    (fun k => k ≤ l.length) (fun k => l.length - k) 0 (Nat.zero_le _) ⟨rfl, rfl, rfl, rfl, rfl, trivial⟩ rfl rfl ?_
  intro k hk
  have h1 := lens_le l k
  by_cases hlt : k < l.length
  · have hx := strs_get (List.getElem?_eq_getElem hlt)
    have h2 := lens_le l (k + 1)
    have h3 := lens_flat l k hlt
    have h4 := congrArg List.length h3
    simp only [List.length_append] at h4
    refine G_seq (G_seq (G_region ?_))
    refine Gm ?_
    refine Gm ?_
    refine Gv (V_lenS rfl rfl) ?_
    refine Gv (V_lss rfl rfl rfl) ?_
    refine G_end (X_then ?_)
    refine G_cond_t rfl (decide_eq_true (by omega)) ?_
    refine G_skip (X_then (G_seq (G_block (G_seq (G_seq (G_region ?_))))))
    refine Gm ?_
    refine Gv (V_len rfl rfl) ?_
    refine Gm ?_
    refine Gm ?_
    refine Gv (V_idxAddr rfl rfl rfl (SlE.rd (by assumption)) (by omega) (by omega)) ?_
    refine Gv (V_loadS rfl rfl (SlE.rd (by assumption)) (by assumption) (by simp)) ?_
    refine Gv (V_len rfl rfl) ?_
    refine Gv (V_add_i64 rfl rfl rfl (by omega) (by omega)) ?_
    refine Gv (V_gtr rfl rfl rfl) ?_
    refine G_end (X_then ?_)
    refine G_cond_f rfl (decide_eq_false (by omega)) ?_
    refine G_skip (X_then ?_)
    refine G_draw mixed (by kernel_rfl) ?_
    refine Q_val (V_move rfl rfl) rfl rfl (.none rfl) ?_
    refine Q_val (V_move rfl rfl) rfl rfl (.none rfl) ?_
    refine Q_val (V_move rfl rfl) rfl rfl (.none rfl) ?_
    refine Q_val (V_idxAddr rfl rfl rfl (SlE.rd (by assumption)) (by omega) (by omega)) rfl rfl (.none rfl) ?_
    refine Q_val (V_loadS rfl rfl (SlE.rd (by assumption)) (by assumption) (by simp)) rfl rfl (.none rfl) ?_
    refine Q_val (V_len rfl rfl) rfl rfl (.none rfl) ?_
    refine Q_val (V_conv_u64 rfl rfl (by omega) (by omega)) rfl rfl (.none rfl) ?_
    refine Q_callv (k := 88) (.mk rfl rfl rfl rfl) rfl rfl (.none rfl) (Bytes2_call _ _ _ (by omega)) ?_
    refine Q_val (V_cat rfl rfl rfl (by omega)) rfl rfl (.none rfl) ?_
    refine Q_val (V_move rfl rfl) rfl rfl (.none rfl) ?_
    refine Q_val (V_move rfl rfl) rfl rfl (.none rfl) ?_
    refine Q_val (V_idxAddr rfl rfl rfl (SlE.rd (by assumption)) (by omega) (by omega)) rfl rfl (.none rfl) ?_
    refine Q_val (V_loadS rfl rfl (SlE.rd (by assumption)) (by assumption) (by simp)) rfl rfl (.none rfl) ?_
    refine Q_val (V_cat rfl rfl rfl (by simp only [List.length_append]; omega)) rfl rfl (.none rfl) ?_
    refine Q_val (V_assign rfl rfl) rfl rfl (.none rfl) ?_
    refine Q_end ?_
    refine X_block (X_then (G_region ?_))
    refine Gm ?_
    refine Gv (V_add_i64 rfl rfl rfl (by omega) (by omega)) ?_
    refine Ga ?_
    refine G_end (X_then ?_)
    exact G_again (k + 1) (by omega) (by omega) ⟨rfl, rfl, rfl, by rw [h3]; rfl, rfl, trivial⟩ rfl rfl
  · have hke : k = l.length := by omega
    subst hke
    rw [List.take_length]
    refine G_seq (G_seq (G_region ?_))
    refine Gm ?_
    refine Gm ?_
    refine Gv (V_lenS rfl rfl) ?_
    refine Gv (V_lss rfl rfl rfl) ?_
    refine G_end (X_then ?_)
    refine G_cond_f rfl (decide_eq_false (by omega)) ?_
    refine G_exit (X_then_exit (X_then_exit (X_block_hit (X_then (G_seq (G_region ?_))))))
    refine Gv (V_loadA rfl rfl (Cells.own (.tail _ (.head _))) rfl) ?_
    refine Gm ?_
    refine G_callv (k := 87) (.mk rfl rfl rfl rfl) rfl rfl (.none rfl) (Add2_call _ _ _ (by assumption) _ _ _ (by omega)) ?_
    dsimp only [Go.Proofs.YtjhehanknkonnaaGreatDoor.Wrt.v]
    refine G_storeA rfl rfl rfl rfl (by simp [Value.oneCell']) rfl (.none rfl) (.head _ _ _) rfl ?_
    refine G_end (X_then (G_ret ?_))
    refine G_leaveS (.drop _ (.drop _ (.nil _))) (by exact (.cons (.cellA rfl (Cells.own (.head _)) rfl) (.nil))) rfl ?_ ?_
    · exact (.refl _)
    exact ⟨rfl, rfl⟩
end Go.Proofs.YtjhehanknkonnaaGreatDoor
set_option linter.unusedSimpArgs false
set_option linter.unusedVariables false
set_option maxHeartbeats 2000000
set_option maxRecDepth 20000
namespace Go.Proofs.YtjhehanknkonnaaGreatDoor
open Go.RowKit

theorem PutString2_call' (E : Env) (L : List Res) (s : List UInt8) (m e : Int) (p : Option Addr) (n c : Nat) (l : List (List UInt8)) (hl : SlE E 1 p n (strs l)) (hs : s.length ≤ 1000000000000) (hn : n ≤ 100000000) (hls : (lens l).flatten.length ≤ 20000) :
    CallV Tryz.prog 50 #[.agg #[.string (S s), .int .i64 m, .int .i64 e], .slice p n c] E L (wput (wstart ⟨s, m, e⟩) (lens l)).v := by
  have e1 := hl.nS; subst e1; exact PutString2_call E L s hs m e p c l hl hn hls
end Go.Proofs.YtjhehanknkonnaaGreatDoor
set_option linter.unusedSimpArgs false
set_option linter.unusedVariables false
set_option maxHeartbeats 2000000
set_option maxRecDepth 20000
namespace Go.Proofs.YtjhehanknkonnaaGreatDoor
open Go.RowKit

theorem rintsK_len (a b : Int) : ∀ (k : Nat) (q : Rdr) (o : List Int), q.e = 0 → q.fa = 0 → 0 ≤ q.at' → q.at' ≤ q.s.length → (o.length : Int) ≤ q.at' → (rintsK a b k q o).2.length ≤ q.s.length + 1 := by
  intro k
  induction k with
  | zero => intro q o _ _ _ h1 h2; show o.length ≤ _; omega
  | succ k ih =>
    intro q o h0 hf ha hl ho
    obtain ⟨h1, h2, _⟩ := rone_props q h0 hf ha hl a b
    unfold rintsK
    split
    · rename_i h
      have h3 := h2 h
      have h4 := congrArg List.length h1
      have := ih (rone q a b).1 (o ++ [(rone q a b).2]) h h3.2.2 (by omega) (by omega) (by simp only [List.length_append, List.length_singleton]; omega)
      omega
    · simp only [List.length_append, List.length_singleton]; omega
theorem rints_len (q : Rdr) (hok : q.ok) (h0 : q.e = 0) (m a b : Int) : (rints q m a b).2.length ≤ 20001 := by
  obtain ⟨h1, h2, h3, h4⟩ := hok
  have hv := rwide_props q h0 (by omega) h2 h3
  have hs := congrArg List.length (rwide_s q)
  unfold rints
  split
  · simp
  · split
    · simp
    · rename_i h5
      have h6 := hv.1 (by omega)
      split
      · simp
      · have := rintsK_len a b (rwide q).2 (rwide q).1 [] (by omega) h6.2.2.1 (by omega) (by omega) (by simp only [List.length_nil]; omega)
        omega

/-! The contracts once more, their results under short names. -/
def aNum (q : Rdr) (l m : Int) : Rdr × Int := rfield (rbegin q) (rnum (rbegin q) l m 0) 0
def aWide (q : Rdr) (m : Nat) : Rdr × Nat := rfield (rbegin q) (rwd (rbegin q) m) 0
def aStr (q : Rdr) (m : Int) : Rdr × List UInt8 := rfield (rbegin q) (rstr (rbegin q) m []) []
def aFix (q : Rdr) (n : Int) : Rdr × List UInt8 := rfield (rbegin q) (rfix (rbegin q) n []) []
def aInts (q : Rdr) (m l g : Int) : Rdr × List Int := rfield (rbegin q) (rints (rbegin q) m l g) []
@[simp] theorem aNum_s (q : Rdr) (l m : Int) : (aNum q l m).1.s = (rbegin q).s := rfield_rnum_s _ _ _ _ _
@[simp] theorem aWide_s (q : Rdr) (m : Nat) : (aWide q m).1.s = (rbegin q).s := rfield_rwd_s _ _ _
@[simp] theorem aStr_s (q : Rdr) (m : Int) : (aStr q m).1.s = (rbegin q).s := rfield_rstr_s _ _ _ _
@[simp] theorem aFix_s (q : Rdr) (m : Int) : (aFix q m).1.s = (rbegin q).s := rfield_rfix_s _ _ _ _
@[simp] theorem aInts_s (q : Rdr) (m l g : Int) : (aInts q m l g).1.s = (rbegin q).s := rfield_rints_s _ _ _ _ _
@[simp] theorem aInts_len (q : Rdr) (m a b : Int) : (aInts q m a b).2.length ≤ 9223372036854775806 := by
  unfold aInts rfield
  split
  · rename_i h
    have := rints_len (rbegin q) (rbegin_ok q) h m a b
    simp only
    split
    · omega
    · simp
  · simp

section
variable (E : Env) (L : List Res) (s : List UInt8) (hs : s.length ≤ 1000000000000) (a e f : Int)
include hs
theorem Number_call' (least most : Int) (hm : most ≤ 9223372036854775807) : CallV Tryz.prog 63 #[.agg #[.string (S s), .int .i64 a, .int .i64 e, .int .i64 f], .int .i64 least, .int .i64 most] E L (.tuple #[(aNum ⟨s, a, e, f⟩ least most).1.v, .int .i64 (aNum ⟨s, a, e, f⟩ least most).2]) := Number_call E L s hs a e f least most hm
theorem String_call' (most : Int) (hm : most ≤ 9223372036854775807) : CallV Tryz.prog 64 #[.agg #[.string (S s), .int .i64 a, .int .i64 e, .int .i64 f], .int .i64 most] E L (.tuple #[(aStr ⟨s, a, e, f⟩ most).1.v, .string (S (aStr ⟨s, a, e, f⟩ most).2)]) := String_call E L s hs a e f most hm
end

end Go.Proofs.YtjhehanknkonnaaGreatDoor
set_option linter.unusedSimpArgs false
set_option linter.unusedVariables false
namespace Go.Proofs.YtjhehanknkonnaaGreatDoor
open Go.RowKit

end Go.Proofs.YtjhehanknkonnaaGreatDoor
set_option linter.unusedSimpArgs false
set_option linter.unusedVariables false
namespace Go.Proofs.YtjhehanknkonnaaGreatDoor
open Go.RowKit

theorem rbegin_good (s : List UInt8) (a : Nat) (hs : s.length ≤ 20000) (ha : a ≤ s.length) : rbegin ⟨s, a, 0, 0⟩ = ⟨s, a, 0, 0⟩ := if_pos ⟨hs, Int.natCast_nonneg a, Int.ofNat_le.2 ha, .inl ⟨rfl, rfl⟩⟩
/-! Writers that are right. -/
theorem wstart_good {s : List UInt8} {m e : Int} (h0 : 0 ≤ m) (h1 : m ≤ 20000) (h2 : (s.length : Int) ≤ m) (h3 : 0 ≤ e) (h4 : e ≤ 31) : wstart ⟨s, m, e⟩ = ⟨s, m, e⟩ := if_pos ⟨h0, h1, h2, h3, h4⟩
theorem wput_good {s : List UInt8} {m : Int} (h0 : 0 ≤ m) (h1 : m ≤ 20000) (l : List (List UInt8)) (h2 : (s.length : Int) + l.flatten.length ≤ m) : wput (wstart ⟨s, m, 0⟩) l = ⟨s ++ l.flatten, m, 0⟩ := by
  rw [wstart_good h0 h1 (by omega) (by decide) (by decide), wput]
  simp only [ne_eq, not_true_eq_false, if_false]
  rw [if_neg (by omega)]
section
variable (E : Env) (L : List Res)
theorem Make_call' (m : Int) (h0 : 0 ≤ m) (h1 : m ≤ 20000) : CallV Tryz.prog 44 #[.int .i64 m] E L (.agg #[.string (S []), .int .i64 m, .int .i64 0]) := by
  have := Make_call E L m
  rw [wstart_good h0 h1 (by simpa using h0) (by decide) (by decide)] at this; exact this
variable (s : List UInt8) (m : Int) (h0 : 0 ≤ m) (h1 : m ≤ 20000)
include h0 h1
theorem Done_call' (e : Int) (he : e = 0) (h2 : (s.length : Int) ≤ m) : CallV Tryz.prog 46 #[.agg #[.string (S s), .int .i64 m, .int .i64 e]] E L (.tuple #[.string (S s), .int .i64 0]) := by
  subst he
  have := Done_call E L s (by omega) m 0
  rw [wstart_good h0 h1 h2 (by decide) (by decide)] at this; exact this
theorem Put_call' (e : Int) (he : e = 0) (n : Nat) (hn : n < 18446744073709551616) (h2 : (s.length : Int) + 10 ≤ m) : CallV Tryz.prog 43 #[.agg #[.string (S s), .int .i64 m, .int .i64 e], .int .u64 n] E L (.agg #[.string (S (s ++ vbytes n)), .int .i64 m, .int .i64 0]) := by
  subst he
  have := Put_call E L s (by omega) m 0 n hn
  have hv : (vbytes n).length ≤ 10 := vdig_len 10 n
  rw [wput_good h0 h1 [vbytes n] (by simp; omega)] at this; simpa using this
theorem PutString_call'' (e : Int) (he : e = 0) (p : Option Addr) (n c : Nat) (l : List (List UInt8)) (hl : SlE E 1 p n (strs l)) (hn : n ≤ 100000000) (hls : ∀ s, s ∈ l → s.length ≤ 1000000000) (h2 : (s.length : Int) + (lens l).flatten.length ≤ m) :
    CallV Tryz.prog 119 #[.agg #[.string (S s), .int .i64 m, .int .i64 e], .slice p n c] E L (.agg #[.string (S (s ++ (lens l).flatten)), .int .i64 m, .int .i64 0]) := by
  subst he
  have := PutString_call' E L s m 0 p n c l hl (by omega) hn hls
  rw [wput_good h0 h1 (lens l) h2] at this; exact this
end
theorem Read_codec_call' (E : Env) (L : List Res) (s : List UInt8) (hs : s.length ≤ 20000) : CallV Tryz.prog 62 #[.string (S s)] E L (.agg #[.string (S s), .int .i64 0, .int .i64 0, .int .i64 0]) := by
  have := Read_codec_call E L s (by omega)
  rw [show rbegin ⟨s, 0, 0, 0⟩ = ⟨s, 0, 0, 0⟩ from rbegin_good s 0 hs (by omega)] at this; exact this
end Go.Proofs.YtjhehanknkonnaaGreatDoor
set_option linter.unusedSimpArgs false
set_option linter.unusedVariables false
set_option maxHeartbeats 2000000
set_option maxRecDepth 20000
namespace Go.Proofs.YtjhehanknkonnaaGreatDoor
open Go.RowKit
/-! event.Bytes. -/
def fieldB (e : Ev) (f : Int) : List UInt8 := if f = 0 then vbytes e.rc.toNat else if f = 1 then vbytes (e.sy + 1).toNat else if f = 2 then vbytes e.pr.toNat else if f = 3 then vbytes e.tx.length ++ e.tx else if f = 4 then vbytes e.er.toNat else vbytes e.pl.toNat
/-- The bytes up to the i-th field. -/
def bL (e : Ev) (i : Nat) : List UInt8 := vbytes e.k.toNat ++ ((fieldsK e.k).take i).flatMap (fieldB e)
def bytesE (e : Ev) : List UInt8 := vbytes e.k.toNat ++ (fieldsK e.k).flatMap (fieldB e)
def byM (e : Ev) : List UInt8 × Int := if chkE e = 0 then (bytesE e, 0) else ([], chkE e)
theorem bL_succ {e : Ev} {i : Nat} {f : Int} (h : (fieldsK e.k)[i]? = some f) : bL e (i + 1) = bL e i ++ fieldB e f := by
  obtain ⟨h1, h2⟩ := List.getElem?_eq_some_iff.1 h
  unfold bL
  rw [List.take_succ_eq_append_getElem h1, h2]
  simp
theorem bL_all (e : Ev) {i : Nat} (h : (fieldsK e.k).length ≤ i) : bL e i = bytesE e := by unfold bL bytesE; rw [List.take_of_length_le h]
theorem vb_len (n : Nat) : (vbytes n).length ≤ 10 := vdig_len 10 n
theorem fieldB_len {e : Ev} (h : e.tx.length ≤ 24) (f : Int) : (fieldB e f).length ≤ 34 := by
  have h1 := vb_len e.rc.toNat
  have h2 := vb_len (e.sy + 1).toNat
  have h3 := vb_len e.pr.toNat
  have h4 := vb_len e.tx.length
  have h5 := vb_len e.er.toNat
  have h6 := vb_len e.pl.toNat
  unfold fieldB
  repeat' split
  all_goals (try rw [List.length_append]); omega
theorem bL_len {e : Ev} (h : e.tx.length ≤ 24) (i : Nat) : (bL e i).length ≤ 10 + 34 * i := by
  induction i with
  | zero => have := vb_len e.k.toNat; simp [bL]; omega
  | succ i ih =>
    by_cases hi : i < (fieldsK e.k).length
    · rw [bL_succ (List.getElem?_eq_getElem hi), List.length_append]
      have := fieldB_len h ((fieldsK e.k)[i])
      omega
    · have e1 : bL e (i + 1) = bL e i := by rw [bL_all e (by omega), bL_all e (by omega)]
      rw [e1]; omega
section
variable (E : Env) (L : List Res)
theorem PutI_call (s : List UInt8) (e x : Int) (he : e = 0) (h0 : 0 ≤ x) (h1 : x ≤ 2199023255552) (h2 : s.length ≤ 1000) : CallV Tryz.prog 43 #[.agg #[.string (S s), .int .i64 20000, .int .i64 e], .int .u64 x] E L (.agg #[.string (S (s ++ vbytes x.toNat)), .int .i64 20000, .int .i64 0]) := by
  obtain ⟨n, rfl⟩ : ∃ n : Nat, x = n := ⟨x.toNat, by omega⟩
  rw [Int.toNat_natCast]
  exact Put_call' E L s 20000 (by decide) (by decide) e he n (by omega) (by omega)
theorem PutS_call (s : List UInt8) (e : Int) (he : e = 0) (p : Option Addr) (c : Nat) (tx : List UInt8) (hl : SlE E 1 p 1 (strs [tx])) (ht : tx.length ≤ 24) (h2 : s.length ≤ 1000) : CallV Tryz.prog 119 #[.agg #[.string (S s), .int .i64 20000, .int .i64 e], .slice p 1 c] E L (.agg #[.string (S (s ++ (vbytes tx.length ++ tx))), .int .i64 20000, .int .i64 0]) := by
  have hv := vb_len tx.length
  have hf : (lens [tx]).flatten = vbytes tx.length ++ tx := by simp [lens]
  have := PutString_call'' E L s 20000 (by decide) (by decide) e he p 1 c [tx] hl (by omega) (fun w hw => by simp at hw; subst hw; omega) (by rw [hf, List.length_append]; omega)
  rw [hf] at this
  exact this
/-- The writer of an event. -/
abbrev WVB (b : Nat) (o : List UInt8) (k sy pr rc pl : Int) (tx : List UInt8) (er : Int) : Res := .blk b (.cells #[.string (S o), .int .i64 20000, .int .i64 0, .int .i64 k, .int .i64 sy, .int .i64 pr, .int .i64 rc, .int .i64 pl, .string (S tx), .int .i64 er] 65 (0, 0))
section
variable (b : Nat) (o : List UInt8) (k sy pr rc pl : Int) (tx : List UInt8) (er : Int) (ho : o.length ≤ 1000)
include ho
theorem w_record_call (h : 0 ≤ rc ∧ rc ≤ 1099511627776) : CallS Tryz.prog 81 #[.pointer (some ⟨b, 0, none⟩)] E (WVB b o k sy pr rc pl tx er :: L) (fun r E' L' => r = .tuple #[] ∧ L' = WVB b (o ++ vbytes rc.toNat) k sy pr rc pl tx er :: L) := by
  refine CallS.intro (l := [_]) _ Tryz.func81 rfl Tryz.ntmps81 rfl ?_
  (refine G_drawT 14 mixed (by kernel_rfl) ?_; dsimp only [List.take, List.drop])
  refine Q_val (V_move rfl rfl) rfl rfl (.none rfl) ?_
  refine Q_val (V_move rfl rfl) rfl rfl (.none rfl) ?_
  refine Q_val (V_nilCheck rfl rfl) rfl rfl (.none rfl) ?_
  refine Q_val (V_fieldAddr rfl rfl (by decide)) rfl rfl (.none rfl) ?_
  refine Q_val (V_loadF rfl rfl (.head _) (by simp only [Nat.zero_add, List.drop_succ_cons, List.drop_zero, List.take_succ_cons, List.take_zero]; rfl) (by rfl)) rfl rfl (.none rfl) ?_
  refine Q_val (V_move rfl rfl) rfl rfl (.none rfl) ?_
  refine Q_val (V_nilCheck rfl rfl) rfl rfl (.none rfl) ?_
  refine Q_val (V_fieldAddr rfl rfl (by decide)) rfl rfl (.none rfl) ?_
  refine Q_val (V_fieldAddr rfl rfl (by decide)) rfl rfl (.none rfl) ?_
  refine Q_val (V_load rfl rfl (Cell.own (.head _) rfl)) rfl rfl (.none rfl) ?_
  refine Q_val (V_conv_u64 rfl rfl (by omega) (by omega)) rfl rfl (.none rfl) ?_
  refine Q_callv (k := 43) (.mk rfl rfl rfl rfl) rfl rfl (.none rfl) (PutI_call _ _ _ _ _ (by omega) (by omega) (by omega) (by assumption)) ?_
  refine Q_val (V_nilCheck rfl rfl) rfl rfl (.none rfl) ?_
  refine Q_val (V_fieldAddr rfl rfl (by decide)) rfl rfl (.none rfl) ?_
  refine Q_endT ?_
  refine G_storeF rfl rfl rfl rfl (by simp [Value.oneCell']) rfl (.none rfl) (.head _ _ _) (Nat.le_of_ble_eq_true rfl) (by simp only [putAll, Nat.zero_add, Nat.reduceAdd, List.setIfInBounds_toArray, List.set_cons_succ, List.set_cons_zero]; rfl) ?_
  refine G_end ?_
  refine G_leaveS_n (.keep _ (.nil _)) (by exact (.nil)) rfl ?_ ?_
  · exact (.refl _)
  exact ⟨(by kernel_rfl), rfl⟩
theorem w_symbol_call (h : -1 ≤ sy ∧ sy ≤ 100) : CallS Tryz.prog 82 #[.pointer (some ⟨b, 0, none⟩)] E (WVB b o k sy pr rc pl tx er :: L) (fun r E' L' => r = .tuple #[] ∧ L' = WVB b (o ++ vbytes (sy + 1).toNat) k sy pr rc pl tx er :: L) := by
  refine CallS.intro (l := [_]) _ Tryz.func82 rfl Tryz.ntmps82 rfl ?_
  (refine G_drawT 15 mixed (by kernel_rfl) ?_; dsimp only [List.take, List.drop])
  refine Q_val (V_move rfl rfl) rfl rfl (.none rfl) ?_
  refine Q_val (V_move rfl rfl) rfl rfl (.none rfl) ?_
  refine Q_val (V_nilCheck rfl rfl) rfl rfl (.none rfl) ?_
  refine Q_val (V_fieldAddr rfl rfl (by decide)) rfl rfl (.none rfl) ?_
  refine Q_val (V_loadF rfl rfl (.head _) (by simp only [Nat.zero_add, List.drop_succ_cons, List.drop_zero, List.take_succ_cons, List.take_zero]; rfl) (by rfl)) rfl rfl (.none rfl) ?_
  refine Q_val (V_move rfl rfl) rfl rfl (.none rfl) ?_
  refine Q_val (V_nilCheck rfl rfl) rfl rfl (.none rfl) ?_
  refine Q_val (V_fieldAddr rfl rfl (by decide)) rfl rfl (.none rfl) ?_
  refine Q_val (V_fieldAddr rfl rfl (by decide)) rfl rfl (.none rfl) ?_
  refine Q_val (V_load rfl rfl (Cell.own (.head _) rfl)) rfl rfl (.none rfl) ?_
  refine Q_val (V_add_i64 rfl rfl rfl (by omega) (by omega)) rfl rfl (.none rfl) ?_
  refine Q_val (V_conv_u64 rfl rfl (by omega) (by omega)) rfl rfl (.none rfl) ?_
  refine Q_callv (k := 43) (.mk rfl rfl rfl rfl) rfl rfl (.none rfl) (PutI_call _ _ _ _ _ (by omega) (by omega) (by omega) (by assumption)) ?_
  refine Q_val (V_nilCheck rfl rfl) rfl rfl (.none rfl) ?_
  refine Q_val (V_fieldAddr rfl rfl (by decide)) rfl rfl (.none rfl) ?_
  refine Q_endT ?_
  refine G_storeF rfl rfl rfl rfl (by simp [Value.oneCell']) rfl (.none rfl) (.head _ _ _) (Nat.le_of_ble_eq_true rfl) (by simp only [putAll, Nat.zero_add, Nat.reduceAdd, List.setIfInBounds_toArray, List.set_cons_succ, List.set_cons_zero]; rfl) ?_
  refine G_end ?_
  refine G_leaveS_n (.keep _ (.nil _)) (by exact (.nil)) rfl ?_ ?_
  · exact (.refl _)
  exact ⟨(by kernel_rfl), rfl⟩
theorem w_prod_call (h : 0 ≤ pr ∧ pr ≤ 100) : CallS Tryz.prog 83 #[.pointer (some ⟨b, 0, none⟩)] E (WVB b o k sy pr rc pl tx er :: L) (fun r E' L' => r = .tuple #[] ∧ L' = WVB b (o ++ vbytes pr.toNat) k sy pr rc pl tx er :: L) := by
  refine CallS.intro (l := [_]) _ Tryz.func83 rfl Tryz.ntmps83 rfl ?_
  (refine G_drawT 14 mixed (by kernel_rfl) ?_; dsimp only [List.take, List.drop])
  refine Q_val (V_move rfl rfl) rfl rfl (.none rfl) ?_
  refine Q_val (V_move rfl rfl) rfl rfl (.none rfl) ?_
  refine Q_val (V_nilCheck rfl rfl) rfl rfl (.none rfl) ?_
  refine Q_val (V_fieldAddr rfl rfl (by decide)) rfl rfl (.none rfl) ?_
  refine Q_val (V_loadF rfl rfl (.head _) (by simp only [Nat.zero_add, List.drop_succ_cons, List.drop_zero, List.take_succ_cons, List.take_zero]; rfl) (by rfl)) rfl rfl (.none rfl) ?_
  refine Q_val (V_move rfl rfl) rfl rfl (.none rfl) ?_
  refine Q_val (V_nilCheck rfl rfl) rfl rfl (.none rfl) ?_
  refine Q_val (V_fieldAddr rfl rfl (by decide)) rfl rfl (.none rfl) ?_
  refine Q_val (V_fieldAddr rfl rfl (by decide)) rfl rfl (.none rfl) ?_
  refine Q_val (V_load rfl rfl (Cell.own (.head _) rfl)) rfl rfl (.none rfl) ?_
  refine Q_val (V_conv_u64 rfl rfl (by omega) (by omega)) rfl rfl (.none rfl) ?_
  refine Q_callv (k := 43) (.mk rfl rfl rfl rfl) rfl rfl (.none rfl) (PutI_call _ _ _ _ _ (by omega) (by omega) (by omega) (by assumption)) ?_
  refine Q_val (V_nilCheck rfl rfl) rfl rfl (.none rfl) ?_
  refine Q_val (V_fieldAddr rfl rfl (by decide)) rfl rfl (.none rfl) ?_
  refine Q_endT ?_
  refine G_storeF rfl rfl rfl rfl (by simp [Value.oneCell']) rfl (.none rfl) (.head _ _ _) (Nat.le_of_ble_eq_true rfl) (by simp only [putAll, Nat.zero_add, Nat.reduceAdd, List.setIfInBounds_toArray, List.set_cons_succ, List.set_cons_zero]; rfl) ?_
  refine G_end ?_
  refine G_leaveS_n (.keep _ (.nil _)) (by exact (.nil)) rfl ?_ ?_
  · exact (.refl _)
  exact ⟨(by kernel_rfl), rfl⟩
theorem w_err_call (h : 0 ≤ er ∧ er ≤ 100) : CallS Tryz.prog 85 #[.pointer (some ⟨b, 0, none⟩)] E (WVB b o k sy pr rc pl tx er :: L) (fun r E' L' => r = .tuple #[] ∧ L' = WVB b (o ++ vbytes er.toNat) k sy pr rc pl tx er :: L) := by
  refine CallS.intro (l := [_]) _ Tryz.func85 rfl Tryz.ntmps85 rfl ?_
  (refine G_drawT 14 mixed (by kernel_rfl) ?_; dsimp only [List.take, List.drop])
  refine Q_val (V_move rfl rfl) rfl rfl (.none rfl) ?_
  refine Q_val (V_move rfl rfl) rfl rfl (.none rfl) ?_
  refine Q_val (V_nilCheck rfl rfl) rfl rfl (.none rfl) ?_
  refine Q_val (V_fieldAddr rfl rfl (by decide)) rfl rfl (.none rfl) ?_
  refine Q_val (V_loadF rfl rfl (.head _) (by simp only [Nat.zero_add, List.drop_succ_cons, List.drop_zero, List.take_succ_cons, List.take_zero]; rfl) (by rfl)) rfl rfl (.none rfl) ?_
  refine Q_val (V_move rfl rfl) rfl rfl (.none rfl) ?_
  refine Q_val (V_nilCheck rfl rfl) rfl rfl (.none rfl) ?_
  refine Q_val (V_fieldAddr rfl rfl (by decide)) rfl rfl (.none rfl) ?_
  refine Q_val (V_fieldAddr rfl rfl (by decide)) rfl rfl (.none rfl) ?_
  refine Q_val (V_load rfl rfl (Cell.own (.head _) rfl)) rfl rfl (.none rfl) ?_
  refine Q_val (V_conv_u64 rfl rfl (by omega) (by omega)) rfl rfl (.none rfl) ?_
  refine Q_callv (k := 43) (.mk rfl rfl rfl rfl) rfl rfl (.none rfl) (PutI_call _ _ _ _ _ (by omega) (by omega) (by omega) (by assumption)) ?_
  refine Q_val (V_nilCheck rfl rfl) rfl rfl (.none rfl) ?_
  refine Q_val (V_fieldAddr rfl rfl (by decide)) rfl rfl (.none rfl) ?_
  refine Q_endT ?_
  refine G_storeF rfl rfl rfl rfl (by simp [Value.oneCell']) rfl (.none rfl) (.head _ _ _) (Nat.le_of_ble_eq_true rfl) (by simp only [putAll, Nat.zero_add, Nat.reduceAdd, List.setIfInBounds_toArray, List.set_cons_succ, List.set_cons_zero]; rfl) ?_
  refine G_end ?_
  refine G_leaveS_n (.keep _ (.nil _)) (by exact (.nil)) rfl ?_ ?_
  · exact (.refl _)
  exact ⟨(by kernel_rfl), rfl⟩
theorem w_at_call (h : 0 ≤ pl ∧ pl ≤ 1099511627776) : CallS Tryz.prog 86 #[.pointer (some ⟨b, 0, none⟩)] E (WVB b o k sy pr rc pl tx er :: L) (fun r E' L' => r = .tuple #[] ∧ L' = WVB b (o ++ vbytes pl.toNat) k sy pr rc pl tx er :: L) := by
  refine CallS.intro (l := [_]) _ Tryz.func86 rfl Tryz.ntmps86 rfl ?_
  (refine G_drawT 14 mixed (by kernel_rfl) ?_; dsimp only [List.take, List.drop])
  refine Q_val (V_move rfl rfl) rfl rfl (.none rfl) ?_
  refine Q_val (V_move rfl rfl) rfl rfl (.none rfl) ?_
  refine Q_val (V_nilCheck rfl rfl) rfl rfl (.none rfl) ?_
  refine Q_val (V_fieldAddr rfl rfl (by decide)) rfl rfl (.none rfl) ?_
  refine Q_val (V_loadF rfl rfl (.head _) (by simp only [Nat.zero_add, List.drop_succ_cons, List.drop_zero, List.take_succ_cons, List.take_zero]; rfl) (by rfl)) rfl rfl (.none rfl) ?_
  refine Q_val (V_move rfl rfl) rfl rfl (.none rfl) ?_
  refine Q_val (V_nilCheck rfl rfl) rfl rfl (.none rfl) ?_
  refine Q_val (V_fieldAddr rfl rfl (by decide)) rfl rfl (.none rfl) ?_
  refine Q_val (V_fieldAddr rfl rfl (by decide)) rfl rfl (.none rfl) ?_
  refine Q_val (V_load rfl rfl (Cell.own (.head _) rfl)) rfl rfl (.none rfl) ?_
  refine Q_val (V_conv_u64 rfl rfl (by omega) (by omega)) rfl rfl (.none rfl) ?_
  refine Q_callv (k := 43) (.mk rfl rfl rfl rfl) rfl rfl (.none rfl) (PutI_call _ _ _ _ _ (by omega) (by omega) (by omega) (by assumption)) ?_
  refine Q_val (V_nilCheck rfl rfl) rfl rfl (.none rfl) ?_
  refine Q_val (V_fieldAddr rfl rfl (by decide)) rfl rfl (.none rfl) ?_
  refine Q_endT ?_
  refine G_storeF rfl rfl rfl rfl (by simp [Value.oneCell']) rfl (.none rfl) (.head _ _ _) (Nat.le_of_ble_eq_true rfl) (by simp only [putAll, Nat.zero_add, Nat.reduceAdd, List.setIfInBounds_toArray, List.set_cons_succ, List.set_cons_zero]; rfl) ?_
  refine G_end ?_
  refine G_leaveS_n (.keep _ (.nil _)) (by exact (.nil)) rfl ?_ ?_
  · exact (.refl _)
  exact ⟨(by kernel_rfl), rfl⟩
theorem w_text_call (h : tx.length ≤ 24) : CallS Tryz.prog 84 #[.pointer (some ⟨b, 0, none⟩)] E (WVB b o k sy pr rc pl tx er :: L) (fun r E' L' => r = .tuple #[] ∧ L' = WVB b (o ++ (vbytes tx.length ++ tx)) k sy pr rc pl tx er :: L) := by
  refine CallS.intro (l := [_]) _ Tryz.func84 rfl Tryz.ntmps84 rfl ?_
  refine G_drawX 14 [(0, 0), (1, 0), (2, 0), (3, 0), (4, 1), (5, 0), (6, 0), (7, 0), (8, 0), (9, 1), (10, 2), (11, 3), (12, 0), (13, 0)] mixed (by kernel_rfl) ?_
  refine F_pure rfl (fun _ _ => V_move rfl rfl) rfl rfl (.none rfl) ?_
  refine F_pure rfl (fun _ _ => V_move rfl rfl) rfl rfl (.none rfl) ?_
  refine F_pure rfl (fun _ _ => V_nilCheck rfl rfl) rfl rfl (.none rfl) ?_
  refine F_pure rfl (fun _ _ => V_fieldAddr rfl rfl (by decide)) rfl rfl (.none rfl) ?_
  refine F_load rfl (.head _) (V_loadF rfl rfl (.head _) (by simp only [Nat.zero_add, List.drop_succ_cons, List.drop_zero, List.take_succ_cons, List.take_zero]; rfl) (by rfl)) rfl rfl (.none rfl) ?_
  refine F_pure rfl (fun _ _ => V_move rfl rfl) rfl rfl (.none rfl) ?_
  refine F_pure rfl (fun _ _ => V_nilCheck rfl rfl) rfl rfl (.none rfl) ?_
  refine F_pure rfl (fun _ _ => V_fieldAddr rfl rfl (by decide)) rfl rfl (.none rfl) ?_
  refine F_pure rfl (fun _ _ => V_fieldAddr rfl rfl (by decide)) rfl rfl (.none rfl) ?_
  refine F_load rfl (.head _) (V_load rfl rfl (Cell.own (.head _) rfl)) rfl rfl (.none rfl) ?_
  (refine F_litZ rfl rfl rfl (by decide) (by simp [fillS, zeros, setLs, setL, Value.cells, List.range, List.range.loop]; rfl) (by rfl) rfl rfl (.none rfl) ?_; intro b12 E12 hE12 hs12)
  refine F_callv (k := 119) rfl (.mk rfl rfl rfl rfl) rfl rfl (.none rfl) (fun _ => PutS_call _ _ _ _ (by omega) _ _ _ (by assumption) (by assumption) (by assumption)) ?_
  refine F_pure rfl (fun _ _ => V_nilCheck rfl rfl) rfl rfl (.none rfl) ?_
  refine F_pure rfl (fun _ _ => V_fieldAddr rfl rfl (by decide)) rfl rfl (.none rfl) ?_
  (refine F_end (.nil _) ?_; dsimp only [List.drop])
  refine G_storeF rfl rfl rfl rfl (by simp [Value.oneCell']) rfl (.none rfl) (.head _ _ _) (Nat.le_of_ble_eq_true rfl) (by simp only [putAll, Nat.zero_add, Nat.reduceAdd, List.setIfInBounds_toArray, List.set_cons_succ, List.set_cons_zero]; rfl) ?_
  refine G_end ?_
  refine G_leaveS_n (.keep _ (.nil _)) (by exact (.nil)) rfl ?_ ?_
  · exact hE12
  exact ⟨(by kernel_rfl), rfl⟩
end
end
end Go.Proofs.YtjhehanknkonnaaGreatDoor
namespace Go.Proofs.YtjhehanknkonnaaGreatDoor
open Go.RowKit
section
variable {P : Program} {fs : List (Nat × Value)} {E : Env} {L : List Res} {o : Oper}
theorem V_compl {t : TypeId} {x : Operand} {k : IntKind} {a : Int} (ho : o.op = .unOp .xor t x) (hx : ev fs x = some (.int k a)) : Val P o fs E L (.int k (xorI k (if k.signed then -1 else k.max) a)) :=
  ⟨(by rw [ho]; intro c h; cases h), fun n ds a' w ha _ => by
    simp only [execOp, ho, ha.eval hx, Op.unary, Op.intBits]
    rfl⟩
theorem V_compl64 {t : TypeId} {x : Operand} {a : Int} (ho : o.op = .unOp .xor t x) (hx : ev fs x = some (.int .i64 a)) : Val P o fs E L (.int .i64 (xorI .i64 (-1) a)) := V_compl ho hx
end
end Go.Proofs.YtjhehanknkonnaaGreatDoor
set_option linter.unusedSimpArgs false
set_option linter.unusedVariables false
set_option maxHeartbeats 2000000
set_option maxRecDepth 20000
namespace Go.Proofs.YtjhehanknkonnaaGreatDoor
open Go.RowKit
/-! strings.Split at one byte (as A15, A17, A18, without the looks). -/
section
variable (E : Env) (L : List Res)
end
section
variable (E : Env) (L : List Res)
end
end Go.Proofs.YtjhehanknkonnaaGreatDoor
set_option linter.unusedSimpArgs false
set_option linter.unusedVariables false
set_option maxHeartbeats 2000000
set_option maxRecDepth 20000
namespace Go.Proofs.YtjhehanknkonnaaGreatDoor
open Go.RowKit
/-! strings.Fields of the names of kinds. -/
def nmK : List UInt8 := [114, 101, 99, 111, 114, 100, 32, 101, 110, 116, 101, 114, 32, 116, 111, 107, 101, 110, 32, 101, 120, 105, 116, 32, 101, 114, 114, 111, 114, 32, 101, 110, 100, 32, 98, 97, 100]
theorem nmK_len : nmK.length = 37 := rfl
/-- The laid table of blanks. -/
abbrev aspL : List Nat := (List.range 256).map fun i => if i = 9 ∨ i = 10 ∨ i = 11 ∨ i = 12 ∨ i = 13 ∨ i = 32 then 1 else 0
abbrev AspE (E : Env) : Prop := SlE E 1 (some ⟨0, 0, none⟩) 256 (aspL.map fun n => .int .u8 (n : Nat))
def spF (i : Nat) : Nat := if nmK.getD i 0 = 32 then 1 else 0
/-- The first loop: fields begun, behind a blank, all bits. -/
def stF : Nat → Nat × Nat × Nat
  | 0 => (0, 1, 0)
  | i + 1 => ((stF i).1 + (if (stF i).2.1 = 1 ∧ spF i = 0 then 1 else 0), spF i, (stF i).2.2 ||| (nmK.getD i 0).toNat)
/-- The second loop: fields done, where the field begins. -/
def snF : Nat → Nat × Nat
  | 0 => (0, 0)
  | i + 1 => if spF i = 1 then ((snF i).1 + 1, i + 1) else snF i
theorem stF_step : ∀ i : Fin 37, orI .u8 ((stF i.val).2.2 : Nat) ((nmK.getD i.val 0).toNat : Nat) = ((stF (i.val + 1)).2.2 : Nat) ∧ ((stF i.val).1 : Int) + andI .i64 ((stF i.val).2.1 : Nat) (xorI .i64 (-1) (spF i.val : Nat)) = ((stF (i.val + 1)).1 : Nat) ∧ (stF (i.val + 1)).2.1 = spF i.val ∧ spF i.val ≤ 1 ∧ (stF i.val).1 ≤ 7 ∧
    -100 ≤ andI .i64 ((stF i.val).2.1 : Nat) (xorI .i64 (-1) (spF i.val : Nat)) ∧ andI .i64 ((stF i.val).2.1 : Nat) (xorI .i64 (-1) (spF i.val : Nat)) ≤ 100 ∧ (stF (i.val + 1)).1 ≤ 7 := by decide +kernel
theorem asp_at : ∀ i : Fin 37, (aspL)[(nmK.getD i.val 0).toNat]? = some (spF i.val) ∧ nmK[i.val]? = some (nmK.getD i.val 0) := by decide +kernel
theorem snF_step : ∀ i : Fin 37, (snF i.val).2 ≤ i.val ∧ (snF i.val).1 ≤ 6 ∧ (spF i.val = 1 → i.val + 1 < 37 ∧ spF (i.val + 1) = 0 ∧ (nmK.take i.val).drop (snF i.val).2 = kindN.getD (snF i.val).1 [] ∧ (snF i.val).1 ≤ 5) := by decide +kernel
theorem snF_next (i : Nat) : snF (i + 1) = if spF i = 1 then ((snF i).1 + 1, i + 1) else snF i := rfl
theorem kindN_len : kindN.length = 7 := rfl
theorem set_kind {n : Nat} {v : List UInt8} {z : Value} (h : n ≤ 6) (hv : v = kindN.getD n []) : (strs (kindN.take n) ++ List.replicate (7 - n) z).set n (.string (S v)) = strs (kindN.take (n + 1)) ++ List.replicate (7 - (n + 1)) z := by
  subst hv
  obtain rfl | rfl | rfl | rfl | rfl | rfl | rfl : n = 0 ∨ n = 1 ∨ n = 2 ∨ n = 3 ∨ n = 4 ∨ n = 5 ∨ n = 6 := by omega
  all_goals rfl
section
variable (E : Env) (L : List Res)
theorem aspCell {E : Env} {i : Nat} (hA : AspE E) (h : i < 37) (L : List Res) : Cell E L ⟨0, 0 + (((nmK.getD i 0).toNat : Nat) : Int).toNat * 1, none⟩ (.int .u8 (spF i : Nat)) := by
  rw [Int.toNat_natCast, Nat.mul_one]
  refine SlE.cellAt hA ?_
  rw [List.getElem?_map, (asp_at ⟨i, h⟩).1]
  rfl
theorem Fields_call (hA : AspE E) : CallS Tryz.prog 60 #[.string (S nmK)] E L (fun r E' L' => (∃ p k, r = .slice p 7 k ∧ SlE E' 1 p 7 (strs kindN) ∧ 7 ≤ k) ∧ L = L') := by
  have hl := nmK_len
  refine CallS.intro (l := [_]) _ Tryz.func60 rfl Tryz.ntmps60 rfl ?_
  refine G_seq (G_region ?_)
  refine Ga ?_
  refine G_end (X_then (G_seq (G_region ?_)))
  refine Ga ?_
  refine G_end (X_then (G_seq (G_region ?_)))
  refine Ga ?_
  refine G_end (X_then (G_seq (G_region ?_)))
  refine Ga ?_
  refine G_end (X_then (G_seq (G_seq (G_region ?_))))
  refine Ga ?_
  refine G_end (X_then (G_block ?_))
  refine G_loop (α := Nat) (fun i => [(0, .string (S nmK)), (3, .int .i64 ((stF i).1 : Nat)), (4, .int .i64 ((stF i).2.1 : Nat)), (5, .int .u8 ((stF i).2.2 : Nat)), (6, .int .i64 (i : Nat))]) (fun _ => E) (fun _ => L) (fun i => i ≤ 37) (fun i => 37 - i) 0 (by omega) ⟨rfl, rfl, rfl, rfl, rfl, trivial⟩ rfl rfl ?_
  intro i hi
  by_cases hlt : i < 37
  · obtain ⟨s1, s2, s3, s4, s5, s6, s7, s8⟩ := stF_step ⟨i, hlt⟩
    have hg := (asp_at ⟨i, hlt⟩).2
    have hc := aspCell hA hlt L
    simp only at s1 s2 s3 s4 s5 s6 s7 s8 hg
    have hg2 : nmK[((i : Nat) : Int).toNat]? = some (nmK.getD i 0) := by rw [Int.toNat_natCast]; exact hg
    clear hg
    generalize nmK.getD i 0 = c at *
    generalize spF i = sp at *
    have h256 := c.toNat_lt
    refine G_seq (G_seq (G_region ?_))
    refine Gm ?_
    refine Gm ?_
    refine Gv (V_len rfl rfl) ?_
    refine Gv (V_lss rfl rfl rfl) ?_
    refine G_end (X_then ?_)
    refine G_cond_t rfl (decide_eq_true (by omega)) ?_
    refine G_skip (X_then (G_seq (G_block (G_seq (G_region ?_)))))
    refine Gm ?_
    refine Gm ?_
    refine Gv (V_sidx rfl rfl rfl (by omega) (by assumption)) ?_
    refine Ga ?_
    refine G_end (X_then (G_seq (G_region ?_)))
    refine Gm ?_
    refine Gm ?_
    refine Gv (V_or rfl rfl rfl) ?_
    refine Ga ?_
    refine G_end (X_then (G_seq (G_region ?_)))
    refine Gm ?_
    refine Gv (V_idxAddrArr rfl rfl rfl (by omega) (by omega)) ?_
    refine Gv (V_load rfl rfl (by assumption)) ?_
    refine Gv (V_conv_i64 rfl rfl (by omega) (by omega)) ?_
    refine Ga ?_
    refine G_end (X_then (G_seq (G_region ?_)))
    refine Gm ?_
    refine Gm ?_
    refine Gm ?_
    refine Gv (V_compl64 rfl rfl) ?_
    refine Gv (V_and rfl rfl rfl) ?_
    refine Gv (V_add_i64 rfl rfl rfl (by omega) (by omega)) ?_
    refine Ga ?_
    refine G_end (X_then (G_region ?_))
    refine Gm ?_
    refine Ga ?_
    refine G_end (X_block (X_then (G_region ?_)))
    refine Gm ?_
    refine Gv (V_add_i64 rfl rfl rfl (by omega) (by omega)) ?_
    refine Ga ?_
    refine G_end (X_then ?_)
    rw [s1, s2]
    exact G_again (i + 1) hlt (by omega) ⟨rfl, rfl, by rw [s3]; rfl, rfl, rfl, trivial⟩ rfl rfl
  · obtain rfl : i = 37 := by omega
    have e1 : stF 37 = (7, 0, 127) := by decide +kernel
    rw [e1]
    dsimp only
    refine G_seq (G_seq (G_region ?_))
    refine Gm ?_
    refine Gm ?_
    refine Gv (V_len rfl rfl) ?_
    refine Gv (V_lss rfl rfl rfl) ?_
    refine G_end (X_then ?_)
    refine G_cond_f rfl (by kernel_rfl) ?_
    refine G_exit (X_then_exit (X_then_exit (X_block_hit (X_then (G_seq (G_seq (G_region ?_)))))))
    refine Gm ?_
    refine Gv (V_geq rfl rfl rfl) ?_
    refine G_end (X_then ?_)
    refine G_cond_f rfl (by kernel_rfl) ?_
    refine G_skip (X_then (G_seq (G_region ?_)))
    refine Gm ?_
    (refine G_makeSlice rfl rfl rfl (by omega) (by omega) (by omega) rfl rfl (.none rfl) ?_; intro b41)
    refine Ga ?_
    refine G_end (X_then (G_seq (G_region ?_)))
    refine Ga ?_
    refine G_end (X_then (G_seq (G_region ?_)))
    refine Ga ?_
    refine G_end (X_then (G_seq (G_region ?_)))
    refine Ga ?_
    refine G_end (X_then (G_seq (G_block ?_)))
    have hc0 := aspCell (i := 0) hA (by omega) (.blk b41 (.cells (List.replicate ((7 : Nat) : Int).toNat (Value.string { data := #[] })).toArray 9 (0, 0)) :: L)
    have hg0 : nmK[(0 : Int).toNat]? = some (nmK.getD 0 0) := rfl
    have hs0 : spF 0 = 0 := by decide +kernel
    rw [hs0] at hc0
    have h2560 := (nmK.getD 0 0).toNat_lt
    generalize nmK.getD 0 0 = c at *
    refine G_loop (α := Unit) (fun _ => [(0, .string (S nmK)), (9, .slice (some ⟨b41, 0, none⟩) 7 7), (10, .int .i64 0), (12, .int .i64 0)]) (fun _ => E) (fun _ => .blk b41 (.cells (List.replicate ((7 : Nat) : Int).toNat (Value.string { data := #[] })).toArray 9 (0, 0)) :: L) (fun _ => True) (fun _ => 0) () trivial ⟨rfl, rfl, rfl, rfl, trivial⟩ rfl rfl ?_
    rintro _ _
    refine G_seq (G_seq (G_region ?_))
    refine Gm ?_
    refine Gm ?_
    refine Gv (V_len rfl rfl) ?_
    refine Gv (V_lss rfl rfl rfl) ?_
    refine Gm ?_
    refine G.bool_t 46 rfl (by kernel_rfl) ?_
    refine Gy (V_move rfl rfl) ?_
    refine Gy (V_move rfl rfl) ?_
    refine Gy (V_sidx rfl rfl rfl (by omega) (by assumption)) ?_
    refine Gy (V_idxAddrArr rfl rfl rfl (by omega) (by omega)) ?_
    refine Gy (V_load rfl rfl (by assumption)) ?_
    refine Gy (V_neq rfl rfl rfl) ?_
    refine Gv (V_pick_t rfl rfl rfl) ?_
    refine G_end (X_then ?_)
    refine G_cond_f rfl (by kernel_rfl) ?_
    refine G_exit (X_then_exit (X_then_exit (X_block_hit (X_then (G_seq (G_region ?_))))))
    refine Gm ?_
    refine Ga ?_
    refine G_end (X_then (G_seq (G_block ?_)))
    clear hc0 hg0 h2560
    refine G_loop (α := Nat) (fun i => [(0, .string (S nmK)), (9, .slice (some ⟨b41, 0, none⟩) 7 7), (10, .int .i64 ((snF i).1 : Nat)), (11, .int .i64 ((snF i).2 : Nat)), (12, .int .i64 (i : Nat))]) (fun _ => E)
      (fun i => .blk b41 (.cells (strs (kindN.take (snF i).1) ++ List.replicate (7 - (snF i).1) (Value.string { data := #[] })).toArray 9 (0, 0)) :: L) (fun i => i ≤ 37) (fun i => 37 - i) 0 (by omega) ⟨rfl, rfl, rfl, rfl, rfl, trivial⟩ rfl rfl ?_
    intro i hi
    by_cases hlt : i < 37
    · have hg := (asp_at ⟨i, hlt⟩).2
      have hc := aspCell hA hlt (.blk b41 (.cells (strs (kindN.take (snF i).1) ++ List.replicate (7 - (snF i).1) (Value.string { data := #[] })).toArray 9 (0, 0)) :: L)
      obtain ⟨n1, n2, n3⟩ := snF_step ⟨i, hlt⟩
      have n4 := snF_next i
      simp only at hg n1 n2 n3
      have hg2 : nmK[((i : Nat) : Int).toNat]? = some (nmK.getD i 0) := by rw [Int.toNat_natCast]; exact hg
      have hsp1 : spF i = 0 ∨ spF i = 1 := by unfold spF; split <;> simp
      have h256 := (nmK.getD i 0).toNat_lt
      clear hg
      generalize nmK.getD i 0 = c at *
      rcases hsp1 with h0 | h1
      · rw [h0] at hc n4
        rw [if_neg (by decide)] at n4
        refine G_seq (G_seq (G_region ?_))
        refine Gm ?_
        refine Gm ?_
        refine Gv (V_len rfl rfl) ?_
        refine Gv (V_lss rfl rfl rfl) ?_
        refine G_end (X_then ?_)
        refine G_cond_t rfl (decide_eq_true (by omega)) ?_
        refine G_skip (X_then (G_block (G_seq (G_seq (G_region ?_)))))
        refine Gm ?_
        refine Gm ?_
        refine Gv (V_sidx rfl rfl rfl (by omega) (by assumption)) ?_
        refine Gv (V_idxAddrArr rfl rfl rfl (by omega) (by omega)) ?_
        refine Gv (V_load rfl rfl (by assumption)) ?_
        refine Gv (V_eql rfl rfl rfl) ?_
        refine G_end (X_then ?_)
        refine G_cond_t rfl (by kernel_rfl) ?_
        refine G_seq (G_region ?_)
        refine Gm ?_
        refine Gv (V_add_i64 rfl rfl rfl (by omega) (by omega)) ?_
        refine Ga ?_
        refine G_end (X_then (G_exit (X_then_exit (X_block_hit (X_then ?_)))))
        exact G_again (i + 1) hlt (by omega) ⟨rfl, rfl, by rw [n4]; rfl, by rw [n4]; rfl, rfl, trivial⟩ rfl (by rw [n4])
      · obtain ⟨m1, m2, m3, m4⟩ := n3 h1
        rw [h1] at hc n4
        rw [if_pos rfl] at n4
        refine G_seq (G_seq (G_region ?_))
        refine Gm ?_
        refine Gm ?_
        refine Gv (V_len rfl rfl) ?_
        refine Gv (V_lss rfl rfl rfl) ?_
        refine G_end (X_then ?_)
        refine G_cond_t rfl (decide_eq_true (by omega)) ?_
        refine G_skip (X_then (G_block (G_seq (G_seq (G_region ?_)))))
        refine Gm ?_
        refine Gm ?_
        refine Gv (V_sidx rfl rfl rfl (by omega) (by assumption)) ?_
        refine Gv (V_idxAddrArr rfl rfl rfl (by omega) (by omega)) ?_
        refine Gv (V_load rfl rfl (by assumption)) ?_
        refine Gv (V_eql rfl rfl rfl) ?_
        refine G_end (X_then ?_)
        refine G_cond_f rfl (by kernel_rfl) ?_
        refine G_skip (X_then (G_seq (G_region ?_)))
        refine Gm ?_
        refine Gm ?_
        refine Gm ?_
        refine Gm ?_
        refine Gm ?_
        refine Gv (V_cut rfl rfl rfl rfl (by omega) (by omega) (by omega)) ?_
        refine Gv (V_idxB1n rfl rfl rfl (by omega)) ?_
        rw [Int.toNat_natCast, Int.toNat_natCast, m3]
        refine G_storeB rfl rfl rfl rfl rfl rfl (.none rfl) (.head _ _ _) (by rw [List.length_append, List.length_replicate]; simp only [strs, List.length_map, List.length_take]; rw [kindN_len]; omega) ?_
        rw [set_kind (by omega) rfl]
        have hg := (asp_at ⟨i + 1, m1⟩).2
        have hc2 := aspCell hA m1 (.blk b41 (.cells (strs (kindN.take ((snF i).1 + 1)) ++ List.replicate (7 - ((snF i).1 + 1)) (Value.string { data := #[] })).toArray 9 (0, 0)) :: L)
        rw [m2] at hc2
        simp only at hg
        have h2562 := (nmK.getD (i + 1) 0).toNat_lt
        generalize nmK.getD (i + 1) 0 = c2 at *
        have hi1 : (i : Int) + 1 = ((i + 1 : Nat) : Int) := by omega
        have hm1 : ((snF i).1 : Int) + 1 = (((snF i).1 + 1 : Nat) : Int) := by omega
        refine G_end (X_then (G_seq (G_region ?_)))
        refine Gm ?_
        refine Gv (V_add_i64 rfl rfl rfl (by omega) (by omega)) ?_
        refine Ga ?_
        refine G_end (X_then (G_seq (G_region ?_)))
        refine Gm ?_
        refine Gv (V_add_i64 rfl rfl rfl (by omega) (by omega)) ?_
        refine Ga ?_
        refine G_end (X_then (G_seq (G_block ?_)))
        rw [hi1, hm1]
        refine G_loop (α := Unit) (fun _ => [(0, .string (S nmK)), (9, .slice (some ⟨b41, 0, none⟩) 7 7), (10, .int .i64 (((snF i).1 + 1 : Nat) : Int)), (12, .int .i64 ((i + 1 : Nat) : Int))]) (fun _ => E) (fun _ => .blk b41 (.cells (strs (kindN.take ((snF i).1 + 1)) ++ List.replicate (7 - ((snF i).1 + 1)) (Value.string { data := #[] })).toArray 9 (0, 0)) :: L) (fun _ => True) (fun _ => 0) () trivial ⟨rfl, rfl, rfl, rfl, trivial⟩ rfl rfl ?_
        rintro _ _
        have hg3 : nmK[((i + 1 : Nat) : Int).toNat]? = some c2 := by rw [Int.toNat_natCast]; exact hg
        clear hc hg2
        refine G_seq (G_seq (G_region ?_))
        refine Gm ?_
        refine Gm ?_
        refine Gv (V_len rfl rfl) ?_
        refine Gv (V_lss rfl rfl rfl) ?_
        refine Gm ?_
        refine G.bool_t 84 rfl (decide_eq_true (by omega)) ?_
        refine Gy (V_move rfl rfl) ?_
        refine Gy (V_move rfl rfl) ?_
        refine Gy (V_sidx rfl rfl rfl (by omega) (by assumption)) ?_
        refine Gy (V_idxAddrArr rfl rfl rfl (by omega) (by omega)) ?_
        refine Gy (V_load rfl rfl (by assumption)) ?_
        refine Gy (V_neq rfl rfl rfl) ?_
        refine Gv (V_pick_t rfl rfl rfl) ?_
        refine G_end (X_then ?_)
        refine G_cond_f rfl (by kernel_rfl) ?_
        refine G_exit (X_then_exit (X_then_exit (X_block_hit (X_then (G_region ?_)))))
        refine Gm ?_
        refine Ga ?_
        refine G_end (X_block (X_then ?_))
        exact G_again (i + 1) hlt (by omega) ⟨rfl, rfl, by rw [n4]; rfl, by rw [n4]; rfl, rfl, trivial⟩ rfl (by rw [n4])
    · obtain rfl : i = 37 := by omega
      have e1 : snF 37 = (6, 34) := by decide +kernel
      rw [e1]
      dsimp only
      refine G_seq (G_seq (G_region ?_))
      refine Gm ?_
      refine Gm ?_
      refine Gv (V_len rfl rfl) ?_
      refine Gv (V_lss rfl rfl rfl) ?_
      refine G_end (X_then ?_)
      refine G_cond_f rfl (by kernel_rfl) ?_
      refine G_exit (X_then_exit (X_then_exit (X_block_hit (X_then (G_seq (G_seq (G_region ?_)))))))
      refine Gm ?_
      refine Gm ?_
      refine Gv (V_len rfl rfl) ?_
      refine Gv (V_lss rfl rfl rfl) ?_
      refine G_end (X_then ?_)
      refine G_cond_t rfl (by kernel_rfl) ?_
      refine G_region ?_
      refine Gm ?_
      refine Gm ?_
      refine Gm ?_
      refine Gm ?_
      refine Gv (V_back rfl rfl rfl (by omega) (by omega)) ?_
      refine Gv (V_idxB1n rfl rfl rfl (by omega)) ?_
      refine G_storeAt rfl rfl rfl rfl rfl rfl (.none rfl) (.head _ _ _) (Nat.le_of_ble_eq_true rfl) (by simp only [putAll, Nat.zero_add, Nat.reduceAdd, List.setIfInBounds_toArray, List.set_cons_succ, List.set_cons_zero]; rfl) ?_
      refine G_end (X_then (G_seq (G_region ?_)))
      refine Gm ?_
      refine Ga ?_
      refine G_end (X_then (G_ret ?_))
      rw [set_kind (n := 6) (v := nmK.drop ((34 : Nat) : Int).toNat) (by omega) rfl]
      refine G.freezeB (k := 7) (sz := 1) (.head _ _) rfl ?_
      intro E2 hE2 hz
      have hf : SlE E2 1 (some ⟨b41, 0, none⟩) 7 (strs kindN) := hz
      refine G_leaveS (.nil _) (by exact (.cons (.tmp rfl) (.nil))) rfl ?_ ?_
      · exact hE2
      exact ⟨⟨_, ⟨_, ⟨rfl, ⟨(by assumption), (by omega)⟩⟩⟩⟩, rfl⟩
end
end Go.Proofs.YtjhehanknkonnaaGreatDoor
set_option linter.unusedSimpArgs false
set_option linter.unusedVariables false
set_option maxHeartbeats 2000000
set_option maxRecDepth 20000
namespace Go.Proofs.YtjhehanknkonnaaGreatDoor
open Go.RowKit
/-! Names of kinds; the place of a text in a list; bytes as digits. -/
def nmM (k : Int) : List UInt8 × Int := if 1 ≤ k ∧ k ≤ 7 then (evN k, 0) else ([], 11)
theorem evN_at {k : Int} (h : 1 ≤ k ∧ k ≤ 7) : kindN[(k - 1).toNat]? = some (evN k) := by
  obtain ⟨n, rfl⟩ : ∃ n : Nat, k = n := ⟨k.toNat, by omega⟩
  have : ∀ i : Fin 8, 1 ≤ i.val → kindN[((i.val : Int) - 1).toNat]? = some (evN (i.val : Int)) := by decide +kernel
  exact this ⟨n, by omega⟩ (by simp only; omega)
abbrev hexS : List UInt8 := [48, 49, 50, 51, 52, 53, 54, 55, 56, 57, 97, 98, 99, 100, 101, 102]
theorem hex_hi (b : UInt8) : 0 ≤ shrI .u8 (b.toNat : Nat) 4 ∧ hexS[(shrI .u8 (b.toNat : Nat) 4).toNat]? = some (hexD (b.toNat / 16)) := by
  have : ∀ i : Fin 256, 0 ≤ shrI .u8 (i.val : Nat) 4 ∧ hexS[(shrI .u8 (i.val : Nat) 4).toNat]? = some (hexD (i.val / 16)) := by decide +kernel
  exact this ⟨b.toNat, b.toNat_lt⟩
theorem hex_lo (b : UInt8) : 0 ≤ andI .u8 (b.toNat : Nat) 15 ∧ hexS[(andI .u8 (b.toNat : Nat) 15).toNat]? = some (hexD (b.toNat % 16)) := by
  have : ∀ i : Fin 256, 0 ≤ andI .u8 (i.val : Nat) 15 ∧ hexS[(andI .u8 (i.val : Nat) 15).toNat]? = some (hexD (i.val % 16)) := by decide +kernel
  exact this ⟨b.toNat, b.toNat_lt⟩
section
variable (E : Env) (L : List Res)
theorem Name_call (hA : AspE E) (k : Int) : CallS Tryz.prog 20 #[.int .i64 k] E L (fun r E' L' => r = .tuple #[.string (S (nmM k).1), .int .i64 (nmM k).2] ∧ L' = L) := by
  refine CallS.intro (l := [_]) _ Tryz.func20 rfl Tryz.ntmps20 rfl ?_
  refine G_seq (G_region ?_)
  refine Ga ?_
  refine Ga ?_
  refine G_end (X_then (G_seq (G_region ?_)))
  refine G_call (k := 60) (.mk rfl rfl rfl rfl) rfl rfl (.none rfl) (Fields_call _ _ hA) ?_
  rintro x1 E1 L1 hE1 ⟨⟨p, c, rfl, hs, hc⟩, rfl⟩
  unfold nmM
  by_cases h1 : k < 1
  · rw [if_neg (by omega)]
    refine Ga ?_
    refine G_end (X_then (G_seq (G_seq (G_region ?_))))
    refine Gm ?_
    refine Gv (V_lss rfl rfl rfl) ?_
    refine Gm ?_
    refine G.bool_t 8 rfl (decide_eq_true (by omega)) ?_
    refine Gn ?_
    refine Gn ?_
    refine Gn ?_
    refine Gn ?_
    refine Gv (V_pick_t rfl rfl rfl) ?_
    refine G_end (X_then ?_)
    refine G_cond_t rfl rfl ?_
    refine G_seq (G_region ?_)
    refine Ga ?_
    refine Ga ?_
    refine G_end (X_then (G_ret (X_then_ret ?_)))
    refine G_leaveS (.nil _) (by exact (.cons (.tmp rfl) (.cons (.tmp rfl) (.nil)))) rfl ?_ ?_
    · exact hE1
    exact ⟨(by kernel_rfl), rfl⟩
  · by_cases h7 : 7 < k
    · rw [if_neg (by omega)]
      refine Ga ?_
      refine G_end (X_then (G_seq (G_seq (G_region ?_))))
      refine Gm ?_
      refine Gv (V_lss rfl rfl rfl) ?_
      refine Gm ?_
      refine G.bool_f 8 rfl (decide_eq_false (by omega)) ?_
      refine Gy (V_move rfl rfl) ?_
      refine Gy (V_move rfl rfl) ?_
      refine Gy (V_lenS rfl rfl) ?_
      refine Gy (V_gtr rfl rfl rfl) ?_
      refine Gv (V_pick_f rfl rfl rfl) ?_
      refine G_end (X_then ?_)
      refine G_cond_t rfl (decide_eq_true (by omega)) ?_
      refine G_seq (G_region ?_)
      refine Ga ?_
      refine Ga ?_
      refine G_end (X_then (G_ret (X_then_ret ?_)))
      refine G_leaveS (.nil _) (by exact (.cons (.tmp rfl) (.cons (.tmp rfl) (.nil)))) rfl ?_ ?_
      · exact hE1
      exact ⟨(by kernel_rfl), rfl⟩
    · rw [if_pos (by omega)]
      have hx := strs_get (evN_at (k := k) (by omega))
      refine Ga ?_
      refine G_end (X_then (G_seq (G_seq (G_region ?_))))
      refine Gm ?_
      refine Gv (V_lss rfl rfl rfl) ?_
      refine Gm ?_
      refine G.bool_f 8 rfl (decide_eq_false (by omega)) ?_
      refine Gy (V_move rfl rfl) ?_
      refine Gy (V_move rfl rfl) ?_
      refine Gy (V_lenS rfl rfl) ?_
      refine Gy (V_gtr rfl rfl rfl) ?_
      refine Gv (V_pick_f rfl rfl rfl) ?_
      refine G_end (X_then ?_)
      refine G_cond_f rfl (decide_eq_false (by omega)) ?_
      refine G_skip (X_then (G_seq (G_region ?_)))
      refine Gm ?_
      refine Gm ?_
      refine Gv (V_sub_i64 rfl rfl rfl (by omega) (by omega)) ?_
      refine Gv (V_idxAddr rfl rfl rfl (SlE.rd (by assumption)) (by omega) (by omega)) ?_
      refine Gv (V_loadS rfl rfl (SlE.rd (by assumption)) (by assumption) (by simp)) ?_
      refine Ga ?_
      refine Ga ?_
      refine G_end (X_then (G_ret ?_))
      refine G_leaveS (.nil _) (by exact (.cons (.tmp rfl) (.cons (.tmp rfl) (.nil)))) rfl ?_ ?_
      · exact hE1
      exact ⟨rfl, rfl⟩
theorem hex_call (s : List UInt8) (hs : s.length ≤ 1000) : CallS Tryz.prog 53 #[.string (S s)] E L (fun r E' L' => r = .string (S (hexT s)) ∧ L' = L) := by
  unfold hexT
  refine CallS.intro (l := [_]) _ Tryz.func53 rfl Tryz.ntmps53 rfl ?_
  by_cases h : s = []
  · rw [if_pos h]
    refine G_seq (G_region ?_)
    refine Ga ?_
    refine G_end (X_then (G_seq (G_seq (G_region ?_))))
    refine Gm ?_
    refine Gv (V_seql rfl rfl rfl) ?_
    refine G_end (X_then ?_)
    refine G_cond_t rfl (decide_eq_true (by omega)) ?_
    refine G_seq (G_region ?_)
    refine Ga ?_
    refine G_end (X_then (G_ret (X_then_ret ?_)))
    refine G_leaveS (.nil _) (by exact (.cons (.tmp rfl) (.nil))) rfl ?_ ?_
    · exact (.refl _)
    exact ⟨(by kernel_rfl), rfl⟩
  · rw [if_neg h]
    refine G_seq (G_region ?_)
    refine Ga ?_
    refine G_end (X_then (G_seq (G_seq (G_region ?_))))
    refine Gm ?_
    refine Gv (V_seql rfl rfl rfl) ?_
    refine G_end (X_then ?_)
    refine G_cond_f rfl (decide_eq_false (by omega)) ?_
    refine G_skip (X_then (G_seq (G_region ?_)))
    refine Ga ?_
    refine G_end (X_then (G_seq (G_seq (G_region ?_))))
    refine Gm ?_
    (refine G_s2b rfl rfl rfl rfl (.none rfl) ?_; intro b9 c9 E9 hE9 hs9)
    refine Gv (V_lenS rfl rfl) ?_
    refine Gm ?_
    refine G_end (X_then (G_block ?_))
    refine G.nilSl 5 1 ?_
    refine G_loop (α := Nat × Option Addr × Nat × Env) (fun x => [(3, .slice x.2.1 (2 * x.1) x.2.2.1), (9, .slice (some ⟨b9, 0, none⟩) s.length c9), (10, .int .i64 s.length), (11, .int .i64 (x.1 : Nat))]) (fun x => x.2.2.2) (fun x => .sl 5 1 x.2.1 (2 * x.1) x.2.2.1 (u8s (hexL (s.take x.1))) :: L)
      (fun x => x.1 ≤ s.length ∧ E9.Le x.2.2.2) (fun x => s.length - x.1) (0, none, 0, E9) ⟨Nat.zero_le _, .refl _⟩ ⟨rfl, rfl, rfl, rfl, trivial⟩ rfl rfl ?_
    rintro ⟨i, a, c, E1⟩ ⟨hi, hE1⟩
    simp only at hi hE1 ⊢
    replace hs9 := hs9.mono hE1
    by_cases hlt : i < s.length
    · have hg := u8s_at (List.getElem?_eq_getElem hlt)
      have htk := List.take_succ_eq_append_getElem hlt
      generalize s[i] = b at *
      obtain ⟨q1, q2⟩ := hex_hi b
      obtain ⟨q3, q4⟩ := hex_lo b
      have hb := b.toNat_lt
      have hsn : u8s (hexL (s.take i)) ++ [Value.int IntKind.u8 (hexD (b.toNat / 16)).toNat, Value.int IntKind.u8 (hexD (b.toNat % 16)).toNat] = u8s (hexL (s.take (i + 1))) := by rw [htk, hexL_snoc, u8s_app]; rfl
      have hl2 : 2 * i + 2 = 2 * (i + 1) := by omega
      refine G_seq (G_region ?_)
      refine Gv (V_lss rfl rfl rfl) ?_
      refine G_end (X_then (G_seq ?_))
      refine G_cond_t rfl (decide_eq_true (by omega)) ?_
      refine G_skip (X_then (G_seq (G_block (G_seq (G_region ?_)))))
      refine Gv (V_idxAddr rfl rfl rfl (SlE.rd (by assumption)) (by omega) (by omega)) ?_
      refine Gv (V_loadS rfl rfl (SlE.rd (by assumption)) (by assumption) (by simp)) ?_
      refine Ga ?_
      refine G_end (X_then ?_)
      refine G_drawX 8 [(0, 0), (1, 0), (2, 0), (3, 0), (4, 0), (5, 0), (6, 0), (7, 2)] mixed (by kernel_rfl) ?_
      refine F_pure rfl (fun _ _ => V_move rfl rfl) rfl rfl (.none rfl) ?_
      refine F_pure rfl (fun _ _ => V_move rfl rfl) rfl rfl (.none rfl) ?_
      refine F_pure rfl (fun _ _ => V_shr rfl rfl rfl (by omega)) rfl rfl (.none rfl) ?_
      refine F_pure rfl (fun _ _ => V_sidx rfl rfl rfl (by omega) (by assumption)) rfl rfl (.none rfl) ?_
      refine F_pure rfl (fun _ _ => V_move rfl rfl) rfl rfl (.none rfl) ?_
      refine F_pure rfl (fun _ _ => V_and rfl rfl rfl) rfl rfl (.none rfl) ?_
      refine F_pure rfl (fun _ _ => V_sidx rfl rfl rfl (by omega) (by assumption)) rfl rfl (.none rfl) ?_
      (refine F_litZ rfl rfl rfl (by decide) (by simp [fillS, zeros, setLs, setL, Value.cells, List.range, List.range.loop]; rfl) (by rfl) rfl rfl (.none rfl) ?_; intro b22 E22 hE22 hs22)
      replace hs9 := hs9.mono hE22
      (refine F_end (.nil _) ?_; dsimp only [List.drop])
      (refine G_append rfl rfl rfl (SlE.rd (by assumption)) (by simp [Value.oneCell']) (by omega) (by omega) rfl rfl (.none rfl) (fun _ _ => (.head _ _ _)) ?_; intro a23 c23)
      refine Ga ?_
      refine G_end (X_block (X_then (G_region ?_)))
      refine Gv (V_add_i64 rfl rfl rfl (by omega) (by omega)) ?_
      refine Gm ?_
      refine G_end (X_then ?_)
      rw [hsn, hl2]
      exact G_again (i + 1, a23, c23, E22) ⟨hlt, hE1.trans hE22⟩ (by simp only; omega) ⟨rfl, rfl, rfl, rfl, trivial⟩ rfl rfl
    · rw [List.take_of_length_le (by omega)]
      have hll := hexL_len s
      have h2i : 2 * i = (hexL s).length := by omega
      rw [h2i]
      generalize hexL s = t at *
      refine G_seq (G_region ?_)
      refine Gv (V_lss rfl rfl rfl) ?_
      refine G_end (X_then (G_seq ?_))
      refine G_cond_f rfl (decide_eq_false (by omega)) ?_
      refine G_exit (X_then_exit (X_then_exit (X_block_hit (X_then (G_seq (G_region ?_))))))
      refine Gm ?_
      refine Gv (V_b2s rfl rfl (Rd.sl (.head _) (by simp))) ?_
      refine Ga ?_
      refine G_end (X_then (G_ret ?_))
      refine G_leaveS (.drop _ (.nil _)) (by exact (.cons (.tmp rfl) (.nil))) rfl ?_ ?_
      · exact (hE9.trans hE1)
      exact ⟨rfl, rfl⟩
end
end Go.Proofs.YtjhehanknkonnaaGreatDoor
set_option linter.unusedSimpArgs false
set_option linter.unusedVariables false
set_option maxHeartbeats 2000000
set_option maxRecDepth 20000
namespace Go.Proofs.YtjhehanknkonnaaGreatDoor
open Go.RowKit
/-! The place of a text in a list; digits read. -/
/-- What digits are read as. -/
structure UnhexR (s : List UInt8) (r : Value) : Prop where
  out : ∃ t b, r = .tuple #[.string (S t), .bool b] ∧ t.length ≤ s.length ∧ ∀ x, hexT x = s → b = true ∧ t = x
section
variable (E : Env) (L : List Res)
end
end Go.Proofs.YtjhehanknkonnaaGreatDoor
set_option linter.unusedSimpArgs false
set_option linter.unusedVariables false
set_option maxHeartbeats 2000000
set_option maxRecDepth 20000
namespace Go.Proofs.YtjhehanknkonnaaGreatDoor
open Go.RowKit
/-! The number of digits of any number below 2^41. -/
/-- n is the number of bits of d. -/
abbrev bitsP (d n : Nat) : Prop := d < 2 ^ n ∧ 2 ^ n ≤ 2 * d
theorem len8_at {d : Nat} (h : 1 ≤ d ∧ d < 256) : ∃ m : Nat, len8[d]? = some (UInt8.ofNat m) ∧ m ≤ 8 ∧ bitsP d m := by
  have : ∀ i : Fin 256, 1 ≤ i.val → len8[i.val]? = some (UInt8.ofNat (Nat.log2 i.val + 1)) ∧ Nat.log2 i.val + 1 ≤ 8 ∧ bitsP i.val (Nat.log2 i.val + 1) := by decide +kernel
  exact ⟨_, this ⟨d, h.2⟩ h.1⟩
theorem bitsP_shr {d k m : Nat} (h : bitsP (d / 2 ^ k) m) : bitsP d (m + k) := by
  obtain ⟨h1, h2⟩ := h
  have hp : 0 < 2 ^ k := Nat.two_pow_pos k
  constructor
  · rw [Nat.pow_add]
    exact (Nat.div_lt_iff_lt_mul hp).1 h1
  · rw [Nat.pow_add]
    have h3 : d / 2 ^ k * 2 ^ k ≤ d := Nat.div_mul_le_self d (2 ^ k)
    calc 2 ^ m * 2 ^ k ≤ 2 * (d / 2 ^ k) * 2 ^ k := Nat.mul_le_mul_right _ h2
      _ = 2 * (d / 2 ^ k * 2 ^ k) := Nat.mul_assoc _ _ _
      _ ≤ 2 * d := Nat.mul_le_mul_left _ h3
theorem shr_nat (d k : Nat) (hk : k ≤ 64) : shrI .u64 (d : Int) (k : Int) = ((d / 2 ^ k : Nat) : Int) := by
  have h : shrI .u64 (d : Int) (k : Int) = Int.fdiv (d : Int) (2 ^ k) := by
    have hb : min k IntKind.u64.bits = k := Nat.min_eq_left hk
    simp [shrI, hb]
  rw [h, Int.fdiv_eq_ediv_of_nonneg _ (by exact Int.le_of_lt (Int.pow_pos (by decide)))]
  norm_cast
/-- Which number of digits there are. -/
theorem dig_bits : ∀ n : Fin 42, 1 ≤ n.val → 2 ^ n.val ≤ 10 ^ (n.val * 78913 / 262144 + 1) ∧ (1 ≤ n.val * 78913 / 262144 → 2 * 10 ^ (n.val * 78913 / 262144 - 1) ≤ 2 ^ n.val) ∧ n.val * 78913 / 262144 ≤ 12 := by decide +kernel
theorem nd_of {d n : Nat} (h : bitsP d n) (hn : 1 ≤ n ∧ n < 42) (hd : 1 ≤ d) :
    ∃ k, k ≤ 12 ∧ n * 78913 / 262144 + (if 10 ^ (n * 78913 / 262144) ≤ d then 1 else 0) = k + 1 ∧ 10 ^ k ≤ d ∧ d < 10 ^ (k + 1) := by
  obtain ⟨h1, h2, h3⟩ := dig_bits ⟨n, hn.2⟩ hn.1
  simp only at h1 h2 h3
  generalize n * 78913 / 262144 = q at *
  by_cases hq : 10 ^ q ≤ d
  · rw [if_pos hq]
    exact ⟨q, h3, rfl, hq, by have := h.1; omega⟩
  · rw [if_neg hq]
    have hq1 : 1 ≤ q := by
      rcases Nat.eq_zero_or_pos q with rfl | h4
      · simp at hq; omega
      · exact h4
    obtain ⟨k, rfl⟩ : ∃ k, q = k + 1 := ⟨q - 1, by omega⟩
    have := h2 hq1
    have h5 := h.2
    rw [Nat.add_sub_cancel] at this
    exact ⟨k, by omega, rfl, by omega, by omega⟩
end Go.Proofs.YtjhehanknkonnaaGreatDoor
namespace Go.Proofs.YtjhehanknkonnaaGreatDoor
open Go.RowKit
section
variable {n : Nat} {ds : List Deferred} {fs : List (Nat × Value)} {E : Env} {L : List Res} {X : Act → World → Prop}
theorem G_ways {β : Type} {J : β → Prop} {fs' : β → List (Nat × Value)} {E' : β → Env} {L' : β → List Res} {Y : Act → World → Prop} (h1 : (∀ x, J x → G n ds (fs' x) (E' x) (L' x) Y) → G n ds fs E L X) (h2 : ∀ x, J x → G n ds (fs' x) (E' x) (L' x) Y) : G n ds fs E L X := h1 h2
end
end Go.Proofs.YtjhehanknkonnaaGreatDoor
