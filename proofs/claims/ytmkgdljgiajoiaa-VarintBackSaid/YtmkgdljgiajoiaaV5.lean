import Derived.Test.YtmkgdljgiajoiaaSep8
import Derived.Test.YtmkgdljgiajoiaaInst
import Derived.Test.YtmkgdljgiajoiaaV4
set_option linter.unusedSimpArgs false
set_option linter.unusedVariables false
namespace Go.Proofs.Ytmkgdljgiajoiaa
open Go.RowKit

theorem vreadK_err (s : List UInt8) (a k i n : Nat) : (vreadK s a k i n).2.2.1 ≠ 0 → (vreadK s a k i n).1 = 0 ∧ (vreadK s a k i n).2.1 = 0 := by
  induction k generalizing i n with
  | zero => intro _; exact ⟨rfl, rfl⟩
  | succ k ih =>
    simp only [vreadK]
    split
    · intro _; exact ⟨rfl, rfl⟩
    · split
      · intro _; exact ⟨rfl, rfl⟩
      · split
        · intro h; exact absurd rfl h
        · exact ih _ _
theorem vreadK_ok (s : List UInt8) (a k i n : Nat) : (vreadK s a k i n).2.2.1 = 0 → (vreadK s a k i n).2.2.2 = 0 := by
  induction k generalizing i n with
  | zero => intro h; simp [vreadK] at h
  | succ k ih =>
    simp only [vreadK]
    split
    · intro h; exact absurd h (by simp)
    · split
      · intro h; exact absurd h (by simp)
      · split
        · intro h; rfl
        · exact ih _ _
theorem vread_err (s : List UInt8) (a : Int) : (vread s a).2.2.1 ≠ 0 → (vread s a).1 = 0 ∧ (vread s a).2.1 = 0 := by
  unfold vread; split
  · intro _; exact ⟨rfl, rfl⟩
  · exact vreadK_err _ _ _ _ _
theorem vread_ok (s : List UInt8) (a : Int) : (vread s a).2.2.1 = 0 → (vread s a).2.2.2 = 0 := by
  unfold vread; split
  · intro h; exact absurd h (by simp)
  · exact vreadK_ok _ _ _ _ _

theorem Parse2_call (E : Env) (L : List Res) (s : List UInt8) (hs : s.length ≤ 1000000000000) : CallV Try.prog 22 #[.string (S s)] E L (pV (vparse s)) := by
  refine CallS.toV (CallS.intro (l := [.string (S s)]) _ Try.func22 rfl Try.ntmps22 rfl ?_)
  refine G_seq ?_
  refine G_region ?_
  refine G_val (V_assign rfl rfl) rfl rfl (.none rfl) ?_
  (refine G_alloc rfl rfl rfl (.none rfl) ?_; intro b3)
  refine G_end ?_
  refine X_then ?_
  refine G_seq ?_
  refine G_region ?_
  refine G_val (V_move rfl rfl) rfl rfl (.none rfl) ?_
  refine G_callv (k := 20) (.mk rfl rfl rfl rfl) rfl rfl (.none rfl) (Read2_call _ _ s hs 0) ?_
  have h1 := vread_err s 0
  have h2 := vread_ok s 0
  unfold vparse
  generalize vread s 0 = r at *
  obtain ⟨n, nx, e, ea⟩ := r
  simp only at *
  by_cases he : e = 0
  · obtain rfl := h2 he
    by_cases hx : nx < s.length
    · rw [if_pos ⟨he, hx⟩]
      refine G_val (V_move rfl rfl) rfl rfl (.none rfl) ?_
      refine G_val (V_extract rfl rfl rfl) rfl rfl (.none rfl) ?_
      refine G_val (V_extract rfl rfl rfl) rfl rfl (.none rfl) ?_
      refine G_val (V_extract rfl rfl rfl) rfl rfl (.none rfl) ?_
      (refine G_alloc rfl rfl rfl (.none rfl) ?_; intro b6)
      refine G_val (V_assign rfl rfl) rfl rfl (.none rfl) ?_
      refine G_val (V_assign rfl rfl) rfl rfl (.none rfl) ?_
      refine G_storeA rfl rfl rfl rfl (by simp [Value.oneCell']) rfl (.none rfl) (.head _ _ _) rfl ?_
      refine G_end ?_
      refine X_then ?_
      refine G_seq ?_
      refine G_seq ?_
      refine G_region ?_
      refine G_val (V_fieldAddr rfl rfl (by decide)) rfl rfl (.none rfl) ?_
      refine G_val (V_load rfl rfl (Cell.own (.head _) rfl)) rfl rfl (.none rfl) ?_
      refine G_val (V_eql rfl rfl rfl) rfl rfl (.none rfl) ?_
      refine G_val (V_move rfl rfl) rfl rfl (.none rfl) ?_
      refine G.bool_t 16 rfl (by simp [*]; done) ?_
      refine G_val (V_move rfl rfl) rfl rfl (.yes rfl rfl rfl rfl) ?_
      refine G_val (V_move rfl rfl) rfl rfl (.yes rfl rfl rfl rfl) ?_
      refine G_val (V_len rfl rfl) rfl rfl (.yes rfl rfl rfl rfl) ?_
      refine G_val (V_lss rfl rfl rfl) rfl rfl (.yes rfl rfl rfl rfl) ?_
      refine G_val (V_pick_t rfl rfl rfl) rfl rfl (.none rfl) ?_
      refine G_end ?_
      refine X_then ?_
      refine G_cond_t rfl (by simp [*]; done) ?_
      refine G_region ?_
      refine G_val (V_move rfl rfl) rfl rfl (.none rfl) ?_
      refine G_val (V_build rfl rfl (by simp [fillV, setLs, setL, Value.cells]; rfl)) rfl rfl (.none rfl) ?_
      refine G_storeA rfl rfl rfl rfl (by simp [Value.oneCell']) rfl (.none rfl) (.head _ _ _) rfl ?_
      refine G_end ?_
      refine X_then ?_
      refine G_seq ?_
      refine G_seq ?_
      refine G_region ?_
      refine G_val (V_fieldAddr rfl rfl (by decide)) rfl rfl (.none rfl) ?_
      refine G_val (V_load rfl rfl (Cell.own (.head _) rfl)) rfl rfl (.none rfl) ?_
      refine G_val (V_neq rfl rfl rfl) rfl rfl (.none rfl) ?_
      refine G_end ?_
      refine X_then ?_
      refine G_cond_t rfl rfl ?_
      refine G_seq ?_
      (refine G_drawT 2 mixed (by kernel_rfl) ?_; dsimp only [List.take, List.drop])
      refine Q_val (V_loadA rfl rfl (Cells.own (.head _)) rfl) rfl rfl (.none rfl) ?_
      refine Q_val (V_assign rfl rfl) rfl rfl (.none rfl) ?_
      refine Q_endT ?_
      refine G_storeA rfl rfl rfl rfl (by simp [Value.oneCell']) rfl (.none rfl) (.tail _ (.head _ _ _)) rfl ?_
      refine G_end ?_
      refine X_then ?_
      refine G_ret ?_
      refine X_then_ret ?_
      refine G_leave 2 (by exact (.cons (.tmp rfl) (.cons (.cellA rfl (Cells.own (.tail _ (.head _))) rfl) (.nil)))) rfl ?_ ?_
      · exact .refl _
      · exact ⟨rfl, rfl⟩
    · rw [if_neg (fun h => hx h.2)]
      refine G_val (V_move rfl rfl) rfl rfl (.none rfl) ?_
      refine G_val (V_extract rfl rfl rfl) rfl rfl (.none rfl) ?_
      refine G_val (V_extract rfl rfl rfl) rfl rfl (.none rfl) ?_
      refine G_val (V_extract rfl rfl rfl) rfl rfl (.none rfl) ?_
      (refine G_alloc rfl rfl rfl (.none rfl) ?_; intro b6)
      refine G_val (V_assign rfl rfl) rfl rfl (.none rfl) ?_
      refine G_val (V_assign rfl rfl) rfl rfl (.none rfl) ?_
      refine G_storeA rfl rfl rfl rfl (by simp [Value.oneCell']) rfl (.none rfl) (.head _ _ _) rfl ?_
      refine G_end ?_
      refine X_then ?_
      refine G_seq ?_
      refine G_seq ?_
      refine G_region ?_
      refine G_val (V_fieldAddr rfl rfl (by decide)) rfl rfl (.none rfl) ?_
      refine G_val (V_load rfl rfl (Cell.own (.head _) rfl)) rfl rfl (.none rfl) ?_
      refine G_val (V_eql rfl rfl rfl) rfl rfl (.none rfl) ?_
      refine G_val (V_move rfl rfl) rfl rfl (.none rfl) ?_
      refine G.bool_t 16 rfl (by simp [*]; done) ?_
      refine G_val (V_move rfl rfl) rfl rfl (.yes rfl rfl rfl rfl) ?_
      refine G_val (V_move rfl rfl) rfl rfl (.yes rfl rfl rfl rfl) ?_
      refine G_val (V_len rfl rfl) rfl rfl (.yes rfl rfl rfl rfl) ?_
      refine G_val (V_lss rfl rfl rfl) rfl rfl (.yes rfl rfl rfl rfl) ?_
      refine G_val (V_pick_t rfl rfl rfl) rfl rfl (.none rfl) ?_
      refine G_end ?_
      refine X_then ?_
      refine G_cond_f rfl (by simp [*]; done) ?_
      refine G_skip ?_
      refine X_then ?_
      refine G_seq ?_
      refine G_seq ?_
      refine G_region ?_
      refine G_val (V_fieldAddr rfl rfl (by decide)) rfl rfl (.none rfl) ?_
      refine G_val (V_load rfl rfl (Cell.own (.head _) rfl)) rfl rfl (.none rfl) ?_
      refine G_val (V_neq rfl rfl rfl) rfl rfl (.none rfl) ?_
      refine G_end ?_
      refine X_then ?_
      refine G_cond_f rfl (by simp [*]; done) ?_
      refine G_skip ?_
      refine X_then ?_
      refine G_seq ?_
      refine G_region ?_
      refine G_val (V_move rfl rfl) rfl rfl (.none rfl) ?_
      refine G_val (V_build rfl rfl (by simp [fillV, setLs, setL, Value.cells]; rfl)) rfl rfl (.none rfl) ?_
      refine G_val (V_assign rfl rfl) rfl rfl (.none rfl) ?_
      refine G_storeA rfl rfl rfl rfl (by simp [Value.oneCell']) rfl (.none rfl) (.tail _ (.head _ _ _)) rfl ?_
      refine G_end ?_
      refine X_then ?_
      refine G_ret ?_
      refine G_leave 2 (by exact (.cons (.tmp rfl) (.cons (.cellA rfl (Cells.own (.tail _ (.head _))) rfl) (.nil)))) rfl ?_ ?_
      · exact .refl _
      · exact ⟨by rw [he]; rfl, rfl⟩
  · rw [if_neg (fun h => he h.1)]
    obtain ⟨rfl, _⟩ := h1 he
    refine G_val (V_move rfl rfl) rfl rfl (.none rfl) ?_
    refine G_val (V_extract rfl rfl rfl) rfl rfl (.none rfl) ?_
    refine G_val (V_extract rfl rfl rfl) rfl rfl (.none rfl) ?_
    refine G_val (V_extract rfl rfl rfl) rfl rfl (.none rfl) ?_
    (refine G_alloc rfl rfl rfl (.none rfl) ?_; intro b6)
    refine G_val (V_assign rfl rfl) rfl rfl (.none rfl) ?_
    refine G_val (V_assign rfl rfl) rfl rfl (.none rfl) ?_
    refine G_storeA rfl rfl rfl rfl (by simp [Value.oneCell']) rfl (.none rfl) (.head _ _ _) rfl ?_
    refine G_end ?_
    refine X_then ?_
    refine G_seq ?_
    refine G_seq ?_
    refine G_region ?_
    refine G_val (V_fieldAddr rfl rfl (by decide)) rfl rfl (.none rfl) ?_
    refine G_val (V_load rfl rfl (Cell.own (.head _) rfl)) rfl rfl (.none rfl) ?_
    refine G_val (V_eql rfl rfl rfl) rfl rfl (.none rfl) ?_
    refine G_val (V_move rfl rfl) rfl rfl (.none rfl) ?_
    refine G.bool_f 16 rfl (by simp [*]; done) ?_
    refine G_stay (.no rfl rfl rfl rfl) rfl rfl ?_
    refine G_stay (.no rfl rfl rfl rfl) rfl rfl ?_
    refine G_stay (.no rfl rfl rfl rfl) rfl rfl ?_
    refine G_stay (.no rfl rfl rfl rfl) rfl rfl ?_
    refine G_val (V_pick_f rfl rfl rfl) rfl rfl (.none rfl) ?_
    refine G_end ?_
    refine X_then ?_
    refine G_cond_f rfl rfl ?_
    refine G_skip ?_
    refine X_then ?_
    refine G_seq ?_
    refine G_seq ?_
    refine G_region ?_
    refine G_val (V_fieldAddr rfl rfl (by decide)) rfl rfl (.none rfl) ?_
    refine G_val (V_load rfl rfl (Cell.own (.head _) rfl)) rfl rfl (.none rfl) ?_
    refine G_val (V_neq rfl rfl rfl) rfl rfl (.none rfl) ?_
    refine G_end ?_
    refine X_then ?_
    refine G_cond_t rfl (by simp [*]; done) ?_
    refine G_seq ?_
    (refine G_drawT 2 mixed (by kernel_rfl) ?_; dsimp only [List.take, List.drop])
    refine Q_val (V_loadA rfl rfl (Cells.own (.head _)) rfl) rfl rfl (.none rfl) ?_
    refine Q_val (V_assign rfl rfl) rfl rfl (.none rfl) ?_
    refine Q_endT ?_
    refine G_storeA rfl rfl rfl rfl (by simp [Value.oneCell']) rfl (.none rfl) (.tail _ (.head _ _ _)) rfl ?_
    refine G_end ?_
    refine X_then ?_
    refine G_ret ?_
    refine X_then_ret ?_
    refine G_leave 2 (by exact (.cons (.tmp rfl) (.cons (.cellA rfl (Cells.own (.tail _ (.head _))) rfl) (.nil)))) rfl ?_ ?_
    · exact .refl _
    · exact ⟨rfl, rfl⟩

def vbound (s : List UInt8) (a : Int) (m : Nat) : Nat × Nat × Int × Int := if (vread s a).2.2.1 = 0 ∧ m < (vread s a).1 then (0, 0, 2, a) else ((vread s a).1, (vread s a).2.1, (vread s a).2.2.1, (vread s a).2.2.2)
def bV (r : Nat × Nat × Int × Int) : Value := .tuple #[.int .u64 r.1, .int .i64 r.2.1, .agg #[.int .i64 r.2.2.1, .int .i64 r.2.2.2]]

theorem Bounded_call (E : Env) (L : List Res) (s : List UInt8) (hs : s.length ≤ 1000000000000) (a : Int) (m : Nat) : CallV Try.prog 23 #[.string (S s), .int .i64 a, .int .u64 m] E L (bV (vbound s a m)) := by
  refine CallS.toV (CallS.intro (l := [.string (S s), .int .i64 a, .int .u64 m]) _ Try.func23 rfl Try.ntmps23 rfl ?_)
  refine G_seq ?_
  refine G_region ?_
  refine G_val (V_assign rfl rfl) rfl rfl (.none rfl) ?_
  refine G_val (V_assign rfl rfl) rfl rfl (.none rfl) ?_
  (refine G_alloc rfl rfl rfl (.none rfl) ?_; intro b8)
  refine G_end ?_
  refine X_then ?_
  refine G_seq ?_
  refine G_region ?_
  refine G_val (V_move rfl rfl) rfl rfl (.none rfl) ?_
  refine G_val (V_move rfl rfl) rfl rfl (.none rfl) ?_
  refine G_callv (k := 19) (.mk rfl rfl rfl rfl) rfl rfl (.none rfl) (Read_call _ _ s hs a) ?_
  unfold vbound
  generalize vread s a = r at *
  obtain ⟨n, nx, e, ea⟩ := r
  simp only at *
  by_cases he : e = 0
  · by_cases hx : m < n
    · rw [if_pos ⟨he, hx⟩]
      refine G_val (V_move rfl rfl) rfl rfl (.none rfl) ?_
      refine G_val (V_extract rfl rfl rfl) rfl rfl (.none rfl) ?_
      refine G_val (V_extract rfl rfl rfl) rfl rfl (.none rfl) ?_
      refine G_val (V_extract rfl rfl rfl) rfl rfl (.none rfl) ?_
      refine G_val (V_assign rfl rfl) rfl rfl (.none rfl) ?_
      refine G_val (V_assign rfl rfl) rfl rfl (.none rfl) ?_
      refine G_storeA rfl rfl rfl rfl (by simp [Value.oneCell']) rfl (.none rfl) (.head _ _ _) rfl ?_
      refine G_end ?_
      refine X_then ?_
      refine G_seq ?_
      refine G_seq ?_
      refine G_region ?_
      refine G_val (V_fieldAddr rfl rfl (by decide)) rfl rfl (.none rfl) ?_
      refine G_val (V_load rfl rfl (Cell.own (.head _) rfl)) rfl rfl (.none rfl) ?_
      refine G_val (V_eql rfl rfl rfl) rfl rfl (.none rfl) ?_
      refine G_val (V_move rfl rfl) rfl rfl (.none rfl) ?_
      refine G.bool_t 19 rfl (by simp [*]; done) ?_
      refine G_val (V_move rfl rfl) rfl rfl (.yes rfl rfl rfl rfl) ?_
      refine G_val (V_move rfl rfl) rfl rfl (.yes rfl rfl rfl rfl) ?_
      refine G_val (V_gtr rfl rfl rfl) rfl rfl (.yes rfl rfl rfl rfl) ?_
      refine G_val (V_pick_t rfl rfl rfl) rfl rfl (.none rfl) ?_
      refine G_end ?_
      refine X_then ?_
      refine G_cond_t rfl (decide_eq_true (by omega)) ?_
      refine G_seq ?_
      refine G_region ?_
      refine G_val (V_move rfl rfl) rfl rfl (.none rfl) ?_
      refine G_val (V_build rfl rfl (by simp [fillV, setLs, setL, Value.cells]; rfl)) rfl rfl (.none rfl) ?_
      refine G_val (V_assign rfl rfl) rfl rfl (.none rfl) ?_
      refine G_val (V_assign rfl rfl) rfl rfl (.none rfl) ?_
      refine G_storeA rfl rfl rfl rfl (by simp [Value.oneCell']) rfl (.none rfl) (.head _ _ _) rfl ?_
      refine G_end ?_
      refine X_then ?_
      refine G_ret ?_
      refine X_then_ret ?_
      refine G_leave 1 (by exact (.cons (.tmp rfl) (.cons (.tmp rfl) (.cons (.cellA rfl (Cells.own (.head _)) rfl) (.nil))))) rfl ?_ ?_
      · exact .refl _
      · exact ⟨rfl, rfl⟩
    · rw [if_neg (fun h => hx h.2)]
      refine G_val (V_move rfl rfl) rfl rfl (.none rfl) ?_
      refine G_val (V_extract rfl rfl rfl) rfl rfl (.none rfl) ?_
      refine G_val (V_extract rfl rfl rfl) rfl rfl (.none rfl) ?_
      refine G_val (V_extract rfl rfl rfl) rfl rfl (.none rfl) ?_
      refine G_val (V_assign rfl rfl) rfl rfl (.none rfl) ?_
      refine G_val (V_assign rfl rfl) rfl rfl (.none rfl) ?_
      refine G_storeA rfl rfl rfl rfl (by simp [Value.oneCell']) rfl (.none rfl) (.head _ _ _) rfl ?_
      refine G_end ?_
      refine X_then ?_
      refine G_seq ?_
      refine G_seq ?_
      refine G_region ?_
      refine G_val (V_fieldAddr rfl rfl (by decide)) rfl rfl (.none rfl) ?_
      refine G_val (V_load rfl rfl (Cell.own (.head _) rfl)) rfl rfl (.none rfl) ?_
      refine G_val (V_eql rfl rfl rfl) rfl rfl (.none rfl) ?_
      refine G_val (V_move rfl rfl) rfl rfl (.none rfl) ?_
      refine G.bool_t 19 rfl (by simp [*]; done) ?_
      refine G_val (V_move rfl rfl) rfl rfl (.yes rfl rfl rfl rfl) ?_
      refine G_val (V_move rfl rfl) rfl rfl (.yes rfl rfl rfl rfl) ?_
      refine G_val (V_gtr rfl rfl rfl) rfl rfl (.yes rfl rfl rfl rfl) ?_
      refine G_val (V_pick_t rfl rfl rfl) rfl rfl (.none rfl) ?_
      refine G_end ?_
      refine X_then ?_
      refine G_cond_f rfl (decide_eq_false (by omega)) ?_
      refine G_skip ?_
      refine X_then ?_
      refine G_seq ?_
      (refine G_drawT 5 mixed (by kernel_rfl) ?_; dsimp only [List.take, List.drop])
      refine Q_val (V_move rfl rfl) rfl rfl (.none rfl) ?_
      refine Q_val (V_move rfl rfl) rfl rfl (.none rfl) ?_
      refine Q_val (V_loadA rfl rfl (Cells.own (.head _)) rfl) rfl rfl (.none rfl) ?_
      refine Q_val (V_assign rfl rfl) rfl rfl (.none rfl) ?_
      refine Q_val (V_assign rfl rfl) rfl rfl (.none rfl) ?_
      refine Q_endT ?_
      refine G_storeA rfl rfl rfl rfl (by simp [Value.oneCell']) rfl (.none rfl) (.head _ _ _) rfl ?_
      refine G_end ?_
      refine X_then ?_
      refine G_ret ?_
      refine G_leave 1 (by exact (.cons (.tmp rfl) (.cons (.tmp rfl) (.cons (.cellA rfl (Cells.own (.head _)) rfl) (.nil))))) rfl ?_ ?_
      · exact .refl _
      · exact ⟨rfl, rfl⟩
  · rw [if_neg (fun h => he h.1)]
    refine G_val (V_move rfl rfl) rfl rfl (.none rfl) ?_
    refine G_val (V_extract rfl rfl rfl) rfl rfl (.none rfl) ?_
    refine G_val (V_extract rfl rfl rfl) rfl rfl (.none rfl) ?_
    refine G_val (V_extract rfl rfl rfl) rfl rfl (.none rfl) ?_
    refine G_val (V_assign rfl rfl) rfl rfl (.none rfl) ?_
    refine G_val (V_assign rfl rfl) rfl rfl (.none rfl) ?_
    refine G_storeA rfl rfl rfl rfl (by simp [Value.oneCell']) rfl (.none rfl) (.head _ _ _) rfl ?_
    refine G_end ?_
    refine X_then ?_
    refine G_seq ?_
    refine G_seq ?_
    refine G_region ?_
    refine G_val (V_fieldAddr rfl rfl (by decide)) rfl rfl (.none rfl) ?_
    refine G_val (V_load rfl rfl (Cell.own (.head _) rfl)) rfl rfl (.none rfl) ?_
    refine G_val (V_eql rfl rfl rfl) rfl rfl (.none rfl) ?_
    refine G_val (V_move rfl rfl) rfl rfl (.none rfl) ?_
    refine G.bool_f 19 rfl (by simp [*]; done) ?_
    refine G_stay (.no rfl rfl rfl rfl) rfl rfl ?_
    refine G_stay (.no rfl rfl rfl rfl) rfl rfl ?_
    refine G_stay (.no rfl rfl rfl rfl) rfl rfl ?_
    refine G_val (V_pick_f rfl rfl rfl) rfl rfl (.none rfl) ?_
    refine G_end ?_
    refine X_then ?_
    refine G_cond_f rfl rfl ?_
    refine G_skip ?_
    refine X_then ?_
    refine G_seq ?_
    (refine G_drawT 5 mixed (by kernel_rfl) ?_; dsimp only [List.take, List.drop])
    refine Q_val (V_move rfl rfl) rfl rfl (.none rfl) ?_
    refine Q_val (V_move rfl rfl) rfl rfl (.none rfl) ?_
    refine Q_val (V_loadA rfl rfl (Cells.own (.head _)) rfl) rfl rfl (.none rfl) ?_
    refine Q_val (V_assign rfl rfl) rfl rfl (.none rfl) ?_
    refine Q_val (V_assign rfl rfl) rfl rfl (.none rfl) ?_
    refine Q_endT ?_
    refine G_storeA rfl rfl rfl rfl (by simp [Value.oneCell']) rfl (.none rfl) (.head _ _ _) rfl ?_
    refine G_end ?_
    refine X_then ?_
    refine G_ret ?_
    refine G_leave 1 (by exact (.cons (.tmp rfl) (.cons (.tmp rfl) (.cons (.cellA rfl (Cells.own (.head _)) rfl) (.nil))))) rfl ?_ ?_
    · exact .refl _
    · exact ⟨rfl, rfl⟩
theorem Bounded2_call (E : Env) (L : List Res) (s : List UInt8) (hs : s.length ≤ 1000000000000) (a : Int) (m : Nat) : CallV Try.prog 24 #[.string (S s), .int .i64 a, .int .u64 m] E L (bV (vbound s a m)) := by
  refine CallS.toV (CallS.intro (l := [.string (S s), .int .i64 a, .int .u64 m]) _ Try.func24 rfl Try.ntmps24 rfl ?_)
  refine G_seq ?_
  refine G_region ?_
  refine G_val (V_assign rfl rfl) rfl rfl (.none rfl) ?_
  refine G_val (V_assign rfl rfl) rfl rfl (.none rfl) ?_
  (refine G_alloc rfl rfl rfl (.none rfl) ?_; intro b8)
  refine G_end ?_
  refine X_then ?_
  refine G_seq ?_
  refine G_region ?_
  refine G_val (V_move rfl rfl) rfl rfl (.none rfl) ?_
  refine G_val (V_move rfl rfl) rfl rfl (.none rfl) ?_
  refine G_callv (k := 20) (.mk rfl rfl rfl rfl) rfl rfl (.none rfl) (Read2_call _ _ s hs a) ?_
  unfold vbound
  generalize vread s a = r at *
  obtain ⟨n, nx, e, ea⟩ := r
  simp only at *
  by_cases he : e = 0
  · by_cases hx : m < n
    · rw [if_pos ⟨he, hx⟩]
      refine G_val (V_move rfl rfl) rfl rfl (.none rfl) ?_
      refine G_val (V_extract rfl rfl rfl) rfl rfl (.none rfl) ?_
      refine G_val (V_extract rfl rfl rfl) rfl rfl (.none rfl) ?_
      refine G_val (V_extract rfl rfl rfl) rfl rfl (.none rfl) ?_
      (refine G_alloc rfl rfl rfl (.none rfl) ?_; intro b11)
      refine G_val (V_assign rfl rfl) rfl rfl (.none rfl) ?_
      refine G_val (V_assign rfl rfl) rfl rfl (.none rfl) ?_
      refine G_storeA rfl rfl rfl rfl (by simp [Value.oneCell']) rfl (.none rfl) (.head _ _ _) rfl ?_
      refine G_end ?_
      refine X_then ?_
      refine G_seq ?_
      refine G_seq ?_
      refine G_region ?_
      refine G_val (V_fieldAddr rfl rfl (by decide)) rfl rfl (.none rfl) ?_
      refine G_val (V_load rfl rfl (Cell.own (.head _) rfl)) rfl rfl (.none rfl) ?_
      refine G_val (V_eql rfl rfl rfl) rfl rfl (.none rfl) ?_
      refine G_val (V_move rfl rfl) rfl rfl (.none rfl) ?_
      refine G.bool_t 22 rfl (by simp [*]; done) ?_
      refine G_val (V_move rfl rfl) rfl rfl (.yes rfl rfl rfl rfl) ?_
      refine G_val (V_move rfl rfl) rfl rfl (.yes rfl rfl rfl rfl) ?_
      refine G_val (V_gtr rfl rfl rfl) rfl rfl (.yes rfl rfl rfl rfl) ?_
      refine G_val (V_pick_t rfl rfl rfl) rfl rfl (.none rfl) ?_
      refine G_end ?_
      refine X_then ?_
      refine G_cond_t rfl (decide_eq_true (by omega)) ?_
      refine G_seq ?_
      refine G_region ?_
      refine G_val (V_move rfl rfl) rfl rfl (.none rfl) ?_
      refine G_callv (k := 34) (.mk rfl rfl rfl rfl) rfl rfl (.none rfl) (fault_call _ _ _ _) ?_
      refine G_val (V_extract rfl rfl rfl) rfl rfl (.none rfl) ?_
      refine G_val (V_extract rfl rfl rfl) rfl rfl (.none rfl) ?_
      refine G_val (V_extract rfl rfl rfl) rfl rfl (.none rfl) ?_
      refine G_val (V_assign rfl rfl) rfl rfl (.none rfl) ?_
      refine G_val (V_assign rfl rfl) rfl rfl (.none rfl) ?_
      refine G_storeA rfl rfl rfl rfl (by simp [Value.oneCell']) rfl (.none rfl) (.tail _ (.head _ _ _)) rfl ?_
      refine G_end ?_
      refine X_then ?_
      refine G_ret ?_
      refine X_then_ret ?_
      refine G_leave 2 (by exact (.cons (.tmp rfl) (.cons (.tmp rfl) (.cons (.cellA rfl (Cells.own (.tail _ (.head _))) rfl) (.nil))))) rfl ?_ ?_
      · exact .refl _
      · exact ⟨rfl, rfl⟩
    · rw [if_neg (fun h => hx h.2)]
      refine G_val (V_move rfl rfl) rfl rfl (.none rfl) ?_
      refine G_val (V_extract rfl rfl rfl) rfl rfl (.none rfl) ?_
      refine G_val (V_extract rfl rfl rfl) rfl rfl (.none rfl) ?_
      refine G_val (V_extract rfl rfl rfl) rfl rfl (.none rfl) ?_
      (refine G_alloc rfl rfl rfl (.none rfl) ?_; intro b11)
      refine G_val (V_assign rfl rfl) rfl rfl (.none rfl) ?_
      refine G_val (V_assign rfl rfl) rfl rfl (.none rfl) ?_
      refine G_storeA rfl rfl rfl rfl (by simp [Value.oneCell']) rfl (.none rfl) (.head _ _ _) rfl ?_
      refine G_end ?_
      refine X_then ?_
      refine G_seq ?_
      refine G_seq ?_
      refine G_region ?_
      refine G_val (V_fieldAddr rfl rfl (by decide)) rfl rfl (.none rfl) ?_
      refine G_val (V_load rfl rfl (Cell.own (.head _) rfl)) rfl rfl (.none rfl) ?_
      refine G_val (V_eql rfl rfl rfl) rfl rfl (.none rfl) ?_
      refine G_val (V_move rfl rfl) rfl rfl (.none rfl) ?_
      refine G.bool_t 22 rfl (by simp [*]; done) ?_
      refine G_val (V_move rfl rfl) rfl rfl (.yes rfl rfl rfl rfl) ?_
      refine G_val (V_move rfl rfl) rfl rfl (.yes rfl rfl rfl rfl) ?_
      refine G_val (V_gtr rfl rfl rfl) rfl rfl (.yes rfl rfl rfl rfl) ?_
      refine G_val (V_pick_t rfl rfl rfl) rfl rfl (.none rfl) ?_
      refine G_end ?_
      refine X_then ?_
      refine G_cond_f rfl (decide_eq_false (by omega)) ?_
      refine G_skip ?_
      refine X_then ?_
      refine G_seq ?_
      (refine G_drawT 5 mixed (by kernel_rfl) ?_; dsimp only [List.take, List.drop])
      refine Q_val (V_move rfl rfl) rfl rfl (.none rfl) ?_
      refine Q_val (V_move rfl rfl) rfl rfl (.none rfl) ?_
      refine Q_val (V_loadA rfl rfl (Cells.own (.head _)) rfl) rfl rfl (.none rfl) ?_
      refine Q_val (V_assign rfl rfl) rfl rfl (.none rfl) ?_
      refine Q_val (V_assign rfl rfl) rfl rfl (.none rfl) ?_
      refine Q_endT ?_
      refine G_storeA rfl rfl rfl rfl (by simp [Value.oneCell']) rfl (.none rfl) (.tail _ (.head _ _ _)) rfl ?_
      refine G_end ?_
      refine X_then ?_
      refine G_ret ?_
      refine G_leave 2 (by exact (.cons (.tmp rfl) (.cons (.tmp rfl) (.cons (.cellA rfl (Cells.own (.tail _ (.head _))) rfl) (.nil))))) rfl ?_ ?_
      · exact .refl _
      · exact ⟨rfl, rfl⟩
  · rw [if_neg (fun h => he h.1)]
    refine G_val (V_move rfl rfl) rfl rfl (.none rfl) ?_
    refine G_val (V_extract rfl rfl rfl) rfl rfl (.none rfl) ?_
    refine G_val (V_extract rfl rfl rfl) rfl rfl (.none rfl) ?_
    refine G_val (V_extract rfl rfl rfl) rfl rfl (.none rfl) ?_
    (refine G_alloc rfl rfl rfl (.none rfl) ?_; intro b11)
    refine G_val (V_assign rfl rfl) rfl rfl (.none rfl) ?_
    refine G_val (V_assign rfl rfl) rfl rfl (.none rfl) ?_
    refine G_storeA rfl rfl rfl rfl (by simp [Value.oneCell']) rfl (.none rfl) (.head _ _ _) rfl ?_
    refine G_end ?_
    refine X_then ?_
    refine G_seq ?_
    refine G_seq ?_
    refine G_region ?_
    refine G_val (V_fieldAddr rfl rfl (by decide)) rfl rfl (.none rfl) ?_
    refine G_val (V_load rfl rfl (Cell.own (.head _) rfl)) rfl rfl (.none rfl) ?_
    refine G_val (V_eql rfl rfl rfl) rfl rfl (.none rfl) ?_
    refine G_val (V_move rfl rfl) rfl rfl (.none rfl) ?_
    refine G.bool_f 22 rfl (by simp [*]; done) ?_
    refine G_stay (.no rfl rfl rfl rfl) rfl rfl ?_
    refine G_stay (.no rfl rfl rfl rfl) rfl rfl ?_
    refine G_stay (.no rfl rfl rfl rfl) rfl rfl ?_
    refine G_val (V_pick_f rfl rfl rfl) rfl rfl (.none rfl) ?_
    refine G_end ?_
    refine X_then ?_
    refine G_cond_f rfl rfl ?_
    refine G_skip ?_
    refine X_then ?_
    refine G_seq ?_
    (refine G_drawT 5 mixed (by kernel_rfl) ?_; dsimp only [List.take, List.drop])
    refine Q_val (V_move rfl rfl) rfl rfl (.none rfl) ?_
    refine Q_val (V_move rfl rfl) rfl rfl (.none rfl) ?_
    refine Q_val (V_loadA rfl rfl (Cells.own (.head _)) rfl) rfl rfl (.none rfl) ?_
    refine Q_val (V_assign rfl rfl) rfl rfl (.none rfl) ?_
    refine Q_val (V_assign rfl rfl) rfl rfl (.none rfl) ?_
    refine Q_endT ?_
    refine G_storeA rfl rfl rfl rfl (by simp [Value.oneCell']) rfl (.none rfl) (.tail _ (.head _ _ _)) rfl ?_
    refine G_end ?_
    refine X_then ?_
    refine G_ret ?_
    refine G_leave 2 (by exact (.cons (.tmp rfl) (.cons (.tmp rfl) (.cons (.cellA rfl (Cells.own (.tail _ (.head _))) rfl) (.nil))))) rfl ?_ ?_
    · exact .refl _
    · exact ⟨rfl, rfl⟩
end Go.Proofs.Ytmkgdljgiajoiaa
