import Derived.Test.YtlkfbokdbfnicaaSep17
import Derived.Test.YtlkfbokdbfnicaaInst
import Derived.Test.YtlkfbokdbfnicaaVmath
import Derived.Lib.Hide
set_option linter.unusedSimpArgs false
set_option linter.unusedVariables false
set_option maxHeartbeats 2000000
set_option maxRecDepth 20000
namespace Go.Proofs.Ytlkfbokdbfnicaa
open Go.RowKit

theorem fault_call (E : Env) (L : List Res) (e a : Int) : CallV Try.prog 109 #[.int .i64 e, .int .i64 a] E L (.tuple #[.int .u64 0, .int .i64 0, .agg #[.int .i64 e, .int .i64 a]]) := by
  refine CallS.toV (CallS.intro (l := [.int .i64 e, .int .i64 a]) _ Try.func109 rfl Try.ntmps109 rfl ?_)
  refine G_seq ?_
  refine G_region ?_
  refine G_val (V_assign rfl rfl) rfl rfl (.none rfl) ?_
  refine G_val (V_assign rfl rfl) rfl rfl (.none rfl) ?_
  (refine G_alloc rfl rfl rfl (.none rfl) ?_; intro b6)
  refine G_end ?_
  refine X_then ?_
  refine G_seq ?_
  refine G_region ?_
  refine G_val (V_move rfl rfl) rfl rfl (.none rfl) ?_
  refine G_val (V_move rfl rfl) rfl rfl (.none rfl) ?_
  refine G_val (V_build rfl rfl (by simp [fillV, setLs, setL, Value.cells]; rfl)) rfl rfl (.none rfl) ?_
  refine G_val (V_assign rfl rfl) rfl rfl (.none rfl) ?_
  refine G_val (V_assign rfl rfl) rfl rfl (.none rfl) ?_
  refine G_storeA rfl rfl rfl rfl (by simp [Value.oneCell']) rfl (.none rfl) (.head _ _ _) rfl ?_
  refine G_end ?_
  refine X_then ?_
  refine G_ret ?_
  refine G_leave 1 (by exact (.cons (.tmp rfl) (.cons (.tmp rfl) (.cons (.cellA rfl (Cells.own (.head _)) rfl) (.nil))))) rfl ?_ ?_
  · exact .refl _
  · exact ⟨rfl, rfl⟩

theorem Read_call (E : Env) (L : List Res) (s : List UInt8) (hs : s.length ≤ 1000000000000) (a : Int) : CallV Try.prog 108 #[.string (S s), .int .i64 a] E L (rdV (vread s a)) := by
  refine CallS.toV (CallS.intro (l := [.string (S s), .int .i64 a]) _ Try.func108 rfl Try.ntmps108 rfl ?_)
  by_cases h1 : a < 0
  · refine G_seq ?_
    refine G_region ?_
    refine G_val (V_assign rfl rfl) rfl rfl (.none rfl) ?_
    refine G_val (V_assign rfl rfl) rfl rfl (.none rfl) ?_
    (refine G_alloc rfl rfl rfl (.none rfl) ?_; intro b6)
    refine G_end ?_
    refine X_then ?_
    refine G_seq ?_
    refine G_seq ?_
    refine G_region ?_
    refine G_val (V_move rfl rfl) rfl rfl (.none rfl) ?_
    refine G_val (V_lss rfl rfl rfl) rfl rfl (.none rfl) ?_
    refine G_val (V_move rfl rfl) rfl rfl (.none rfl) ?_
    refine G.bool_t 11 rfl (decide_eq_true (by omega)) ?_
    refine G_stay (.no rfl rfl rfl rfl) rfl rfl ?_
    refine G_stay (.no rfl rfl rfl rfl) rfl rfl ?_
    refine G_stay (.no rfl rfl rfl rfl) rfl rfl ?_
    refine G_stay (.no rfl rfl rfl rfl) rfl rfl ?_
    refine G_val (V_pick_t rfl rfl rfl) rfl rfl (.none rfl) ?_
    refine G_end ?_
    refine X_then ?_
    refine G_cond_t rfl rfl ?_
    refine G_seq ?_
    refine G_region ?_
    refine G_val (V_build rfl rfl (by simp [fillV, setLs, setL, Value.cells]; rfl)) rfl rfl (.none rfl) ?_
    refine G_val (V_assign rfl rfl) rfl rfl (.none rfl) ?_
    refine G_val (V_assign rfl rfl) rfl rfl (.none rfl) ?_
    refine G_storeA rfl rfl rfl rfl (by simp [Value.oneCell']) rfl (.none rfl) (.head _ _ _) rfl ?_
    refine G_end ?_
    refine X_then ?_
    refine G_ret ?_
    refine X_then_ret ?_
    refine G_leave 1 (by exact (.cons (.tmp rfl) (.cons (.tmp rfl) (.cons (.cellA rfl (Cells.own (.head _)) rfl) (.nil))))) rfl ?_ ?_
    · exact .refl _
    · exact ⟨by rw [vread, if_pos (.inl h1)]; rfl, rfl⟩
  by_cases h2 : (s.length : Int) < a
  · refine G_seq ?_
    refine G_region ?_
    refine G_val (V_assign rfl rfl) rfl rfl (.none rfl) ?_
    refine G_val (V_assign rfl rfl) rfl rfl (.none rfl) ?_
    (refine G_alloc rfl rfl rfl (.none rfl) ?_; intro b6)
    refine G_end ?_
    refine X_then ?_
    refine G_seq ?_
    refine G_seq ?_
    refine G_region ?_
    refine G_val (V_move rfl rfl) rfl rfl (.none rfl) ?_
    refine G_val (V_lss rfl rfl rfl) rfl rfl (.none rfl) ?_
    refine G_val (V_move rfl rfl) rfl rfl (.none rfl) ?_
    refine G.bool_f 11 rfl (decide_eq_false (by omega)) ?_
    refine G_val (V_move rfl rfl) rfl rfl (.yes rfl rfl rfl rfl) ?_
    refine G_val (V_move rfl rfl) rfl rfl (.yes rfl rfl rfl rfl) ?_
    refine G_val (V_len rfl rfl) rfl rfl (.yes rfl rfl rfl rfl) ?_
    refine G_val (V_gtr rfl rfl rfl) rfl rfl (.yes rfl rfl rfl rfl) ?_
    refine G_val (V_pick_f rfl rfl rfl) rfl rfl (.none rfl) ?_
    refine G_end ?_
    refine X_then ?_
    refine G_cond_t rfl (decide_eq_true (by omega)) ?_
    refine G_seq ?_
    refine G_region ?_
    refine G_val (V_build rfl rfl (by simp [fillV, setLs, setL, Value.cells]; rfl)) rfl rfl (.none rfl) ?_
    refine G_val (V_assign rfl rfl) rfl rfl (.none rfl) ?_
    refine G_val (V_assign rfl rfl) rfl rfl (.none rfl) ?_
    refine G_storeA rfl rfl rfl rfl (by simp [Value.oneCell']) rfl (.none rfl) (.head _ _ _) rfl ?_
    refine G_end ?_
    refine X_then ?_
    refine G_ret ?_
    refine X_then_ret ?_
    refine G_leave 1 (by exact (.cons (.tmp rfl) (.cons (.tmp rfl) (.cons (.cellA rfl (Cells.own (.head _)) rfl) (.nil))))) rfl ?_ ?_
    · exact .refl _
    · exact ⟨by rw [vread, if_pos (.inr h2)]; rfl, rfl⟩
  obtain ⟨A, rfl⟩ : ∃ A : Nat, a = A := ⟨a.toNat, by omega⟩
  have hr : vread s A = vreadK s A 10 0 0 := by rw [vread, if_neg (by omega)]; rfl
  rw [hr]
  refine G_seq ?_
  refine G_region ?_
  refine G_val (V_assign rfl rfl) rfl rfl (.none rfl) ?_
  refine G_val (V_assign rfl rfl) rfl rfl (.none rfl) ?_
  (refine G_alloc rfl rfl rfl (.none rfl) ?_; intro b6)
  refine G_end ?_
  refine X_then ?_
  refine G_seq ?_
  refine G_seq ?_
  refine G_region ?_
  refine G_val (V_move rfl rfl) rfl rfl (.none rfl) ?_
  refine G_val (V_lss rfl rfl rfl) rfl rfl (.none rfl) ?_
  refine G_val (V_move rfl rfl) rfl rfl (.none rfl) ?_
  refine G_val (V_move rfl rfl) rfl rfl (.yes rfl rfl rfl rfl) ?_
  refine G_val (V_move rfl rfl) rfl rfl (.yes rfl rfl rfl rfl) ?_
  refine G_val (V_len rfl rfl) rfl rfl (.yes rfl rfl rfl rfl) ?_
  refine G_val (V_gtr rfl rfl rfl) rfl rfl (.yes rfl rfl rfl rfl) ?_
  refine G_val (V_pick_f rfl rfl rfl) rfl rfl (.none rfl) ?_
  refine G_end ?_
  refine X_then ?_
  refine G_cond_f rfl (decide_eq_false (by omega)) ?_
  refine G_skip ?_
  refine X_then ?_
  refine G_seq ?_
  refine G_seq ?_
  refine G_region ?_
  refine G_val (V_move rfl rfl) rfl rfl (.none rfl) ?_
  refine G_end ?_
  refine X_then ?_
  refine G_block ?_
  refine G_loop (α := Nat × Nat) (fun x => [(0, .string (S s)), (1, .int .i64 A), (4, .int .u64 x.2), (6, .pointer (some ⟨b6, 0, none⟩)), (18, .int .i64 x.1)]) (fun _ => E)
    (fun _ => .blk b6 (.cells #[.int .i64 0, .int .i64 0] 25 (0, 0)) :: L)
    (fun x => vreadK s A 10 0 0 = vreadK s A (10 - x.1) x.1 x.2 ∧ x.1 < 10 ∧ x.2 < 128 ^ x.1) (fun x => 10 - x.1) (0, 0)
    ⟨rfl, by simp, by simp⟩ ⟨rfl, rfl, rfl, rfl, rfl, trivial⟩ rfl rfl ?_
  rintro ⟨i, n⟩ ⟨hv, hi, hn⟩
  simp only at hv hi hn ⊢
  have hk : 10 - i = (9 - i) + 1 := by omega
  rw [hk] at hv
  have HV := Lib.hid hv
  clear hv
  have HK := Lib.hid hk
  clear hk hr
  by_cases h3 : s.length ≤ A + i
  · refine G_seq ?_
    refine G_region ?_
    refine G_val (V_lss rfl rfl rfl) rfl rfl (.none rfl) ?_
    refine G_end ?_
    refine X_then ?_
    refine G_seq ?_
    refine G_cond_t rfl (decide_eq_true (by omega)) ?_
    refine G_skip ?_
    refine X_then ?_
    refine G_seq ?_
    refine G_block ?_
    refine G_seq ?_
    refine G_region ?_
    refine G_val (V_move rfl rfl) rfl rfl (.none rfl) ?_
    refine G_val (V_assign rfl rfl) rfl rfl (.none rfl) ?_
    refine G_end ?_
    refine X_then ?_
    refine G_seq ?_
    refine G_seq ?_
    refine G_region ?_
    refine G_val (V_move rfl rfl) rfl rfl (.none rfl) ?_
    refine G_val (V_move rfl rfl) rfl rfl (.none rfl) ?_
    refine G_val (V_add_i64 rfl rfl rfl (by omega) (by omega)) rfl rfl (.none rfl) ?_
    refine G_val (V_move rfl rfl) rfl rfl (.none rfl) ?_
    refine G_val (V_len rfl rfl) rfl rfl (.none rfl) ?_
    refine G_val (V_geq rfl rfl rfl) rfl rfl (.none rfl) ?_
    refine G_end ?_
    refine X_then ?_
    refine G_cond_t rfl (decide_eq_true (by omega)) ?_
    refine G_seq ?_
    refine G_region ?_
    refine G_val (V_move rfl rfl) rfl rfl (.none rfl) ?_
    refine G_val (V_len rfl rfl) rfl rfl (.none rfl) ?_
    refine G_val (V_build rfl rfl (by simp [fillV, setLs, setL, Value.cells]; rfl)) rfl rfl (.none rfl) ?_
    refine G_val (V_assign rfl rfl) rfl rfl (.none rfl) ?_
    refine G_val (V_assign rfl rfl) rfl rfl (.none rfl) ?_
    refine G_storeA rfl rfl rfl rfl (by simp [Value.oneCell']) rfl (.none rfl) (.head _ _ _) rfl ?_
    refine G_end ?_
    refine X_then ?_
    refine G_ret ?_
    refine X_then_ret ?_
    refine X_block_ret ?_
    refine X_then_ret ?_
    refine X_then_ret ?_
    refine X_block_ret ?_
    refine X_then_ret ?_
    refine G_leave 1 (by exact (.cons (.tmp rfl) (.cons (.tmp rfl) (.cons (.cellA rfl (Cells.own (.head _)) rfl) (.nil))))) rfl ?_ ?_
    · exact .refl _
    · exact ⟨by rw [HV.out, vreadK_none h3]; rfl, rfl⟩
  have hlt : A + i < s.length := by omega
  obtain ⟨b, hb⟩ : ∃ b, s[A + i]? = some b := ⟨_, List.getElem?_eq_getElem hlt⟩
  have hb' : s[((A : Int) + (i : Int)).toNat]? = some b := by rw [show ((A : Int) + (i : Int)).toNat = A + i by omega]; exact hb
  have HB := Lib.hid (vreadK_some (k := 9 - i) (n := n) hb)
  clear hb
  have h256 : b.toNat < 256 := b.toNat_lt
  by_cases hf : (0 < i ∧ b.toNat = 0) ∨ (i = 9 ∧ 1 < b.toNat)
  · have HV2 := Lib.hid (HV.out.trans (HB.out.trans (if_pos hf)))
    rcases hf with ⟨hp, hq⟩ | ⟨hp, hq⟩
    · refine G_seq ?_
      refine G_region ?_
      refine G_val (V_lss rfl rfl rfl) rfl rfl (.none rfl) ?_
      refine G_end ?_
      refine X_then ?_
      refine G_seq ?_
      refine G_cond_t rfl (decide_eq_true (by omega)) ?_
      refine G_skip ?_
      refine X_then ?_
      refine G_seq ?_
      refine G_block ?_
      refine G_seq ?_
      refine G_region ?_
      refine G_val (V_move rfl rfl) rfl rfl (.none rfl) ?_
      refine G_val (V_assign rfl rfl) rfl rfl (.none rfl) ?_
      refine G_end ?_
      refine X_then ?_
      refine G_seq ?_
      refine G_seq ?_
      refine G_region ?_
      refine G_val (V_move rfl rfl) rfl rfl (.none rfl) ?_
      refine G_val (V_move rfl rfl) rfl rfl (.none rfl) ?_
      refine G_val (V_add_i64 rfl rfl rfl (by omega) (by omega)) rfl rfl (.none rfl) ?_
      refine G_val (V_move rfl rfl) rfl rfl (.none rfl) ?_
      refine G_val (V_len rfl rfl) rfl rfl (.none rfl) ?_
      refine G_val (V_geq rfl rfl rfl) rfl rfl (.none rfl) ?_
      refine G_end ?_
      refine X_then ?_
      refine G_cond_f rfl (decide_eq_false (by omega)) ?_
      refine G_skip ?_
      refine X_then ?_
      refine G_seq ?_
      refine G_region ?_
      refine G_val (V_move rfl rfl) rfl rfl (.none rfl) ?_
      refine G_val (V_move rfl rfl) rfl rfl (.none rfl) ?_
      refine G_val (V_move rfl rfl) rfl rfl (.none rfl) ?_
      refine G_val (V_add_i64 rfl rfl rfl (by omega) (by omega)) rfl rfl (.none rfl) ?_
      refine G_val (V_sidx rfl rfl rfl (by omega) (by assumption)) rfl rfl (.none rfl) ?_
      refine G_val (V_assign rfl rfl) rfl rfl (.none rfl) ?_
      refine G_end ?_
      refine X_then ?_
      refine G_seq ?_
      refine G_seq ?_
      refine G_region ?_
      refine G_val (V_move rfl rfl) rfl rfl (.none rfl) ?_
      refine G_val (V_gtr rfl rfl rfl) rfl rfl (.none rfl) ?_
      refine G_val (V_move rfl rfl) rfl rfl (.none rfl) ?_
      refine G.bool_t 37 rfl (decide_eq_true (by omega)) ?_
      refine G_val (V_move rfl rfl) rfl rfl (.yes rfl rfl rfl rfl) ?_
      refine G_val (V_eql rfl rfl rfl) rfl rfl (.yes rfl rfl rfl rfl) ?_
      refine G_val (V_pick_t rfl rfl rfl) rfl rfl (.none rfl) ?_
      refine G_val (V_move rfl rfl) rfl rfl (.none rfl) ?_
      refine G.bool_t 41 rfl (decide_eq_true (by omega)) ?_
      refine G_stay (.no rfl rfl rfl rfl) rfl rfl ?_
      refine G_stay (.no rfl rfl rfl rfl) rfl rfl ?_
      refine G_stay (.no rfl rfl rfl rfl) rfl rfl ?_
      refine G_stay (.un rfl rfl rfl rfl) rfl rfl ?_
      refine G_stay (.un rfl rfl rfl rfl) rfl rfl ?_
      refine G_stay (.no rfl rfl rfl rfl) rfl rfl ?_
      refine G_val (V_pick_t rfl rfl rfl) rfl rfl (.none rfl) ?_
      refine G_end ?_
      refine X_then ?_
      refine G_cond_t rfl rfl ?_
      refine G_seq ?_
      refine G_region ?_
      refine G_val (V_move rfl rfl) rfl rfl (.none rfl) ?_
      refine G_val (V_move rfl rfl) rfl rfl (.none rfl) ?_
      refine G_val (V_add_i64 rfl rfl rfl (by omega) (by omega)) rfl rfl (.none rfl) ?_
      refine G_val (V_build rfl rfl (by simp [fillV, setLs, setL, Value.cells]; rfl)) rfl rfl (.none rfl) ?_
      refine G_val (V_assign rfl rfl) rfl rfl (.none rfl) ?_
      refine G_val (V_assign rfl rfl) rfl rfl (.none rfl) ?_
      refine G_storeA rfl rfl rfl rfl (by simp [Value.oneCell']) rfl (.none rfl) (.head _ _ _) rfl ?_
      refine G_end ?_
      refine X_then ?_
      refine G_ret ?_
      refine X_then_ret ?_
      refine X_block_ret ?_
      refine X_then_ret ?_
      refine X_then_ret ?_
      refine X_block_ret ?_
      refine X_then_ret ?_
      refine G_leave 1 (by exact (.cons (.tmp rfl) (.cons (.tmp rfl) (.cons (.cellA rfl (Cells.own (.head _)) rfl) (.nil))))) rfl ?_ ?_
      · exact .refl _
      · exact ⟨by rw [HV2.out]; rfl, rfl⟩
    · refine G_seq ?_
      refine G_region ?_
      refine G_val (V_lss rfl rfl rfl) rfl rfl (.none rfl) ?_
      refine G_end ?_
      refine X_then ?_
      refine G_seq ?_
      refine G_cond_t rfl (decide_eq_true (by omega)) ?_
      refine G_skip ?_
      refine X_then ?_
      refine G_seq ?_
      refine G_block ?_
      refine G_seq ?_
      refine G_region ?_
      refine G_val (V_move rfl rfl) rfl rfl (.none rfl) ?_
      refine G_val (V_assign rfl rfl) rfl rfl (.none rfl) ?_
      refine G_end ?_
      refine X_then ?_
      refine G_seq ?_
      refine G_seq ?_
      refine G_region ?_
      refine G_val (V_move rfl rfl) rfl rfl (.none rfl) ?_
      refine G_val (V_move rfl rfl) rfl rfl (.none rfl) ?_
      refine G_val (V_add_i64 rfl rfl rfl (by omega) (by omega)) rfl rfl (.none rfl) ?_
      refine G_val (V_move rfl rfl) rfl rfl (.none rfl) ?_
      refine G_val (V_len rfl rfl) rfl rfl (.none rfl) ?_
      refine G_val (V_geq rfl rfl rfl) rfl rfl (.none rfl) ?_
      refine G_end ?_
      refine X_then ?_
      refine G_cond_f rfl (decide_eq_false (by omega)) ?_
      refine G_skip ?_
      refine X_then ?_
      refine G_seq ?_
      refine G_region ?_
      refine G_val (V_move rfl rfl) rfl rfl (.none rfl) ?_
      refine G_val (V_move rfl rfl) rfl rfl (.none rfl) ?_
      refine G_val (V_move rfl rfl) rfl rfl (.none rfl) ?_
      refine G_val (V_add_i64 rfl rfl rfl (by omega) (by omega)) rfl rfl (.none rfl) ?_
      refine G_val (V_sidx rfl rfl rfl (by omega) (by assumption)) rfl rfl (.none rfl) ?_
      refine G_val (V_assign rfl rfl) rfl rfl (.none rfl) ?_
      refine G_end ?_
      refine X_then ?_
      refine G_seq ?_
      refine G_seq ?_
      refine G_region ?_
      refine G_val (V_move rfl rfl) rfl rfl (.none rfl) ?_
      refine G_val (V_gtr rfl rfl rfl) rfl rfl (.none rfl) ?_
      refine G_val (V_move rfl rfl) rfl rfl (.none rfl) ?_
      refine G.bool_t 37 rfl (decide_eq_true (by omega)) ?_
      refine G_val (V_move rfl rfl) rfl rfl (.yes rfl rfl rfl rfl) ?_
      refine G_val (V_eql rfl rfl rfl) rfl rfl (.yes rfl rfl rfl rfl) ?_
      refine G_val (V_pick_t rfl rfl rfl) rfl rfl (.none rfl) ?_
      refine G_val (V_move rfl rfl) rfl rfl (.none rfl) ?_
      refine G.bool_f 41 rfl (decide_eq_false (by omega)) ?_
      refine G_val (V_move rfl rfl) rfl rfl (.yes rfl rfl rfl rfl) ?_
      refine G_val (V_eql rfl rfl rfl) rfl rfl (.yes rfl rfl rfl rfl) ?_
      refine G_val (V_move rfl rfl) rfl rfl (.yes rfl rfl rfl rfl) ?_
      refine G.bool_t 44 rfl (decide_eq_true (by omega)) ?_
      refine G_val (V_move rfl rfl) rfl rfl (.yes rfl rfl rfl rfl) ?_
      refine G_val (V_gtr rfl rfl rfl) rfl rfl (.yes rfl rfl rfl rfl) ?_
      refine G_val (V_pick_t rfl rfl rfl) rfl rfl (.yes rfl rfl rfl rfl) ?_
      refine G_val (V_pick_f rfl rfl rfl) rfl rfl (.none rfl) ?_
      refine G_end ?_
      refine X_then ?_
      refine G_cond_t rfl (decide_eq_true (by omega)) ?_
      refine G_seq ?_
      refine G_region ?_
      refine G_val (V_move rfl rfl) rfl rfl (.none rfl) ?_
      refine G_val (V_move rfl rfl) rfl rfl (.none rfl) ?_
      refine G_val (V_add_i64 rfl rfl rfl (by omega) (by omega)) rfl rfl (.none rfl) ?_
      refine G_val (V_build rfl rfl (by simp [fillV, setLs, setL, Value.cells]; rfl)) rfl rfl (.none rfl) ?_
      refine G_val (V_assign rfl rfl) rfl rfl (.none rfl) ?_
      refine G_val (V_assign rfl rfl) rfl rfl (.none rfl) ?_
      refine G_storeA rfl rfl rfl rfl (by simp [Value.oneCell']) rfl (.none rfl) (.head _ _ _) rfl ?_
      refine G_end ?_
      refine X_then ?_
      refine G_ret ?_
      refine X_then_ret ?_
      refine X_block_ret ?_
      refine X_then_ret ?_
      refine X_then_ret ?_
      refine X_block_ret ?_
      refine X_then_ret ?_
      refine G_leave 1 (by exact (.cons (.tmp rfl) (.cons (.tmp rfl) (.cons (.cellA rfl (Cells.own (.head _)) rfl) (.nil))))) rfl ?_ ?_
      · exact .refl _
      · exact ⟨by rw [HV2.out]; rfl, rfl⟩
  obtain ⟨hs1, hs2, hs3⟩ := or_step (n := n) (b := b.toNat) (i := i) hn hi h256 (by omega)
  have HS := Lib.hid hs1
  have HS2 := Lib.hid hs2
  have HS3 := Lib.hid hs3
  have HN := Lib.hid hn
  clear hs1 hs2 hs3 hn
  have HV2 := Lib.hid (HV.out.trans (HB.out.trans (if_neg hf)))
  have hc : i = 0 ∨ (0 < i ∧ b.toNat ≠ 0 ∧ i ≠ 9) ∨ (i = 9 ∧ b.toNat = 1) := by omega
  by_cases h128 : b.toNat < 128
  · have HV3 := Lib.hid (HV2.out.trans (if_pos h128))
    rcases hc with hc | ⟨hc1, hc2, hc3⟩ | ⟨hc1, hc2⟩
    all_goals
      first
        | (refine G_seq ?_
           refine G_region ?_
           refine G_val (V_lss rfl rfl rfl) rfl rfl (.none rfl) ?_
           refine G_end ?_
           refine X_then ?_
           refine G_seq ?_
           refine G_cond_t rfl (decide_eq_true (by omega)) ?_
           refine G_skip ?_
           refine X_then ?_
           refine G_seq ?_
           refine G_block ?_
           refine G_seq ?_
           refine G_region ?_
           refine G_val (V_move rfl rfl) rfl rfl (.none rfl) ?_
           refine G_val (V_assign rfl rfl) rfl rfl (.none rfl) ?_
           refine G_end ?_
           refine X_then ?_
           refine G_seq ?_
           refine G_seq ?_
           refine G_region ?_
           refine G_val (V_move rfl rfl) rfl rfl (.none rfl) ?_
           refine G_val (V_move rfl rfl) rfl rfl (.none rfl) ?_
           refine G_val (V_add_i64 rfl rfl rfl (by omega) (by omega)) rfl rfl (.none rfl) ?_
           refine G_val (V_move rfl rfl) rfl rfl (.none rfl) ?_
           refine G_val (V_len rfl rfl) rfl rfl (.none rfl) ?_
           refine G_val (V_geq rfl rfl rfl) rfl rfl (.none rfl) ?_
           refine G_end ?_
           refine X_then ?_
           refine G_cond_f rfl (decide_eq_false (by omega)) ?_
           refine G_skip ?_
           refine X_then ?_
           refine G_seq ?_
           refine G_region ?_
           refine G_val (V_move rfl rfl) rfl rfl (.none rfl) ?_
           refine G_val (V_move rfl rfl) rfl rfl (.none rfl) ?_
           refine G_val (V_move rfl rfl) rfl rfl (.none rfl) ?_
           refine G_val (V_add_i64 rfl rfl rfl (by omega) (by omega)) rfl rfl (.none rfl) ?_
           refine G_val (V_sidx rfl rfl rfl (by omega) (by assumption)) rfl rfl (.none rfl) ?_
           refine G_val (V_assign rfl rfl) rfl rfl (.none rfl) ?_
           refine G_end ?_
           refine X_then ?_
           refine G_seq ?_
           refine G_seq ?_
           refine G_region ?_
           refine G_val (V_move rfl rfl) rfl rfl (.none rfl) ?_
           refine G_val (V_gtr rfl rfl rfl) rfl rfl (.none rfl) ?_
           refine G_val (V_move rfl rfl) rfl rfl (.none rfl) ?_
           refine G.bool_t 37 rfl (decide_eq_true (by omega)) ?_
           refine G_val (V_move rfl rfl) rfl rfl (.yes rfl rfl rfl rfl) ?_
           refine G_val (V_eql rfl rfl rfl) rfl rfl (.yes rfl rfl rfl rfl) ?_
           refine G_val (V_pick_t rfl rfl rfl) rfl rfl (.none rfl) ?_
           refine G_val (V_move rfl rfl) rfl rfl (.none rfl) ?_
           refine G.bool_f 41 rfl (decide_eq_false (by omega)) ?_
           refine G_val (V_move rfl rfl) rfl rfl (.yes rfl rfl rfl rfl) ?_
           refine G_val (V_eql rfl rfl rfl) rfl rfl (.yes rfl rfl rfl rfl) ?_
           refine G_val (V_move rfl rfl) rfl rfl (.yes rfl rfl rfl rfl) ?_
           refine G.bool_f 44 rfl (decide_eq_false (by omega)) ?_
           refine G_stay (.no rfl rfl rfl rfl) rfl rfl ?_
           refine G_stay (.no rfl rfl rfl rfl) rfl rfl ?_
           refine G_val (V_pick_f rfl rfl rfl) rfl rfl (.yes rfl rfl rfl rfl) ?_
           refine G_val (V_pick_f rfl rfl rfl) rfl rfl (.none rfl) ?_
           refine G_end ?_
           refine X_then ?_
           refine G_cond_f rfl rfl ?_
           refine G_skip ?_
           refine X_then ?_
           refine G_seq ?_
           refine G_region ?_
           refine G_val (V_move rfl rfl) rfl rfl (.none rfl) ?_
           refine G_val (V_move rfl rfl) rfl rfl (.none rfl) ?_
           refine G_val (V_and rfl rfl rfl) rfl rfl (.none rfl) ?_
           refine G_val (V_conv rfl rfl) rfl rfl (.none rfl) ?_
           refine G_val (V_move rfl rfl) rfl rfl (.none rfl) ?_
           refine G_val (V_mul_i64 rfl rfl rfl (by omega) (by omega)) rfl rfl (.none rfl) ?_
           refine G_val (V_conv_u64 rfl rfl (by omega) (by omega)) rfl rfl (.none rfl) ?_
           refine G_val (V_shl rfl rfl rfl (by omega)) rfl rfl (.none rfl) ?_
           refine G_val (V_or rfl rfl rfl) rfl rfl (.none rfl) ?_
           refine G_val (V_assign rfl rfl) rfl rfl (.none rfl) ?_
           refine G_end ?_
           refine X_then ?_
           refine G_seq ?_
           refine G_region ?_
           refine G_val (V_move rfl rfl) rfl rfl (.none rfl) ?_
           refine G_val (V_lss rfl rfl rfl) rfl rfl (.none rfl) ?_
           refine G_end ?_
           refine X_then ?_
           refine G_cond_t rfl (decide_eq_true (by omega)) ?_
           refine G_seq ?_
           refine G_region ?_
           refine G_val (V_move rfl rfl) rfl rfl (.none rfl) ?_
           refine G_val (V_move rfl rfl) rfl rfl (.none rfl) ?_
           refine G_val (V_move rfl rfl) rfl rfl (.none rfl) ?_
           refine G_val (V_add_i64 rfl rfl rfl (by omega) (by omega)) rfl rfl (.none rfl) ?_
           refine G_val (V_add_i64 rfl rfl rfl (by omega) (by omega)) rfl rfl (.none rfl) ?_
           refine G_val (V_build rfl rfl (by simp [fillV, setLs, setL, Value.cells]; rfl)) rfl rfl (.none rfl) ?_
           refine G_val (V_assign rfl rfl) rfl rfl (.none rfl) ?_
           refine G_val (V_assign rfl rfl) rfl rfl (.none rfl) ?_
           refine G_storeA rfl rfl rfl rfl (by simp [Value.oneCell']) rfl (.none rfl) (.head _ _ _) rfl ?_
           refine G_end ?_
           refine X_then ?_
           refine G_ret ?_
           refine X_block_ret ?_
           refine X_then_ret ?_
           refine X_then_ret ?_
           refine X_block_ret ?_
           refine X_then_ret ?_)
        | (refine G_seq ?_
           refine G_region ?_
           refine G_val (V_lss rfl rfl rfl) rfl rfl (.none rfl) ?_
           refine G_end ?_
           refine X_then ?_
           refine G_seq ?_
           refine G_cond_t rfl (decide_eq_true (by omega)) ?_
           refine G_skip ?_
           refine X_then ?_
           refine G_seq ?_
           refine G_block ?_
           refine G_seq ?_
           refine G_region ?_
           refine G_val (V_move rfl rfl) rfl rfl (.none rfl) ?_
           refine G_val (V_assign rfl rfl) rfl rfl (.none rfl) ?_
           refine G_end ?_
           refine X_then ?_
           refine G_seq ?_
           refine G_seq ?_
           refine G_region ?_
           refine G_val (V_move rfl rfl) rfl rfl (.none rfl) ?_
           refine G_val (V_move rfl rfl) rfl rfl (.none rfl) ?_
           refine G_val (V_add_i64 rfl rfl rfl (by omega) (by omega)) rfl rfl (.none rfl) ?_
           refine G_val (V_move rfl rfl) rfl rfl (.none rfl) ?_
           refine G_val (V_len rfl rfl) rfl rfl (.none rfl) ?_
           refine G_val (V_geq rfl rfl rfl) rfl rfl (.none rfl) ?_
           refine G_end ?_
           refine X_then ?_
           refine G_cond_f rfl (decide_eq_false (by omega)) ?_
           refine G_skip ?_
           refine X_then ?_
           refine G_seq ?_
           refine G_region ?_
           refine G_val (V_move rfl rfl) rfl rfl (.none rfl) ?_
           refine G_val (V_move rfl rfl) rfl rfl (.none rfl) ?_
           refine G_val (V_move rfl rfl) rfl rfl (.none rfl) ?_
           refine G_val (V_add_i64 rfl rfl rfl (by omega) (by omega)) rfl rfl (.none rfl) ?_
           refine G_val (V_sidx rfl rfl rfl (by omega) (by assumption)) rfl rfl (.none rfl) ?_
           refine G_val (V_assign rfl rfl) rfl rfl (.none rfl) ?_
           refine G_end ?_
           refine X_then ?_
           refine G_seq ?_
           refine G_seq ?_
           refine G_region ?_
           refine G_val (V_move rfl rfl) rfl rfl (.none rfl) ?_
           refine G_val (V_gtr rfl rfl rfl) rfl rfl (.none rfl) ?_
           refine G_val (V_move rfl rfl) rfl rfl (.none rfl) ?_
           refine G.bool_t 37 rfl (decide_eq_true (by omega)) ?_
           refine G_val (V_move rfl rfl) rfl rfl (.yes rfl rfl rfl rfl) ?_
           refine G_val (V_eql rfl rfl rfl) rfl rfl (.yes rfl rfl rfl rfl) ?_
           refine G_val (V_pick_t rfl rfl rfl) rfl rfl (.none rfl) ?_
           refine G_val (V_move rfl rfl) rfl rfl (.none rfl) ?_
           refine G.bool_f 41 rfl (decide_eq_false (by omega)) ?_
           refine G_val (V_move rfl rfl) rfl rfl (.yes rfl rfl rfl rfl) ?_
           refine G_val (V_eql rfl rfl rfl) rfl rfl (.yes rfl rfl rfl rfl) ?_
           refine G_val (V_move rfl rfl) rfl rfl (.yes rfl rfl rfl rfl) ?_
           refine G.bool_t 44 rfl (decide_eq_true (by omega)) ?_
           refine G_val (V_move rfl rfl) rfl rfl (.yes rfl rfl rfl rfl) ?_
           refine G_val (V_gtr rfl rfl rfl) rfl rfl (.yes rfl rfl rfl rfl) ?_
           refine G_val (V_pick_t rfl rfl rfl) rfl rfl (.yes rfl rfl rfl rfl) ?_
           refine G_val (V_pick_f rfl rfl rfl) rfl rfl (.none rfl) ?_
           refine G_end ?_
           refine X_then ?_
           refine G_cond_f rfl (decide_eq_false (by omega)) ?_
           refine G_skip ?_
           refine X_then ?_
           refine G_seq ?_
           refine G_region ?_
           refine G_val (V_move rfl rfl) rfl rfl (.none rfl) ?_
           refine G_val (V_move rfl rfl) rfl rfl (.none rfl) ?_
           refine G_val (V_and rfl rfl rfl) rfl rfl (.none rfl) ?_
           refine G_val (V_conv rfl rfl) rfl rfl (.none rfl) ?_
           refine G_val (V_move rfl rfl) rfl rfl (.none rfl) ?_
           refine G_val (V_mul_i64 rfl rfl rfl (by omega) (by omega)) rfl rfl (.none rfl) ?_
           refine G_val (V_conv_u64 rfl rfl (by omega) (by omega)) rfl rfl (.none rfl) ?_
           refine G_val (V_shl rfl rfl rfl (by omega)) rfl rfl (.none rfl) ?_
           refine G_val (V_or rfl rfl rfl) rfl rfl (.none rfl) ?_
           refine G_val (V_assign rfl rfl) rfl rfl (.none rfl) ?_
           refine G_end ?_
           refine X_then ?_
           refine G_seq ?_
           refine G_region ?_
           refine G_val (V_move rfl rfl) rfl rfl (.none rfl) ?_
           refine G_val (V_lss rfl rfl rfl) rfl rfl (.none rfl) ?_
           refine G_end ?_
           refine X_then ?_
           refine G_cond_t rfl (decide_eq_true (by omega)) ?_
           refine G_seq ?_
           refine G_region ?_
           refine G_val (V_move rfl rfl) rfl rfl (.none rfl) ?_
           refine G_val (V_move rfl rfl) rfl rfl (.none rfl) ?_
           refine G_val (V_move rfl rfl) rfl rfl (.none rfl) ?_
           refine G_val (V_add_i64 rfl rfl rfl (by omega) (by omega)) rfl rfl (.none rfl) ?_
           refine G_val (V_add_i64 rfl rfl rfl (by omega) (by omega)) rfl rfl (.none rfl) ?_
           refine G_val (V_build rfl rfl (by simp [fillV, setLs, setL, Value.cells]; rfl)) rfl rfl (.none rfl) ?_
           refine G_val (V_assign rfl rfl) rfl rfl (.none rfl) ?_
           refine G_val (V_assign rfl rfl) rfl rfl (.none rfl) ?_
           refine G_storeA rfl rfl rfl rfl (by simp [Value.oneCell']) rfl (.none rfl) (.head _ _ _) rfl ?_
           refine G_end ?_
           refine X_then ?_
           refine G_ret ?_
           refine X_block_ret ?_
           refine X_then_ret ?_
           refine X_then_ret ?_
           refine X_block_ret ?_
           refine X_then_ret ?_)
        | (refine G_seq ?_
           refine G_region ?_
           refine G_val (V_lss rfl rfl rfl) rfl rfl (.none rfl) ?_
           refine G_end ?_
           refine X_then ?_
           refine G_seq ?_
           refine G_cond_t rfl (decide_eq_true (by omega)) ?_
           refine G_skip ?_
           refine X_then ?_
           refine G_seq ?_
           refine G_block ?_
           refine G_seq ?_
           refine G_region ?_
           refine G_val (V_move rfl rfl) rfl rfl (.none rfl) ?_
           refine G_val (V_assign rfl rfl) rfl rfl (.none rfl) ?_
           refine G_end ?_
           refine X_then ?_
           refine G_seq ?_
           refine G_seq ?_
           refine G_region ?_
           refine G_val (V_move rfl rfl) rfl rfl (.none rfl) ?_
           refine G_val (V_move rfl rfl) rfl rfl (.none rfl) ?_
           refine G_val (V_add_i64 rfl rfl rfl (by omega) (by omega)) rfl rfl (.none rfl) ?_
           refine G_val (V_move rfl rfl) rfl rfl (.none rfl) ?_
           refine G_val (V_len rfl rfl) rfl rfl (.none rfl) ?_
           refine G_val (V_geq rfl rfl rfl) rfl rfl (.none rfl) ?_
           refine G_end ?_
           refine X_then ?_
           refine G_cond_f rfl (decide_eq_false (by omega)) ?_
           refine G_skip ?_
           refine X_then ?_
           refine G_seq ?_
           refine G_region ?_
           refine G_val (V_move rfl rfl) rfl rfl (.none rfl) ?_
           refine G_val (V_move rfl rfl) rfl rfl (.none rfl) ?_
           refine G_val (V_move rfl rfl) rfl rfl (.none rfl) ?_
           refine G_val (V_add_i64 rfl rfl rfl (by omega) (by omega)) rfl rfl (.none rfl) ?_
           refine G_val (V_sidx rfl rfl rfl (by omega) (by assumption)) rfl rfl (.none rfl) ?_
           refine G_val (V_assign rfl rfl) rfl rfl (.none rfl) ?_
           refine G_end ?_
           refine X_then ?_
           refine G_seq ?_
           refine G_seq ?_
           refine G_region ?_
           refine G_val (V_move rfl rfl) rfl rfl (.none rfl) ?_
           refine G_val (V_gtr rfl rfl rfl) rfl rfl (.none rfl) ?_
           refine G_val (V_move rfl rfl) rfl rfl (.none rfl) ?_
           refine G.bool_f 37 rfl (decide_eq_false (by omega)) ?_
           refine G_stay (.no rfl rfl rfl rfl) rfl rfl ?_
           refine G_stay (.no rfl rfl rfl rfl) rfl rfl ?_
           refine G_val (V_pick_f rfl rfl rfl) rfl rfl (.none rfl) ?_
           refine G_val (V_move rfl rfl) rfl rfl (.none rfl) ?_
           refine G_val (V_move rfl rfl) rfl rfl (.yes rfl rfl rfl rfl) ?_
           refine G_val (V_eql rfl rfl rfl) rfl rfl (.yes rfl rfl rfl rfl) ?_
           refine G_val (V_move rfl rfl) rfl rfl (.yes rfl rfl rfl rfl) ?_
           refine G.bool_f 44 rfl (decide_eq_false (by omega)) ?_
           refine G_stay (.no rfl rfl rfl rfl) rfl rfl ?_
           refine G_stay (.no rfl rfl rfl rfl) rfl rfl ?_
           refine G_val (V_pick_f rfl rfl rfl) rfl rfl (.yes rfl rfl rfl rfl) ?_
           refine G_val (V_pick_f rfl rfl rfl) rfl rfl (.none rfl) ?_
           refine G_end ?_
           refine X_then ?_
           refine G_cond_f rfl rfl ?_
           refine G_skip ?_
           refine X_then ?_
           refine G_seq ?_
           refine G_region ?_
           refine G_val (V_move rfl rfl) rfl rfl (.none rfl) ?_
           refine G_val (V_move rfl rfl) rfl rfl (.none rfl) ?_
           refine G_val (V_and rfl rfl rfl) rfl rfl (.none rfl) ?_
           refine G_val (V_conv rfl rfl) rfl rfl (.none rfl) ?_
           refine G_val (V_move rfl rfl) rfl rfl (.none rfl) ?_
           refine G_val (V_mul_i64 rfl rfl rfl (by omega) (by omega)) rfl rfl (.none rfl) ?_
           refine G_val (V_conv_u64 rfl rfl (by omega) (by omega)) rfl rfl (.none rfl) ?_
           refine G_val (V_shl rfl rfl rfl (by omega)) rfl rfl (.none rfl) ?_
           refine G_val (V_or rfl rfl rfl) rfl rfl (.none rfl) ?_
           refine G_val (V_assign rfl rfl) rfl rfl (.none rfl) ?_
           refine G_end ?_
           refine X_then ?_
           refine G_seq ?_
           refine G_region ?_
           refine G_val (V_move rfl rfl) rfl rfl (.none rfl) ?_
           refine G_val (V_lss rfl rfl rfl) rfl rfl (.none rfl) ?_
           refine G_end ?_
           refine X_then ?_
           refine G_cond_t rfl (decide_eq_true (by omega)) ?_
           refine G_seq ?_
           refine G_region ?_
           refine G_val (V_move rfl rfl) rfl rfl (.none rfl) ?_
           refine G_val (V_move rfl rfl) rfl rfl (.none rfl) ?_
           refine G_val (V_move rfl rfl) rfl rfl (.none rfl) ?_
           refine G_val (V_add_i64 rfl rfl rfl (by omega) (by omega)) rfl rfl (.none rfl) ?_
           refine G_val (V_add_i64 rfl rfl rfl (by omega) (by omega)) rfl rfl (.none rfl) ?_
           refine G_val (V_build rfl rfl (by simp [fillV, setLs, setL, Value.cells]; rfl)) rfl rfl (.none rfl) ?_
           refine G_val (V_assign rfl rfl) rfl rfl (.none rfl) ?_
           refine G_val (V_assign rfl rfl) rfl rfl (.none rfl) ?_
           refine G_storeA rfl rfl rfl rfl (by simp [Value.oneCell']) rfl (.none rfl) (.head _ _ _) rfl ?_
           refine G_end ?_
           refine X_then ?_
           refine G_ret ?_
           refine X_block_ret ?_
           refine X_then_ret ?_
           refine X_then_ret ?_
           refine X_block_ret ?_
           refine X_then_ret ?_)
      rw [HS.out]
      refine G_leave 1 (by exact (.cons (.tmp rfl) (.cons (.tmp rfl) (.cons (.cellA rfl (Cells.own (.head _)) rfl) (.nil))))) rfl ?_ ?_
      · exact .refl _
      · exact ⟨by rw [HV3.out]; rfl, rfl⟩
  · have HV3 := Lib.hid (HV2.out.trans (if_neg h128))
    rcases hc with hc | ⟨hc1, hc2, hc3⟩ | ⟨hc1, hc2⟩
    · refine G_seq ?_
      refine G_region ?_
      refine G_val (V_lss rfl rfl rfl) rfl rfl (.none rfl) ?_
      refine G_end ?_
      refine X_then ?_
      refine G_seq ?_
      refine G_cond_t rfl (decide_eq_true (by omega)) ?_
      refine G_skip ?_
      refine X_then ?_
      refine G_seq ?_
      refine G_block ?_
      refine G_seq ?_
      refine G_region ?_
      refine G_val (V_move rfl rfl) rfl rfl (.none rfl) ?_
      refine G_val (V_assign rfl rfl) rfl rfl (.none rfl) ?_
      refine G_end ?_
      refine X_then ?_
      refine G_seq ?_
      refine G_seq ?_
      refine G_region ?_
      refine G_val (V_move rfl rfl) rfl rfl (.none rfl) ?_
      refine G_val (V_move rfl rfl) rfl rfl (.none rfl) ?_
      refine G_val (V_add_i64 rfl rfl rfl (by omega) (by omega)) rfl rfl (.none rfl) ?_
      refine G_val (V_move rfl rfl) rfl rfl (.none rfl) ?_
      refine G_val (V_len rfl rfl) rfl rfl (.none rfl) ?_
      refine G_val (V_geq rfl rfl rfl) rfl rfl (.none rfl) ?_
      refine G_end ?_
      refine X_then ?_
      refine G_cond_f rfl (decide_eq_false (by omega)) ?_
      refine G_skip ?_
      refine X_then ?_
      refine G_seq ?_
      refine G_region ?_
      refine G_val (V_move rfl rfl) rfl rfl (.none rfl) ?_
      refine G_val (V_move rfl rfl) rfl rfl (.none rfl) ?_
      refine G_val (V_move rfl rfl) rfl rfl (.none rfl) ?_
      refine G_val (V_add_i64 rfl rfl rfl (by omega) (by omega)) rfl rfl (.none rfl) ?_
      refine G_val (V_sidx rfl rfl rfl (by omega) (by assumption)) rfl rfl (.none rfl) ?_
      refine G_val (V_assign rfl rfl) rfl rfl (.none rfl) ?_
      refine G_end ?_
      refine X_then ?_
      refine G_seq ?_
      refine G_seq ?_
      refine G_region ?_
      refine G_val (V_move rfl rfl) rfl rfl (.none rfl) ?_
      refine G_val (V_gtr rfl rfl rfl) rfl rfl (.none rfl) ?_
      refine G_val (V_move rfl rfl) rfl rfl (.none rfl) ?_
      refine G.bool_f 37 rfl (decide_eq_false (by omega)) ?_
      refine G_stay (.no rfl rfl rfl rfl) rfl rfl ?_
      refine G_stay (.no rfl rfl rfl rfl) rfl rfl ?_
      refine G_val (V_pick_f rfl rfl rfl) rfl rfl (.none rfl) ?_
      refine G_val (V_move rfl rfl) rfl rfl (.none rfl) ?_
      refine G_val (V_move rfl rfl) rfl rfl (.yes rfl rfl rfl rfl) ?_
      refine G_val (V_eql rfl rfl rfl) rfl rfl (.yes rfl rfl rfl rfl) ?_
      refine G_val (V_move rfl rfl) rfl rfl (.yes rfl rfl rfl rfl) ?_
      refine G.bool_f 44 rfl (decide_eq_false (by omega)) ?_
      refine G_stay (.no rfl rfl rfl rfl) rfl rfl ?_
      refine G_stay (.no rfl rfl rfl rfl) rfl rfl ?_
      refine G_val (V_pick_f rfl rfl rfl) rfl rfl (.yes rfl rfl rfl rfl) ?_
      refine G_val (V_pick_f rfl rfl rfl) rfl rfl (.none rfl) ?_
      refine G_end ?_
      refine X_then ?_
      refine G_cond_f rfl rfl ?_
      refine G_skip ?_
      refine X_then ?_
      refine G_seq ?_
      refine G_region ?_
      refine G_val (V_move rfl rfl) rfl rfl (.none rfl) ?_
      refine G_val (V_move rfl rfl) rfl rfl (.none rfl) ?_
      refine G_val (V_and rfl rfl rfl) rfl rfl (.none rfl) ?_
      refine G_val (V_conv rfl rfl) rfl rfl (.none rfl) ?_
      refine G_val (V_move rfl rfl) rfl rfl (.none rfl) ?_
      refine G_val (V_mul_i64 rfl rfl rfl (by omega) (by omega)) rfl rfl (.none rfl) ?_
      refine G_val (V_conv_u64 rfl rfl (by omega) (by omega)) rfl rfl (.none rfl) ?_
      refine G_val (V_shl rfl rfl rfl (by omega)) rfl rfl (.none rfl) ?_
      refine G_val (V_or rfl rfl rfl) rfl rfl (.none rfl) ?_
      refine G_val (V_assign rfl rfl) rfl rfl (.none rfl) ?_
      refine G_end ?_
      refine X_then ?_
      refine G_seq ?_
      refine G_region ?_
      refine G_val (V_move rfl rfl) rfl rfl (.none rfl) ?_
      refine G_val (V_lss rfl rfl rfl) rfl rfl (.none rfl) ?_
      refine G_end ?_
      refine X_then ?_
      refine G_cond_f rfl (decide_eq_false (by omega)) ?_
      refine G_skip ?_
      refine X_block ?_
      refine X_then ?_
      refine G_region ?_
      refine G_val (V_add_i64 rfl rfl rfl (by omega) (by omega)) rfl rfl (.none rfl) ?_
      refine G_val (V_move rfl rfl) rfl rfl (.none rfl) ?_
      refine G_end ?_
      refine X_then ?_
      rw [HS.out]
      exact G_again (i + 1, n + b.toNat % 128 * 128 ^ i) ⟨by simp only; rw [HV3.out, show 10 - (i + 1) = 9 - i by omega], by simp only; omega, HS3.out⟩ (by simp only; omega) ⟨rfl, rfl, rfl, rfl, rfl, trivial⟩ rfl rfl
    · refine G_seq ?_
      refine G_region ?_
      refine G_val (V_lss rfl rfl rfl) rfl rfl (.none rfl) ?_
      refine G_end ?_
      refine X_then ?_
      refine G_seq ?_
      refine G_cond_t rfl (decide_eq_true (by omega)) ?_
      refine G_skip ?_
      refine X_then ?_
      refine G_seq ?_
      refine G_block ?_
      refine G_seq ?_
      refine G_region ?_
      refine G_val (V_move rfl rfl) rfl rfl (.none rfl) ?_
      refine G_val (V_assign rfl rfl) rfl rfl (.none rfl) ?_
      refine G_end ?_
      refine X_then ?_
      refine G_seq ?_
      refine G_seq ?_
      refine G_region ?_
      refine G_val (V_move rfl rfl) rfl rfl (.none rfl) ?_
      refine G_val (V_move rfl rfl) rfl rfl (.none rfl) ?_
      refine G_val (V_add_i64 rfl rfl rfl (by omega) (by omega)) rfl rfl (.none rfl) ?_
      refine G_val (V_move rfl rfl) rfl rfl (.none rfl) ?_
      refine G_val (V_len rfl rfl) rfl rfl (.none rfl) ?_
      refine G_val (V_geq rfl rfl rfl) rfl rfl (.none rfl) ?_
      refine G_end ?_
      refine X_then ?_
      refine G_cond_f rfl (decide_eq_false (by omega)) ?_
      refine G_skip ?_
      refine X_then ?_
      refine G_seq ?_
      refine G_region ?_
      refine G_val (V_move rfl rfl) rfl rfl (.none rfl) ?_
      refine G_val (V_move rfl rfl) rfl rfl (.none rfl) ?_
      refine G_val (V_move rfl rfl) rfl rfl (.none rfl) ?_
      refine G_val (V_add_i64 rfl rfl rfl (by omega) (by omega)) rfl rfl (.none rfl) ?_
      refine G_val (V_sidx rfl rfl rfl (by omega) (by assumption)) rfl rfl (.none rfl) ?_
      refine G_val (V_assign rfl rfl) rfl rfl (.none rfl) ?_
      refine G_end ?_
      refine X_then ?_
      refine G_seq ?_
      refine G_seq ?_
      refine G_region ?_
      refine G_val (V_move rfl rfl) rfl rfl (.none rfl) ?_
      refine G_val (V_gtr rfl rfl rfl) rfl rfl (.none rfl) ?_
      refine G_val (V_move rfl rfl) rfl rfl (.none rfl) ?_
      refine G.bool_t 37 rfl (decide_eq_true (by omega)) ?_
      refine G_val (V_move rfl rfl) rfl rfl (.yes rfl rfl rfl rfl) ?_
      refine G_val (V_eql rfl rfl rfl) rfl rfl (.yes rfl rfl rfl rfl) ?_
      refine G_val (V_pick_t rfl rfl rfl) rfl rfl (.none rfl) ?_
      refine G_val (V_move rfl rfl) rfl rfl (.none rfl) ?_
      refine G.bool_f 41 rfl (decide_eq_false (by omega)) ?_
      refine G_val (V_move rfl rfl) rfl rfl (.yes rfl rfl rfl rfl) ?_
      refine G_val (V_eql rfl rfl rfl) rfl rfl (.yes rfl rfl rfl rfl) ?_
      refine G_val (V_move rfl rfl) rfl rfl (.yes rfl rfl rfl rfl) ?_
      refine G.bool_f 44 rfl (decide_eq_false (by omega)) ?_
      refine G_stay (.no rfl rfl rfl rfl) rfl rfl ?_
      refine G_stay (.no rfl rfl rfl rfl) rfl rfl ?_
      refine G_val (V_pick_f rfl rfl rfl) rfl rfl (.yes rfl rfl rfl rfl) ?_
      refine G_val (V_pick_f rfl rfl rfl) rfl rfl (.none rfl) ?_
      refine G_end ?_
      refine X_then ?_
      refine G_cond_f rfl rfl ?_
      refine G_skip ?_
      refine X_then ?_
      refine G_seq ?_
      refine G_region ?_
      refine G_val (V_move rfl rfl) rfl rfl (.none rfl) ?_
      refine G_val (V_move rfl rfl) rfl rfl (.none rfl) ?_
      refine G_val (V_and rfl rfl rfl) rfl rfl (.none rfl) ?_
      refine G_val (V_conv rfl rfl) rfl rfl (.none rfl) ?_
      refine G_val (V_move rfl rfl) rfl rfl (.none rfl) ?_
      refine G_val (V_mul_i64 rfl rfl rfl (by omega) (by omega)) rfl rfl (.none rfl) ?_
      refine G_val (V_conv_u64 rfl rfl (by omega) (by omega)) rfl rfl (.none rfl) ?_
      refine G_val (V_shl rfl rfl rfl (by omega)) rfl rfl (.none rfl) ?_
      refine G_val (V_or rfl rfl rfl) rfl rfl (.none rfl) ?_
      refine G_val (V_assign rfl rfl) rfl rfl (.none rfl) ?_
      refine G_end ?_
      refine X_then ?_
      refine G_seq ?_
      refine G_region ?_
      refine G_val (V_move rfl rfl) rfl rfl (.none rfl) ?_
      refine G_val (V_lss rfl rfl rfl) rfl rfl (.none rfl) ?_
      refine G_end ?_
      refine X_then ?_
      refine G_cond_f rfl (decide_eq_false (by omega)) ?_
      refine G_skip ?_
      refine X_block ?_
      refine X_then ?_
      refine G_region ?_
      refine G_val (V_add_i64 rfl rfl rfl (by omega) (by omega)) rfl rfl (.none rfl) ?_
      refine G_val (V_move rfl rfl) rfl rfl (.none rfl) ?_
      refine G_end ?_
      refine X_then ?_
      rw [HS.out]
      exact G_again (i + 1, n + b.toNat % 128 * 128 ^ i) ⟨by simp only; rw [HV3.out, show 10 - (i + 1) = 9 - i by omega], by simp only; omega, HS3.out⟩ (by simp only; omega) ⟨rfl, rfl, rfl, rfl, rfl, trivial⟩ rfl rfl
    · omega

end Go.Proofs.Ytlkfbokdbfnicaa
