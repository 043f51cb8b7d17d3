/-
  Rules and contracts, packed: V2, V4, V6, C1, C8, V1, C2, C3.
-/
import Derived.Lib.Hide
import Derived.Test.YtjhehanknkonnaaGreatDoorQ6
set_option maxHeartbeats 1000000
set_option linter.unusedSimpArgs false
set_option linter.unusedVariables false
set_option maxHeartbeats 2000000
set_option maxRecDepth 20000
namespace Go.Proofs.YtjhehanknkonnaaGreatDoor
open Go.RowKit

theorem Read_call (E : Env) (L : List Res) (s : List UInt8) (hs : s.length ≤ 1000000000000) (a : Int) : CallV Tryz.prog 125 #[.string (S s), .int .i64 a] E L (rdV (vread s a)) := by
  refine CallS.toV (CallS.intro (l := [.string (S s), .int .i64 a]) _ Tryz.func125 rfl Tryz.ntmps125 rfl ?_)
  by_cases h1 : a < 0
  · refine G_seq ?_
    refine G_region ?_
    refine Ga ?_
    refine Ga ?_
    (refine G_alloc rfl rfl rfl (.none rfl) ?_; intro b6)
    refine G_end (X_then (G_seq (G_seq (G_region ?_))))
    refine Gm ?_
    refine Gv (V_lss rfl rfl rfl) ?_
    refine Gm ?_
    refine G.bool_t 11 rfl (decide_eq_true (by omega)) ?_
    refine Gn ?_
    refine Gn ?_
    refine Gn ?_
    refine Gn ?_
    refine Gv (V_pick_t rfl rfl rfl) ?_
    refine G_end (X_then ?_)
    refine G_cond_t rfl rfl ?_
    refine G_seq (G_region ?_)
    refine Gv (V_build rfl rfl (by simp [fillV, setLs, setL, Value.cells]; rfl)) ?_
    refine Ga ?_
    refine Ga ?_
    refine G_storeA rfl rfl rfl rfl (by simp [Value.oneCell']) rfl (.none rfl) (.head _ _ _) rfl ?_
    refine G_end (X_then (G_ret (X_then_ret ?_)))
    refine G_leave 1 (by exact (.cons (.tmp rfl) (.cons (.tmp rfl) (.cons (.cellA rfl (Cells.own (.head _)) rfl) (.nil))))) rfl ?_ ?_
    · exact .refl _
    · exact ⟨by rw [vread, if_pos (.inl h1)]; rfl, rfl⟩
  by_cases h2 : (s.length : Int) < a
  · refine G_seq ?_
    refine G_region ?_
    refine Ga ?_
    refine Ga ?_
    (refine G_alloc rfl rfl rfl (.none rfl) ?_; intro b6)
    refine G_end (X_then (G_seq (G_seq (G_region ?_))))
    refine Gm ?_
    refine Gv (V_lss rfl rfl rfl) ?_
    refine Gm ?_
    refine G.bool_f 11 rfl (decide_eq_false (by omega)) ?_
    refine Gy (V_move rfl rfl) ?_
    refine Gy (V_move rfl rfl) ?_
    refine Gy (V_len rfl rfl) ?_
    refine Gy (V_gtr rfl rfl rfl) ?_
    refine Gv (V_pick_f rfl rfl rfl) ?_
    refine G_end (X_then ?_)
    refine G_cond_t rfl (decide_eq_true (by omega)) ?_
    refine G_seq (G_region ?_)
    refine Gv (V_build rfl rfl (by simp [fillV, setLs, setL, Value.cells]; rfl)) ?_
    refine Ga ?_
    refine Ga ?_
    refine G_storeA rfl rfl rfl rfl (by simp [Value.oneCell']) rfl (.none rfl) (.head _ _ _) rfl ?_
    refine G_end (X_then (G_ret (X_then_ret ?_)))
    refine G_leave 1 (by exact (.cons (.tmp rfl) (.cons (.tmp rfl) (.cons (.cellA rfl (Cells.own (.head _)) rfl) (.nil))))) rfl ?_ ?_
    · exact .refl _
    · exact ⟨by rw [vread, if_pos (.inr h2)]; rfl, rfl⟩
  obtain ⟨A, rfl⟩ : ∃ A : Nat, a = A := ⟨a.toNat, by omega⟩
  have hr : vread s A = vreadK s A 10 0 0 := by rw [vread, if_neg (by omega)]; rfl
  rw [hr]
  refine G_seq (G_region ?_)
  refine Ga ?_
  refine Ga ?_
  (refine G_alloc rfl rfl rfl (.none rfl) ?_; intro b6)
  refine G_end (X_then (G_seq (G_seq (G_region ?_))))
  refine Gm ?_
  refine Gv (V_lss rfl rfl rfl) ?_
  refine Gm ?_
  refine G.bool_f 11 rfl (decide_eq_false (by omega)) ?_
  refine Gy (V_move rfl rfl) ?_
  refine Gy (V_move rfl rfl) ?_
  refine Gy (V_len rfl rfl) ?_
  refine Gy (V_gtr rfl rfl rfl) ?_
  refine Gv (V_pick_f rfl rfl rfl) ?_
  refine G_end (X_then ?_)
  refine G_cond_f rfl (decide_eq_false (by omega)) ?_
  refine G_skip (X_then (G_seq (G_seq (G_region ?_))))
  refine Gm ?_
  refine G_end (X_then (G_block ?_))
  refine G_loop (α := Nat × Nat) (fun x => [(0, .string (S s)), (1, .int .i64 A), (4, .int .u64 x.2), (6, .pointer (some ⟨b6, 0, none⟩)), (18, .int .i64 x.1)]) (fun _ => E)
    (fun _ => .blk b6 (.cells #[.int .i64 0, .int .i64 0] 36 (0, 0)) :: L)
    (fun x => vreadK s A 10 0 0 = vreadK s A (10 - x.1) x.1 x.2 ∧ x.1 < 10 ∧ x.2 < 128 ^ x.1) (fun x => 10 - x.1) (0, 0)
    ⟨rfl, by simp, by simp⟩ ⟨rfl, rfl, rfl, rfl, rfl, trivial⟩ rfl rfl ?_
  rintro ⟨i, n⟩ ⟨hv, hi, hn⟩
  simp only at hv hi hn ⊢
  have hk : 10 - i = (9 - i) + 1 := by omega
  rw [hk] at hv
  have HV := Lib.hid hv
  clear hv
  have HK := Lib.hid hk
  clear hk hr
  by_cases h3 : s.length ≤ A + i
  · refine G_seq ?_
    refine G_region ?_
    refine Gv (V_lss rfl rfl rfl) ?_
    refine G_end (X_then (G_seq ?_))
    refine G_cond_t rfl (decide_eq_true (by omega)) ?_
    refine G_skip (X_then (G_seq (G_block (G_seq (G_region ?_)))))
    refine Gm ?_
    refine Ga ?_
    refine G_end (X_then (G_seq (G_seq (G_region ?_))))
    refine Gm ?_
    refine Gm ?_
    refine Gv (V_add_i64 rfl rfl rfl (by omega) (by omega)) ?_
    refine Gm ?_
    refine Gv (V_len rfl rfl) ?_
    refine Gv (V_geq rfl rfl rfl) ?_
    refine G_end (X_then ?_)
    refine G_cond_t rfl (decide_eq_true (by omega)) ?_
    refine G_seq (G_region ?_)
    refine Gm ?_
    refine Gv (V_len rfl rfl) ?_
    refine Gv (V_build rfl rfl (by simp [fillV, setLs, setL, Value.cells]; rfl)) ?_
    refine Ga ?_
    refine Ga ?_
    refine G_storeA rfl rfl rfl rfl (by simp [Value.oneCell']) rfl (.none rfl) (.head _ _ _) rfl ?_
    refine G_end (X_then (G_ret (X_then_ret (X_block_ret (X_then_ret (X_then_ret (X_block_ret (X_then_ret ?_))))))))
    refine G_leave 1 (by exact (.cons (.tmp rfl) (.cons (.tmp rfl) (.cons (.cellA rfl (Cells.own (.head _)) rfl) (.nil))))) rfl ?_ ?_
    · exact .refl _
    · exact ⟨by rw [HV.out, vreadK_none h3]; rfl, rfl⟩
  have hlt : A + i < s.length := by omega
  obtain ⟨b, hb⟩ : ∃ b, s[A + i]? = some b := ⟨_, List.getElem?_eq_getElem hlt⟩
  have hb' : s[((A : Int) + (i : Int)).toNat]? = some b := by rw [show ((A : Int) + (i : Int)).toNat = A + i by omega]; exact hb
  have HB := Lib.hid (vreadK_some (k := 9 - i) (n := n) hb)
  clear hb
  have h256 : b.toNat < 256 := b.toNat_lt
  by_cases hf : (0 < i ∧ b.toNat = 0) ∨ (i = 9 ∧ 1 < b.toNat)
  · have HV2 := Lib.hid (HV.out.trans (HB.out.trans (if_pos hf)))
    rcases hf with ⟨hp, hq⟩ | ⟨hp, hq⟩
    · refine G_seq ?_
      refine G_region ?_
      refine Gv (V_lss rfl rfl rfl) ?_
      refine G_end (X_then (G_seq ?_))
      refine G_cond_t rfl (decide_eq_true (by omega)) ?_
      refine G_skip (X_then (G_seq (G_block (G_seq (G_region ?_)))))
      refine Gm ?_
      refine Ga ?_
      refine G_end (X_then (G_seq (G_seq (G_region ?_))))
      refine Gm ?_
      refine Gm ?_
      refine Gv (V_add_i64 rfl rfl rfl (by omega) (by omega)) ?_
      refine Gm ?_
      refine Gv (V_len rfl rfl) ?_
      refine Gv (V_geq rfl rfl rfl) ?_
      refine G_end (X_then ?_)
      refine G_cond_f rfl (decide_eq_false (by omega)) ?_
      refine G_skip (X_then (G_seq (G_region ?_)))
      refine Gm ?_
      refine Gm ?_
      refine Gm ?_
      refine Gv (V_add_i64 rfl rfl rfl (by omega) (by omega)) ?_
      refine Gv (V_sidx rfl rfl rfl (by omega) (by assumption)) ?_
      refine Ga ?_
      refine G_end (X_then (G_seq (G_seq (G_region ?_))))
      refine Gm ?_
      refine Gv (V_gtr rfl rfl rfl) ?_
      refine Gm ?_
      refine G.bool_t 37 rfl (decide_eq_true (by omega)) ?_
      refine Gy (V_move rfl rfl) ?_
      refine Gy (V_eql rfl rfl rfl) ?_
      refine Gv (V_pick_t rfl rfl rfl) ?_
      refine Gm ?_
      refine G.bool_t 41 rfl (decide_eq_true (by omega)) ?_
      refine Gn ?_
      refine Gn ?_
      refine Gn ?_
      refine G_stay (.un rfl rfl rfl rfl) rfl rfl ?_
      refine G_stay (.un rfl rfl rfl rfl) rfl rfl ?_
      refine Gn ?_
      refine Gv (V_pick_t rfl rfl rfl) ?_
      refine G_end (X_then ?_)
      refine G_cond_t rfl rfl ?_
      refine G_seq (G_region ?_)
      refine Gm ?_
      refine Gm ?_
      refine Gv (V_add_i64 rfl rfl rfl (by omega) (by omega)) ?_
      refine Gv (V_build rfl rfl (by simp [fillV, setLs, setL, Value.cells]; rfl)) ?_
      refine Ga ?_
      refine Ga ?_
      refine G_storeA rfl rfl rfl rfl (by simp [Value.oneCell']) rfl (.none rfl) (.head _ _ _) rfl ?_
      refine G_end (X_then (G_ret (X_then_ret (X_block_ret (X_then_ret (X_then_ret (X_block_ret (X_then_ret ?_))))))))
      refine G_leave 1 (by exact (.cons (.tmp rfl) (.cons (.tmp rfl) (.cons (.cellA rfl (Cells.own (.head _)) rfl) (.nil))))) rfl ?_ ?_
      · exact .refl _
      · exact ⟨by rw [HV2.out]; rfl, rfl⟩
    · refine G_seq ?_
      refine G_region ?_
      refine Gv (V_lss rfl rfl rfl) ?_
      refine G_end (X_then (G_seq ?_))
      refine G_cond_t rfl (decide_eq_true (by omega)) ?_
      refine G_skip (X_then (G_seq (G_block (G_seq (G_region ?_)))))
      refine Gm ?_
      refine Ga ?_
      refine G_end (X_then (G_seq (G_seq (G_region ?_))))
      refine Gm ?_
      refine Gm ?_
      refine Gv (V_add_i64 rfl rfl rfl (by omega) (by omega)) ?_
      refine Gm ?_
      refine Gv (V_len rfl rfl) ?_
      refine Gv (V_geq rfl rfl rfl) ?_
      refine G_end (X_then ?_)
      refine G_cond_f rfl (decide_eq_false (by omega)) ?_
      refine G_skip (X_then (G_seq (G_region ?_)))
      refine Gm ?_
      refine Gm ?_
      refine Gm ?_
      refine Gv (V_add_i64 rfl rfl rfl (by omega) (by omega)) ?_
      refine Gv (V_sidx rfl rfl rfl (by omega) (by assumption)) ?_
      refine Ga ?_
      refine G_end (X_then (G_seq (G_seq (G_region ?_))))
      refine Gm ?_
      refine Gv (V_gtr rfl rfl rfl) ?_
      refine Gm ?_
      refine G.bool_t 37 rfl (decide_eq_true (by omega)) ?_
      refine Gy (V_move rfl rfl) ?_
      refine Gy (V_eql rfl rfl rfl) ?_
      refine Gv (V_pick_t rfl rfl rfl) ?_
      refine Gm ?_
      refine G.bool_f 41 rfl (decide_eq_false (by omega)) ?_
      refine Gy (V_move rfl rfl) ?_
      refine Gy (V_eql rfl rfl rfl) ?_
      refine Gy (V_move rfl rfl) ?_
      refine G.bool_t 44 rfl (decide_eq_true (by omega)) ?_
      refine Gy (V_move rfl rfl) ?_
      refine Gy (V_gtr rfl rfl rfl) ?_
      refine Gy (V_pick_t rfl rfl rfl) ?_
      refine Gv (V_pick_f rfl rfl rfl) ?_
      refine G_end (X_then ?_)
      refine G_cond_t rfl (decide_eq_true (by omega)) ?_
      refine G_seq (G_region ?_)
      refine Gm ?_
      refine Gm ?_
      refine Gv (V_add_i64 rfl rfl rfl (by omega) (by omega)) ?_
      refine Gv (V_build rfl rfl (by simp [fillV, setLs, setL, Value.cells]; rfl)) ?_
      refine Ga ?_
      refine Ga ?_
      refine G_storeA rfl rfl rfl rfl (by simp [Value.oneCell']) rfl (.none rfl) (.head _ _ _) rfl ?_
      refine G_end (X_then (G_ret (X_then_ret (X_block_ret (X_then_ret (X_then_ret (X_block_ret (X_then_ret ?_))))))))
      refine G_leave 1 (by exact (.cons (.tmp rfl) (.cons (.tmp rfl) (.cons (.cellA rfl (Cells.own (.head _)) rfl) (.nil))))) rfl ?_ ?_
      · exact .refl _
      · exact ⟨by rw [HV2.out]; rfl, rfl⟩
  obtain ⟨hs1, hs2, hs3⟩ := or_step (n := n) (b := b.toNat) (i := i) hn hi h256 (by omega)
  have HS := Lib.hid hs1
  have HS2 := Lib.hid hs2
  have HS3 := Lib.hid hs3
  have HN := Lib.hid hn
  clear hs1 hs2 hs3 hn
  have HV2 := Lib.hid (HV.out.trans (HB.out.trans (if_neg hf)))
  have hc : i = 0 ∨ (0 < i ∧ b.toNat ≠ 0 ∧ i ≠ 9) ∨ (i = 9 ∧ b.toNat = 1) := by omega
  by_cases h128 : b.toNat < 128
  · have HV3 := Lib.hid (HV2.out.trans (if_pos h128))
    rcases hc with hc | ⟨hc1, hc2, hc3⟩ | ⟨hc1, hc2⟩
    all_goals
      first
        | (refine G_seq ?_
           refine G_region ?_
           refine Gv (V_lss rfl rfl rfl) ?_
           refine G_end (X_then (G_seq ?_))
           refine G_cond_t rfl (decide_eq_true (by omega)) ?_
           refine G_skip (X_then (G_seq (G_block (G_seq (G_region ?_)))))
           refine Gm ?_
           refine Ga ?_
           refine G_end (X_then (G_seq (G_seq (G_region ?_))))
           refine Gm ?_
           refine Gm ?_
           refine Gv (V_add_i64 rfl rfl rfl (by omega) (by omega)) ?_
           refine Gm ?_
           refine Gv (V_len rfl rfl) ?_
           refine Gv (V_geq rfl rfl rfl) ?_
           refine G_end (X_then ?_)
           refine G_cond_f rfl (decide_eq_false (by omega)) ?_
           refine G_skip (X_then (G_seq (G_region ?_)))
           refine Gm ?_
           refine Gm ?_
           refine Gm ?_
           refine Gv (V_add_i64 rfl rfl rfl (by omega) (by omega)) ?_
           refine Gv (V_sidx rfl rfl rfl (by omega) (by assumption)) ?_
           refine Ga ?_
           refine G_end (X_then (G_seq (G_seq (G_region ?_))))
           refine Gm ?_
           refine Gv (V_gtr rfl rfl rfl) ?_
           refine Gm ?_
           refine G.bool_t 37 rfl (decide_eq_true (by omega)) ?_
           refine Gy (V_move rfl rfl) ?_
           refine Gy (V_eql rfl rfl rfl) ?_
           refine Gv (V_pick_t rfl rfl rfl) ?_
           refine Gm ?_
           refine G.bool_f 41 rfl (decide_eq_false (by omega)) ?_
           refine Gy (V_move rfl rfl) ?_
           refine Gy (V_eql rfl rfl rfl) ?_
           refine Gy (V_move rfl rfl) ?_
           refine G.bool_f 44 rfl (decide_eq_false (by omega)) ?_
           refine Gn ?_
           refine Gn ?_
           refine Gy (V_pick_f rfl rfl rfl) ?_
           refine Gv (V_pick_f rfl rfl rfl) ?_
           refine G_end (X_then ?_)
           refine G_cond_f rfl rfl ?_
           refine G_skip (X_then (G_seq (G_region ?_)))
           refine Gm ?_
           refine Gm ?_
           refine Gv (V_and rfl rfl rfl) ?_
           refine Gv (V_conv rfl rfl) ?_
           refine Gm ?_
           refine Gv (V_mul_i64 rfl rfl rfl (by omega) (by omega)) ?_
           refine Gv (V_conv_u64 rfl rfl (by omega) (by omega)) ?_
           refine Gv (V_shl rfl rfl rfl (by omega)) ?_
           refine Gv (V_or rfl rfl rfl) ?_
           refine Ga ?_
           refine G_end (X_then (G_seq (G_region ?_)))
           refine Gm ?_
           refine Gv (V_lss rfl rfl rfl) ?_
           refine G_end (X_then ?_)
           refine G_cond_t rfl (decide_eq_true (by omega)) ?_
           refine G_seq (G_region ?_)
           refine Gm ?_
           refine Gm ?_
           refine Gm ?_
           refine Gv (V_add_i64 rfl rfl rfl (by omega) (by omega)) ?_
           refine Gv (V_add_i64 rfl rfl rfl (by omega) (by omega)) ?_
           refine Gv (V_build rfl rfl (by simp [fillV, setLs, setL, Value.cells]; rfl)) ?_
           refine Ga ?_
           refine Ga ?_
           refine G_storeA rfl rfl rfl rfl (by simp [Value.oneCell']) rfl (.none rfl) (.head _ _ _) rfl ?_
           refine G_end (X_then (G_ret (X_block_ret (X_then_ret (X_then_ret (X_block_ret ?_))))))
           refine X_then_ret ?_)
        | (refine G_seq ?_
           refine G_region ?_
           refine Gv (V_lss rfl rfl rfl) ?_
           refine G_end (X_then (G_seq ?_))
           refine G_cond_t rfl (decide_eq_true (by omega)) ?_
           refine G_skip (X_then (G_seq (G_block (G_seq (G_region ?_)))))
           refine Gm ?_
           refine Ga ?_
           refine G_end (X_then (G_seq (G_seq (G_region ?_))))
           refine Gm ?_
           refine Gm ?_
           refine Gv (V_add_i64 rfl rfl rfl (by omega) (by omega)) ?_
           refine Gm ?_
           refine Gv (V_len rfl rfl) ?_
           refine Gv (V_geq rfl rfl rfl) ?_
           refine G_end (X_then ?_)
           refine G_cond_f rfl (decide_eq_false (by omega)) ?_
           refine G_skip (X_then (G_seq (G_region ?_)))
           refine Gm ?_
           refine Gm ?_
           refine Gm ?_
           refine Gv (V_add_i64 rfl rfl rfl (by omega) (by omega)) ?_
           refine Gv (V_sidx rfl rfl rfl (by omega) (by assumption)) ?_
           refine Ga ?_
           refine G_end (X_then (G_seq (G_seq (G_region ?_))))
           refine Gm ?_
           refine Gv (V_gtr rfl rfl rfl) ?_
           refine Gm ?_
           refine G.bool_t 37 rfl (decide_eq_true (by omega)) ?_
           refine Gy (V_move rfl rfl) ?_
           refine Gy (V_eql rfl rfl rfl) ?_
           refine Gv (V_pick_t rfl rfl rfl) ?_
           refine Gm ?_
           refine G.bool_f 41 rfl (decide_eq_false (by omega)) ?_
           refine Gy (V_move rfl rfl) ?_
           refine Gy (V_eql rfl rfl rfl) ?_
           refine Gy (V_move rfl rfl) ?_
           refine G.bool_t 44 rfl (decide_eq_true (by omega)) ?_
           refine Gy (V_move rfl rfl) ?_
           refine Gy (V_gtr rfl rfl rfl) ?_
           refine Gy (V_pick_t rfl rfl rfl) ?_
           refine Gv (V_pick_f rfl rfl rfl) ?_
           refine G_end (X_then ?_)
           refine G_cond_f rfl (decide_eq_false (by omega)) ?_
           refine G_skip (X_then (G_seq (G_region ?_)))
           refine Gm ?_
           refine Gm ?_
           refine Gv (V_and rfl rfl rfl) ?_
           refine Gv (V_conv rfl rfl) ?_
           refine Gm ?_
           refine Gv (V_mul_i64 rfl rfl rfl (by omega) (by omega)) ?_
           refine Gv (V_conv_u64 rfl rfl (by omega) (by omega)) ?_
           refine Gv (V_shl rfl rfl rfl (by omega)) ?_
           refine Gv (V_or rfl rfl rfl) ?_
           refine Ga ?_
           refine G_end (X_then (G_seq (G_region ?_)))
           refine Gm ?_
           refine Gv (V_lss rfl rfl rfl) ?_
           refine G_end (X_then ?_)
           refine G_cond_t rfl (decide_eq_true (by omega)) ?_
           refine G_seq (G_region ?_)
           refine Gm ?_
           refine Gm ?_
           refine Gm ?_
           refine Gv (V_add_i64 rfl rfl rfl (by omega) (by omega)) ?_
           refine Gv (V_add_i64 rfl rfl rfl (by omega) (by omega)) ?_
           refine Gv (V_build rfl rfl (by simp [fillV, setLs, setL, Value.cells]; rfl)) ?_
           refine Ga ?_
           refine Ga ?_
           refine G_storeA rfl rfl rfl rfl (by simp [Value.oneCell']) rfl (.none rfl) (.head _ _ _) rfl ?_
           refine G_end (X_then (G_ret (X_block_ret (X_then_ret (X_then_ret (X_block_ret ?_))))))
           refine X_then_ret ?_)
        | (refine G_seq ?_
           refine G_region ?_
           refine Gv (V_lss rfl rfl rfl) ?_
           refine G_end (X_then (G_seq ?_))
           refine G_cond_t rfl (decide_eq_true (by omega)) ?_
           refine G_skip (X_then (G_seq (G_block (G_seq (G_region ?_)))))
           refine Gm ?_
           refine Ga ?_
           refine G_end (X_then (G_seq (G_seq (G_region ?_))))
           refine Gm ?_
           refine Gm ?_
           refine Gv (V_add_i64 rfl rfl rfl (by omega) (by omega)) ?_
           refine Gm ?_
           refine Gv (V_len rfl rfl) ?_
           refine Gv (V_geq rfl rfl rfl) ?_
           refine G_end (X_then ?_)
           refine G_cond_f rfl (decide_eq_false (by omega)) ?_
           refine G_skip (X_then (G_seq (G_region ?_)))
           refine Gm ?_
           refine Gm ?_
           refine Gm ?_
           refine Gv (V_add_i64 rfl rfl rfl (by omega) (by omega)) ?_
           refine Gv (V_sidx rfl rfl rfl (by omega) (by assumption)) ?_
           refine Ga ?_
           refine G_end (X_then (G_seq (G_seq (G_region ?_))))
           refine Gm ?_
           refine Gv (V_gtr rfl rfl rfl) ?_
           refine Gm ?_
           refine G.bool_f 37 rfl (decide_eq_false (by omega)) ?_
           refine Gn ?_
           refine Gn ?_
           refine Gv (V_pick_f rfl rfl rfl) ?_
           refine Gm ?_
           refine Gy (V_move rfl rfl) ?_
           refine Gy (V_eql rfl rfl rfl) ?_
           refine Gy (V_move rfl rfl) ?_
           refine G.bool_f 44 rfl (decide_eq_false (by omega)) ?_
           refine Gn ?_
           refine Gn ?_
           refine Gy (V_pick_f rfl rfl rfl) ?_
           refine Gv (V_pick_f rfl rfl rfl) ?_
           refine G_end (X_then ?_)
           refine G_cond_f rfl rfl ?_
           refine G_skip (X_then (G_seq (G_region ?_)))
           refine Gm ?_
           refine Gm ?_
           refine Gv (V_and rfl rfl rfl) ?_
           refine Gv (V_conv rfl rfl) ?_
           refine Gm ?_
           refine Gv (V_mul_i64 rfl rfl rfl (by omega) (by omega)) ?_
           refine Gv (V_conv_u64 rfl rfl (by omega) (by omega)) ?_
           refine Gv (V_shl rfl rfl rfl (by omega)) ?_
           refine Gv (V_or rfl rfl rfl) ?_
           refine Ga ?_
           refine G_end (X_then (G_seq (G_region ?_)))
           refine Gm ?_
           refine Gv (V_lss rfl rfl rfl) ?_
           refine G_end (X_then ?_)
           refine G_cond_t rfl (decide_eq_true (by omega)) ?_
           refine G_seq (G_region ?_)
           refine Gm ?_
           refine Gm ?_
           refine Gm ?_
           refine Gv (V_add_i64 rfl rfl rfl (by omega) (by omega)) ?_
           refine Gv (V_add_i64 rfl rfl rfl (by omega) (by omega)) ?_
           refine Gv (V_build rfl rfl (by simp [fillV, setLs, setL, Value.cells]; rfl)) ?_
           refine Ga ?_
           refine Ga ?_
           refine G_storeA rfl rfl rfl rfl (by simp [Value.oneCell']) rfl (.none rfl) (.head _ _ _) rfl ?_
           refine G_end (X_then (G_ret (X_block_ret (X_then_ret (X_then_ret (X_block_ret ?_))))))
           refine X_then_ret ?_)
      rw [HS.out]
      refine G_leave 1 (by exact (.cons (.tmp rfl) (.cons (.tmp rfl) (.cons (.cellA rfl (Cells.own (.head _)) rfl) (.nil))))) rfl ?_ ?_
      · exact .refl _
      · exact ⟨by rw [HV3.out]; rfl, rfl⟩
  · have HV3 := Lib.hid (HV2.out.trans (if_neg h128))
    rcases hc with hc | ⟨hc1, hc2, hc3⟩ | ⟨hc1, hc2⟩
    · refine G_seq ?_
      refine G_region ?_
      refine Gv (V_lss rfl rfl rfl) ?_
      refine G_end (X_then (G_seq ?_))
      refine G_cond_t rfl (decide_eq_true (by omega)) ?_
      refine G_skip (X_then (G_seq (G_block (G_seq (G_region ?_)))))
      refine Gm ?_
      refine Ga ?_
      refine G_end (X_then (G_seq (G_seq (G_region ?_))))
      refine Gm ?_
      refine Gm ?_
      refine Gv (V_add_i64 rfl rfl rfl (by omega) (by omega)) ?_
      refine Gm ?_
      refine Gv (V_len rfl rfl) ?_
      refine Gv (V_geq rfl rfl rfl) ?_
      refine G_end (X_then ?_)
      refine G_cond_f rfl (decide_eq_false (by omega)) ?_
      refine G_skip (X_then (G_seq (G_region ?_)))
      refine Gm ?_
      refine Gm ?_
      refine Gm ?_
      refine Gv (V_add_i64 rfl rfl rfl (by omega) (by omega)) ?_
      refine Gv (V_sidx rfl rfl rfl (by omega) (by assumption)) ?_
      refine Ga ?_
      refine G_end (X_then (G_seq (G_seq (G_region ?_))))
      refine Gm ?_
      refine Gv (V_gtr rfl rfl rfl) ?_
      refine Gm ?_
      refine G.bool_f 37 rfl (decide_eq_false (by omega)) ?_
      refine Gn ?_
      refine Gn ?_
      refine Gv (V_pick_f rfl rfl rfl) ?_
      refine Gm ?_
      refine Gy (V_move rfl rfl) ?_
      refine Gy (V_eql rfl rfl rfl) ?_
      refine Gy (V_move rfl rfl) ?_
      refine G.bool_f 44 rfl (decide_eq_false (by omega)) ?_
      refine Gn ?_
      refine Gn ?_
      refine Gy (V_pick_f rfl rfl rfl) ?_
      refine Gv (V_pick_f rfl rfl rfl) ?_
      refine G_end (X_then ?_)
      refine G_cond_f rfl rfl ?_
      refine G_skip (X_then (G_seq (G_region ?_)))
      refine Gm ?_
      refine Gm ?_
      refine Gv (V_and rfl rfl rfl) ?_
      refine Gv (V_conv rfl rfl) ?_
      refine Gm ?_
      refine Gv (V_mul_i64 rfl rfl rfl (by omega) (by omega)) ?_
      refine Gv (V_conv_u64 rfl rfl (by omega) (by omega)) ?_
      refine Gv (V_shl rfl rfl rfl (by omega)) ?_
      refine Gv (V_or rfl rfl rfl) ?_
      refine Ga ?_
      refine G_end (X_then (G_seq (G_region ?_)))
      refine Gm ?_
      refine Gv (V_lss rfl rfl rfl) ?_
      refine G_end (X_then ?_)
      refine G_cond_f rfl (decide_eq_false (by omega)) ?_
      refine G_skip (X_block (X_then (G_region ?_)))
      refine Gv (V_add_i64 rfl rfl rfl (by omega) (by omega)) ?_
      refine Gm ?_
      refine G_end (X_then ?_)
      rw [HS.out]
      exact G_again (i + 1, n + b.toNat % 128 * 128 ^ i) ⟨by simp only; rw [HV3.out, show 10 - (i + 1) = 9 - i by omega], by simp only; omega, HS3.out⟩ (by simp only; omega) ⟨rfl, rfl, rfl, rfl, rfl, trivial⟩ rfl rfl
    · refine G_seq ?_
      refine G_region ?_
      refine Gv (V_lss rfl rfl rfl) ?_
      refine G_end (X_then (G_seq ?_))
      refine G_cond_t rfl (decide_eq_true (by omega)) ?_
      refine G_skip (X_then (G_seq (G_block (G_seq (G_region ?_)))))
      refine Gm ?_
      refine Ga ?_
      refine G_end (X_then (G_seq (G_seq (G_region ?_))))
      refine Gm ?_
      refine Gm ?_
      refine Gv (V_add_i64 rfl rfl rfl (by omega) (by omega)) ?_
      refine Gm ?_
      refine Gv (V_len rfl rfl) ?_
      refine Gv (V_geq rfl rfl rfl) ?_
      refine G_end (X_then ?_)
      refine G_cond_f rfl (decide_eq_false (by omega)) ?_
      refine G_skip (X_then (G_seq (G_region ?_)))
      refine Gm ?_
      refine Gm ?_
      refine Gm ?_
      refine Gv (V_add_i64 rfl rfl rfl (by omega) (by omega)) ?_
      refine Gv (V_sidx rfl rfl rfl (by omega) (by assumption)) ?_
      refine Ga ?_
      refine G_end (X_then (G_seq (G_seq (G_region ?_))))
      refine Gm ?_
      refine Gv (V_gtr rfl rfl rfl) ?_
      refine Gm ?_
      refine G.bool_t 37 rfl (decide_eq_true (by omega)) ?_
      refine Gy (V_move rfl rfl) ?_
      refine Gy (V_eql rfl rfl rfl) ?_
      refine Gv (V_pick_t rfl rfl rfl) ?_
      refine Gm ?_
      refine G.bool_f 41 rfl (decide_eq_false (by omega)) ?_
      refine Gy (V_move rfl rfl) ?_
      refine Gy (V_eql rfl rfl rfl) ?_
      refine Gy (V_move rfl rfl) ?_
      refine G.bool_f 44 rfl (decide_eq_false (by omega)) ?_
      refine Gn ?_
      refine Gn ?_
      refine Gy (V_pick_f rfl rfl rfl) ?_
      refine Gv (V_pick_f rfl rfl rfl) ?_
      refine G_end (X_then ?_)
      refine G_cond_f rfl rfl ?_
      refine G_skip (X_then (G_seq (G_region ?_)))
      refine Gm ?_
      refine Gm ?_
      refine Gv (V_and rfl rfl rfl) ?_
      refine Gv (V_conv rfl rfl) ?_
      refine Gm ?_
      refine Gv (V_mul_i64 rfl rfl rfl (by omega) (by omega)) ?_
      refine Gv (V_conv_u64 rfl rfl (by omega) (by omega)) ?_
      refine Gv (V_shl rfl rfl rfl (by omega)) ?_
      refine Gv (V_or rfl rfl rfl) ?_
      refine Ga ?_
      refine G_end (X_then (G_seq (G_region ?_)))
      refine Gm ?_
      refine Gv (V_lss rfl rfl rfl) ?_
      refine G_end (X_then ?_)
      refine G_cond_f rfl (decide_eq_false (by omega)) ?_
      refine G_skip (X_block (X_then (G_region ?_)))
      refine Gv (V_add_i64 rfl rfl rfl (by omega) (by omega)) ?_
      refine Gm ?_
      refine G_end (X_then ?_)
      rw [HS.out]
      exact G_again (i + 1, n + b.toNat % 128 * 128 ^ i) ⟨by simp only; rw [HV3.out, show 10 - (i + 1) = 9 - i by omega], by simp only; omega, HS3.out⟩ (by simp only; omega) ⟨rfl, rfl, rfl, rfl, rfl, trivial⟩ rfl rfl
    · omega

end Go.Proofs.YtjhehanknkonnaaGreatDoor
set_option linter.unusedSimpArgs false
set_option linter.unusedVariables false
set_option maxHeartbeats 2000000
set_option maxRecDepth 20000
namespace Go.Proofs.YtjhehanknkonnaaGreatDoor
open Go.RowKit

end Go.Proofs.YtjhehanknkonnaaGreatDoor
set_option linter.unusedSimpArgs false
set_option linter.unusedVariables false
set_option maxHeartbeats 2000000
set_option maxRecDepth 20000
namespace Go.Proofs.YtjhehanknkonnaaGreatDoor
open Go.RowKit

def unzig (n : Nat) : Int := if n % 2 = 1 then -((n / 2 : Nat) : Int) - 1 else ((n / 2 : Nat) : Int)

end Go.Proofs.YtjhehanknkonnaaGreatDoor
set_option linter.unusedSimpArgs false
set_option linter.unusedVariables false
set_option maxHeartbeats 2000000
set_option maxRecDepth 20000
namespace Go.Proofs.YtjhehanknkonnaaGreatDoor
open Go.RowKit

/-- A reader: its string, where it stands, its fault's error and offset. -/
structure Rdr where
  s : List UInt8
  at' : Int
  e : Int
  fa : Int
@[reducible] def Rdr.cs (q : Rdr) : Array Value := #[.string (S q.s), .int .i64 q.at', .int .i64 q.e, .int .i64 q.fa]
@[reducible] def Rdr.v (q : Rdr) : Value := .agg #[.string (S q.s), .int .i64 q.at', .int .i64 q.e, .int .i64 q.fa]
abbrev Rdr.ok (q : Rdr) : Prop := q.s.length ≤ 20000 ∧ 0 ≤ q.at' ∧ q.at' ≤ q.s.length ∧ ((q.e = 0 ∧ q.fa = 0) ∨ (1 ≤ q.e ∧ q.e ≤ 31 ∧ 0 ≤ q.fa ∧ q.fa ≤ q.s.length))
def rbegin (q : Rdr) : Rdr := if q.ok then q else ⟨[], 0, 10, 0⟩
theorem rbegin_ok (q : Rdr) : (rbegin q).ok := by
  unfold rbegin
  split
  · assumption
  · simp [Rdr.ok]

theorem begin_call (E : Env) (L : List Res) (s : List UInt8) (hs : s.length ≤ 1000000000000) (a e f : Int) :
    CallS Tryz.prog 97 #[.agg #[.string (S s), .int .i64 a, .int .i64 e, .int .i64 f]] E L (fun r E' L' => ∃ b q, r = .pointer (some ⟨b, 0, none⟩) ∧ E = E' ∧ q = rbegin ⟨s, a, e, f⟩ ∧ L' = .blk b (.cells #[.string (S q.s), .int .i64 q.at', .int .i64 q.e, .int .i64 q.fa] 114 (0, 0)) :: L) := by
  refine CallS.intro (l := [.agg #[.string (S s), .int .i64 a, .int .i64 e, .int .i64 f]]) _ Tryz.func97 rfl Tryz.ntmps97 rfl ?_
  refine G_seq (G_region ?_)
  (refine G_boxA rfl rfl rfl rfl (.none rfl) ?_; intro b1)
  refine Ga ?_
  refine G_end (X_then (G_seq (G_region ?_)))
  refine Gv (V_fieldAddr rfl rfl (by decide)) ?_
  refine Gv (V_loadF rfl rfl (.head _) (by simp only [Nat.zero_add, List.drop_succ_cons, List.drop_zero, List.take_succ_cons, List.take_zero]; rfl) (by rfl)) ?_
  (refine G_alloc rfl rfl rfl (.none rfl) ?_; intro b3)
  refine G_storeA rfl rfl rfl rfl (by simp [Value.oneCell']) rfl (.none rfl) (.head _ _ _) rfl ?_
  refine G_end (X_then (G_seq (G_region ?_)))
  refine Gv (V_fieldAddr rfl rfl (by decide)) ?_
  refine Gv (V_load rfl rfl (Cell.own (.tail _ (.head _)) rfl)) ?_
  refine Gv (V_len rfl rfl) ?_
  refine Gv (V_leq rfl rfl rfl) ?_
  refine Gm ?_
  apply G_joinAnd 4 11 15 rfl
  · intro H1
    dsimp only [List.take]
    simp only [Bool.and_eq_true, Bool.or_eq_true, Bool.not_eq_true', Bool.not_eq_false', Bool.and_eq_false_iff, Bool.or_eq_false_iff, Bool.not_not, decide_eq_true_eq, decide_eq_false_iff_not, ne_eq, Decidable.not_not, Bool.decide_eq_true] at H1
    refine Gy (V_fieldAddr rfl rfl (by decide)) ?_
    refine Gy (V_load rfl rfl (Cell.own (.tail _ (.head _)) rfl)) ?_
    refine Gy (V_geq rfl rfl rfl) ?_
    refine Gv (V_pick_t rfl rfl rfl) ?_
    refine G_end ?_
    exact JQ_end 4 rfl rfl (by kernel_rfl)
  · intro H2
    dsimp only [List.take]
    simp only [Bool.and_eq_true, Bool.or_eq_true, Bool.not_eq_true', Bool.not_eq_false', Bool.and_eq_false_iff, Bool.or_eq_false_iff, Bool.not_not, decide_eq_true_eq, decide_eq_false_iff_not, ne_eq, Decidable.not_not, Bool.decide_eq_true] at H2
    refine Gn ?_
    refine Gn ?_
    refine Gn ?_
    refine Gv (V_pick_f rfl rfl rfl) ?_
    refine G_end ?_
    exact JQ_end 4 rfl rfl (by kernel_rfl)
  dsimp only [List.drop]
  refine Gm ?_
  apply G_joinAnd 7 16 23 rfl
  · intro H3
    dsimp only [List.take]
    simp only [Bool.and_eq_true, Bool.or_eq_true, Bool.not_eq_true', Bool.not_eq_false', Bool.and_eq_false_iff, Bool.or_eq_false_iff, Bool.not_not, decide_eq_true_eq, decide_eq_false_iff_not, ne_eq, Decidable.not_not, Bool.decide_eq_true] at H3
    refine Gy (V_fieldAddr rfl rfl (by decide)) ?_
    refine Gy (V_load rfl rfl (Cell.own (.tail _ (.head _)) rfl)) ?_
    refine Gy (V_fieldAddr rfl rfl (by decide)) ?_
    refine Gy (V_load rfl rfl (Cell.own (.tail _ (.head _)) rfl)) ?_
    refine Gy (V_len rfl rfl) ?_
    refine Gy (V_leq rfl rfl rfl) ?_
    refine Gv (V_pick_t rfl rfl rfl) ?_
    refine G_end ?_
    exact JQ_end 7 rfl rfl (by kernel_rfl)
  · intro H4
    dsimp only [List.take]
    simp only [Bool.and_eq_true, Bool.or_eq_true, Bool.not_eq_true', Bool.not_eq_false', Bool.and_eq_false_iff, Bool.or_eq_false_iff, Bool.not_not, decide_eq_true_eq, decide_eq_false_iff_not, ne_eq, Decidable.not_not, Bool.decide_eq_true] at H4
    refine Gn ?_
    refine Gn ?_
    refine Gn ?_
    refine Gn ?_
    refine Gn ?_
    refine Gn ?_
    refine Gv (V_pick_f rfl rfl rfl) ?_
    refine G_end ?_
    exact JQ_end 7 rfl rfl (by kernel_rfl)
  dsimp only [List.drop]
  refine Ga ?_
  refine G_end (X_then (G_seq (G_seq (G_region ?_))))
  refine Gv (V_fieldAddr rfl rfl (by decide)) ?_
  refine Gv (V_load rfl rfl (Cell.own (.head _) rfl)) ?_
  refine Gv (V_eql rfl rfl rfl) ?_
  refine G_end (X_then ?_)
  refine G_cond rfl (fun H5 => ?_) (fun H5 => ?_)
  · simp only [Bool.and_eq_true, Bool.or_eq_true, Bool.not_eq_true', Bool.not_eq_false', Bool.and_eq_false_iff, Bool.or_eq_false_iff, Bool.not_not, decide_eq_true_eq, decide_eq_false_iff_not, ne_eq, Decidable.not_not, Bool.decide_eq_true] at H5
    refine G_region ?_
    refine Gm ?_
    refine Gm ?_
    apply G_joinAnd 4 28 32 rfl
    · intro H6
      dsimp only [List.take]
      simp only [Bool.and_eq_true, Bool.or_eq_true, Bool.not_eq_true', Bool.not_eq_false', Bool.and_eq_false_iff, Bool.or_eq_false_iff, Bool.not_not, decide_eq_true_eq, decide_eq_false_iff_not, ne_eq, Decidable.not_not, Bool.decide_eq_true] at H6
      refine Gy (V_fieldAddr rfl rfl (by decide)) ?_
      refine Gy (V_load rfl rfl (Cell.own (.head _) rfl)) ?_
      refine Gy (V_eql rfl rfl rfl) ?_
      refine Gv (V_pick_t rfl rfl rfl) ?_
      refine G_end ?_
      exact JQ_end 4 rfl rfl (by kernel_rfl)
    · intro H7
      dsimp only [List.take]
      simp only [Bool.and_eq_true, Bool.or_eq_true, Bool.not_eq_true', Bool.not_eq_false', Bool.and_eq_false_iff, Bool.or_eq_false_iff, Bool.not_not, decide_eq_true_eq, decide_eq_false_iff_not, ne_eq, Decidable.not_not, Bool.decide_eq_true] at H7
      refine Gn ?_
      refine Gn ?_
      refine Gn ?_
      refine Gv (V_pick_f rfl rfl rfl) ?_
      refine G_end ?_
      exact JQ_end 4 rfl rfl (by kernel_rfl)
    dsimp only [List.drop]
    refine Ga ?_
    refine G_end (X_then (G_seq (G_seq (G_region ?_))))
    refine Gm ?_
    refine Gv (V_not rfl rfl) ?_
    refine G_end (X_then ?_)
    refine G_cond rfl (fun H8 => ?_) (fun H8 => ?_)
    · simp only [Bool.and_eq_true, Bool.or_eq_true, Bool.not_eq_true', Bool.not_eq_false', Bool.and_eq_false_iff, Bool.or_eq_false_iff, Bool.not_not, decide_eq_true_eq, decide_eq_false_iff_not, ne_eq, Decidable.not_not, Bool.decide_eq_true] at H8
      refine G_region ?_
      refine Gv (V_build rfl rfl (by simp [fillV, setLs, setL, Value.cells]; rfl)) ?_
      refine Gv (V_build rfl rfl (by simp [fillV, setLs, setL, Value.cells]; rfl)) ?_
      refine G_storeA rfl rfl rfl rfl (by simp [Value.oneCell']) rfl (.none rfl) (.tail _ (.head _ _ _)) rfl ?_
      refine G_end (X_then (G_seq (G_region ?_)))
      refine Gv (V_loadA rfl rfl (Cells.own (.tail _ (.head _))) rfl) ?_
      refine Gv (V_build rfl rfl (by simp [fillV, setLs, setL, Value.cells]; rfl)) ?_
      (refine G_boxA rfl rfl rfl rfl (.none rfl) ?_; intro b63)
      refine Ga ?_
      refine G_end (X_then (G_ret ?_))
      refine G_leaveS (.keep _ (.drop _ (.drop _ (.nil _)))) (by exact (.cons (.tmp rfl) (.nil))) rfl ?_ ?_
      · exact (.refl _)
      exact ⟨_, ⟨_, ⟨(by rfl), ⟨(by rfl), ⟨(by rfl), (by (simp (discharger := omega) only [resVal, rbegin, Rdr.ok, if_pos, if_neg]; first | done | rfl))⟩⟩⟩⟩⟩
    simp only [Bool.and_eq_true, Bool.or_eq_true, Bool.not_eq_true', Bool.not_eq_false', Bool.and_eq_false_iff, Bool.or_eq_false_iff, Bool.not_not, decide_eq_true_eq, decide_eq_false_iff_not, ne_eq, Decidable.not_not, Bool.decide_eq_true] at H8
    refine G_skip (X_then (G_seq (G_region ?_)))
    refine Gv (V_loadA rfl rfl (Cells.own (.tail _ (.head _))) rfl) ?_
    refine Gv (V_build rfl rfl (by simp [fillV, setLs, setL, Value.cells]; rfl)) ?_
    (refine G_boxA rfl rfl rfl rfl (.none rfl) ?_; intro b63)
    refine Ga ?_
    refine G_end (X_then (G_ret ?_))
    refine G_leaveS (.keep _ (.drop _ (.drop _ (.nil _)))) (by exact (.cons (.tmp rfl) (.nil))) rfl ?_ ?_
    · exact (.refl _)
    exact ⟨_, ⟨_, ⟨(by rfl), ⟨(by rfl), ⟨(by rfl), (by (simp (discharger := omega) only [resVal, rbegin, Rdr.ok, if_pos, if_neg]; first | done | rfl))⟩⟩⟩⟩⟩
  simp only [Bool.and_eq_true, Bool.or_eq_true, Bool.not_eq_true', Bool.not_eq_false', Bool.and_eq_false_iff, Bool.or_eq_false_iff, Bool.not_not, decide_eq_true_eq, decide_eq_false_iff_not, ne_eq, Decidable.not_not, Bool.decide_eq_true] at H5
  refine G_region ?_
  refine Gm ?_
  refine Gm ?_
  apply G_joinAnd 4 34 38 rfl
  · intro H9
    dsimp only [List.take]
    simp only [Bool.and_eq_true, Bool.or_eq_true, Bool.not_eq_true', Bool.not_eq_false', Bool.and_eq_false_iff, Bool.or_eq_false_iff, Bool.not_not, decide_eq_true_eq, decide_eq_false_iff_not, ne_eq, Decidable.not_not, Bool.decide_eq_true] at H9
    refine Gy (V_fieldAddr rfl rfl (by decide)) ?_
    refine Gy (V_load rfl rfl (Cell.own (.head _) rfl)) ?_
    refine Gy (V_geq rfl rfl rfl) ?_
    refine Gv (V_pick_t rfl rfl rfl) ?_
    refine G_end ?_
    exact JQ_end 4 rfl rfl (by kernel_rfl)
  · intro H10
    dsimp only [List.take]
    simp only [Bool.and_eq_true, Bool.or_eq_true, Bool.not_eq_true', Bool.not_eq_false', Bool.and_eq_false_iff, Bool.or_eq_false_iff, Bool.not_not, decide_eq_true_eq, decide_eq_false_iff_not, ne_eq, Decidable.not_not, Bool.decide_eq_true] at H10
    refine Gn ?_
    refine Gn ?_
    refine Gn ?_
    refine Gv (V_pick_f rfl rfl rfl) ?_
    refine G_end ?_
    exact JQ_end 4 rfl rfl (by kernel_rfl)
  dsimp only [List.drop]
  refine Gm ?_
  apply G_joinAnd 4 39 43 rfl
  · intro H11
    dsimp only [List.take]
    simp only [Bool.and_eq_true, Bool.or_eq_true, Bool.not_eq_true', Bool.not_eq_false', Bool.and_eq_false_iff, Bool.or_eq_false_iff, Bool.not_not, decide_eq_true_eq, decide_eq_false_iff_not, ne_eq, Decidable.not_not, Bool.decide_eq_true] at H11
    refine Gy (V_fieldAddr rfl rfl (by decide)) ?_
    refine Gy (V_load rfl rfl (Cell.own (.head _) rfl)) ?_
    refine Gy (V_leq rfl rfl rfl) ?_
    refine Gv (V_pick_t rfl rfl rfl) ?_
    refine G_end ?_
    exact JQ_end 4 rfl rfl (by kernel_rfl)
  · intro H12
    dsimp only [List.take]
    simp only [Bool.and_eq_true, Bool.or_eq_true, Bool.not_eq_true', Bool.not_eq_false', Bool.and_eq_false_iff, Bool.or_eq_false_iff, Bool.not_not, decide_eq_true_eq, decide_eq_false_iff_not, ne_eq, Decidable.not_not, Bool.decide_eq_true] at H12
    refine Gn ?_
    refine Gn ?_
    refine Gn ?_
    refine Gv (V_pick_f rfl rfl rfl) ?_
    refine G_end ?_
    exact JQ_end 4 rfl rfl (by kernel_rfl)
  dsimp only [List.drop]
  refine Gm ?_
  apply G_joinAnd 4 44 48 rfl
  · intro H13
    dsimp only [List.take]
    simp only [Bool.and_eq_true, Bool.or_eq_true, Bool.not_eq_true', Bool.not_eq_false', Bool.and_eq_false_iff, Bool.or_eq_false_iff, Bool.not_not, decide_eq_true_eq, decide_eq_false_iff_not, ne_eq, Decidable.not_not, Bool.decide_eq_true] at H13
    refine Gy (V_fieldAddr rfl rfl (by decide)) ?_
    refine Gy (V_load rfl rfl (Cell.own (.head _) rfl)) ?_
    refine Gy (V_geq rfl rfl rfl) ?_
    refine Gv (V_pick_t rfl rfl rfl) ?_
    refine G_end ?_
    exact JQ_end 4 rfl rfl (by kernel_rfl)
  · intro H14
    dsimp only [List.take]
    simp only [Bool.and_eq_true, Bool.or_eq_true, Bool.not_eq_true', Bool.not_eq_false', Bool.and_eq_false_iff, Bool.or_eq_false_iff, Bool.not_not, decide_eq_true_eq, decide_eq_false_iff_not, ne_eq, Decidable.not_not, Bool.decide_eq_true] at H14
    refine Gn ?_
    refine Gn ?_
    refine Gn ?_
    refine Gv (V_pick_f rfl rfl rfl) ?_
    refine G_end ?_
    exact JQ_end 4 rfl rfl (by kernel_rfl)
  dsimp only [List.drop]
  refine Gm ?_
  apply G_joinAnd 7 49 56 rfl
  · intro H15
    dsimp only [List.take]
    simp only [Bool.and_eq_true, Bool.or_eq_true, Bool.not_eq_true', Bool.not_eq_false', Bool.and_eq_false_iff, Bool.or_eq_false_iff, Bool.not_not, decide_eq_true_eq, decide_eq_false_iff_not, ne_eq, Decidable.not_not, Bool.decide_eq_true] at H15
    refine Gy (V_fieldAddr rfl rfl (by decide)) ?_
    refine Gy (V_load rfl rfl (Cell.own (.head _) rfl)) ?_
    refine Gy (V_fieldAddr rfl rfl (by decide)) ?_
    refine Gy (V_load rfl rfl (Cell.own (.tail _ (.head _)) rfl)) ?_
    refine Gy (V_len rfl rfl) ?_
    refine Gy (V_leq rfl rfl rfl) ?_
    refine Gv (V_pick_t rfl rfl rfl) ?_
    refine G_end ?_
    exact JQ_end 7 rfl rfl (by kernel_rfl)
  · intro H16
    dsimp only [List.take]
    simp only [Bool.and_eq_true, Bool.or_eq_true, Bool.not_eq_true', Bool.not_eq_false', Bool.and_eq_false_iff, Bool.or_eq_false_iff, Bool.not_not, decide_eq_true_eq, decide_eq_false_iff_not, ne_eq, Decidable.not_not, Bool.decide_eq_true] at H16
    refine Gn ?_
    refine Gn ?_
    refine Gn ?_
    refine Gn ?_
    refine Gn ?_
    refine Gn ?_
    refine Gv (V_pick_f rfl rfl rfl) ?_
    refine G_end ?_
    exact JQ_end 7 rfl rfl (by kernel_rfl)
  dsimp only [List.drop]
  refine Ga ?_
  refine G_end (X_then (G_seq (G_seq (G_region ?_))))
  refine Gm ?_
  refine Gv (V_not rfl rfl) ?_
  refine G_end (X_then ?_)
  refine G_cond rfl (fun H17 => ?_) (fun H17 => ?_)
  · simp only [Bool.and_eq_true, Bool.or_eq_true, Bool.not_eq_true', Bool.not_eq_false', Bool.and_eq_false_iff, Bool.or_eq_false_iff, Bool.not_not, decide_eq_true_eq, decide_eq_false_iff_not, ne_eq, Decidable.not_not, Bool.decide_eq_true] at H17
    refine G_region ?_
    refine Gv (V_build rfl rfl (by simp [fillV, setLs, setL, Value.cells]; rfl)) ?_
    refine Gv (V_build rfl rfl (by simp [fillV, setLs, setL, Value.cells]; rfl)) ?_
    refine G_storeA rfl rfl rfl rfl (by simp [Value.oneCell']) rfl (.none rfl) (.tail _ (.head _ _ _)) rfl ?_
    refine G_end (X_then (G_seq (G_region ?_)))
    refine Gv (V_loadA rfl rfl (Cells.own (.tail _ (.head _))) rfl) ?_
    refine Gv (V_build rfl rfl (by simp [fillV, setLs, setL, Value.cells]; rfl)) ?_
    (refine G_boxA rfl rfl rfl rfl (.none rfl) ?_; intro b63)
    refine Ga ?_
    refine G_end (X_then (G_ret ?_))
    refine G_leaveS (.keep _ (.drop _ (.drop _ (.nil _)))) (by exact (.cons (.tmp rfl) (.nil))) rfl ?_ ?_
    · exact (.refl _)
    exact ⟨_, ⟨_, ⟨(by rfl), ⟨(by rfl), ⟨(by rfl), (by (simp (discharger := omega) only [resVal, rbegin, Rdr.ok, if_pos, if_neg]; first | done | rfl))⟩⟩⟩⟩⟩
  simp only [Bool.and_eq_true, Bool.or_eq_true, Bool.not_eq_true', Bool.not_eq_false', Bool.and_eq_false_iff, Bool.or_eq_false_iff, Bool.not_not, decide_eq_true_eq, decide_eq_false_iff_not, ne_eq, Decidable.not_not, Bool.decide_eq_true] at H17
  refine G_skip (X_then (G_seq (G_region ?_)))
  refine Gv (V_loadA rfl rfl (Cells.own (.tail _ (.head _))) rfl) ?_
  refine Gv (V_build rfl rfl (by simp [fillV, setLs, setL, Value.cells]; rfl)) ?_
  (refine G_boxA rfl rfl rfl rfl (.none rfl) ?_; intro b63)
  refine Ga ?_
  refine G_end (X_then (G_ret ?_))
  refine G_leaveS (.keep _ (.drop _ (.drop _ (.nil _)))) (by exact (.cons (.tmp rfl) (.nil))) rfl ?_ ?_
  · exact (.refl _)
  exact ⟨_, ⟨_, ⟨(by rfl), ⟨(by rfl), ⟨(by rfl), (by (simp (discharger := omega) only [resVal, rbegin, Rdr.ok, if_pos, if_neg]; first | done | rfl))⟩⟩⟩⟩⟩

/-- A reader in memory. -/
abbrev RB (b : Nat) (q : Rdr) : Res := .blk b (.cells #[.string (S q.s), .int .i64 q.at', .int .i64 q.e, .int .i64 q.fa] 114 (0, 0))
abbrev IB (b : Nat) (n : Int) : Res := .blk b (.cells #[.int .i64 n] 3 (0, 0))

theorem fails_call (E : Env) (L : List Res) (b : Nat) (q : Rdr) (e a : Int) :
    CallS Tryz.prog 100 #[.pointer (some ⟨b, 0, none⟩), .int .i64 e, .int .i64 a] E (RB b q :: L) (fun r E' L' => r = .tuple #[] ∧ E = E' ∧ L' = RB b ⟨q.s, q.at', e, a⟩ :: L) := by
  refine CallS.intro (l := [.pointer (some ⟨b, 0, none⟩), .int .i64 e, .int .i64 a]) _ Tryz.func100 rfl Tryz.ntmps100 rfl ?_
  refine G_region ?_
  refine Gm ?_
  refine Gm ?_
  refine Gm ?_
  refine Gv (V_build rfl rfl (by simp [fillV, setLs, setL, Value.cells]; rfl)) ?_
  refine Gv (V_nilCheck rfl rfl) ?_
  refine Gv (V_fieldAddr rfl rfl (by decide)) ?_
  refine Gv (V_fieldAddr rfl rfl (by decide)) ?_
  refine G_storeF rfl rfl rfl rfl (by simp [Value.oneCell']) rfl (.none rfl) (.head _ _ _) (Nat.le_of_ble_eq_true rfl) (by simp only [putAll, Nat.zero_add, Nat.reduceAdd, List.setIfInBounds_toArray, List.set_cons_succ, List.set_cons_zero]; rfl) ?_
  refine G_end ?_
  refine G_leaveS_n (.keep _ (.nil _)) (by exact (.nil)) rfl ?_ ?_
  · exact (.refl _)
  exact ⟨(by kernel_rfl), ⟨rfl, rfl⟩⟩

/-- A number is read: the reader afterwards, the number. -/
def rwide (q : Rdr) : Rdr × Nat := if (vread q.s q.at').2.2.1 = 0 then (⟨q.s, (vread q.s q.at').2.1, q.e, q.fa⟩, (vread q.s q.at').1) else (⟨q.s, q.at', (vread q.s q.at').2.2.1, (vread q.s q.at').2.2.2⟩, 0)

theorem wide_call (E : Env) (L : List Res) (b : Nat) (q : Rdr) (hq : q.s.length ≤ 1000000000000) :
    CallS Tryz.prog 101 #[.pointer (some ⟨b, 0, none⟩)] E (RB b q :: L) (fun r E' L' => r = .int .u64 (rwide q).2 ∧ E = E' ∧ L' = RB b (rwide q).1 :: L) := by
  refine CallS.intro (l := [.pointer (some ⟨b, 0, none⟩)]) _ Tryz.func101 rfl Tryz.ntmps101 rfl ?_
  refine G_seq (G_region ?_)
  refine Ga ?_
  refine G_end (X_then (G_seq ?_))
  refine G_drawX 18 [(0, 0), (1, 0), (2, 0), (3, 0), (4, 1), (5, 0), (6, 0), (7, 0), (8, 0), (9, 1), (10, 3), (11, 0), (12, 0), (13, 0), (14, 0), (15, 2), (16, 0), (17, 0)] mixed (by kernel_rfl) ?_
  refine F_pure rfl (fun _ _ => V_move rfl rfl) rfl rfl (.none rfl) ?_
  refine F_pure rfl (fun _ _ => V_nilCheck rfl rfl) rfl rfl (.none rfl) ?_
  refine F_pure rfl (fun _ _ => V_fieldAddr rfl rfl (by decide)) rfl rfl (.none rfl) ?_
  refine F_pure rfl (fun _ _ => V_fieldAddr rfl rfl (by decide)) rfl rfl (.none rfl) ?_
  refine F_load rfl (.head _) (V_load rfl rfl (Cell.own (.head _) rfl)) rfl rfl (.none rfl) ?_
  refine F_pure rfl (fun _ _ => V_move rfl rfl) rfl rfl (.none rfl) ?_
  refine F_pure rfl (fun _ _ => V_nilCheck rfl rfl) rfl rfl (.none rfl) ?_
  refine F_pure rfl (fun _ _ => V_fieldAddr rfl rfl (by decide)) rfl rfl (.none rfl) ?_
  refine F_pure rfl (fun _ _ => V_fieldAddr rfl rfl (by decide)) rfl rfl (.none rfl) ?_
  refine F_load rfl (.head _) (V_load rfl rfl (Cell.own (.head _) rfl)) rfl rfl (.none rfl) ?_
  refine F_callv (k := 125) rfl (.mk rfl rfl rfl rfl) rfl rfl (.none rfl) (fun _ => Read_call _ _ _ (by assumption) _) ?_
  dsimp only [Go.Proofs.YtjhehanknkonnaaGreatDoor.rdV]
  refine F_pure rfl (fun _ _ => V_move rfl rfl) rfl rfl (.none rfl) ?_
  refine F_pure rfl (fun _ _ => V_extract rfl rfl rfl) rfl rfl (.none rfl) ?_
  refine F_pure rfl (fun _ _ => V_extract rfl rfl rfl) rfl rfl (.none rfl) ?_
  refine F_pure rfl (fun _ _ => V_extract rfl rfl rfl) rfl rfl (.none rfl) ?_
  (refine F_alloc rfl rfl rfl rfl (.none rfl) ?_; intro b5)
  refine F_pure rfl (fun _ _ => V_assign rfl rfl) rfl rfl (.none rfl) ?_
  refine F_pure rfl (fun _ _ => V_assign rfl rfl) rfl rfl (.none rfl) ?_
  (refine F_end (.nil _) ?_; dsimp only [List.drop])
  refine G_storeA rfl rfl rfl rfl (by simp [Value.oneCell']) rfl (.none rfl) (.head _ _ _) rfl ?_
  refine G_end (X_then (G_seq (G_seq (G_region ?_))))
  refine Gv (V_fieldAddr rfl rfl (by decide)) ?_
  refine Gv (V_load rfl rfl (Cell.own (.head _) rfl)) ?_
  refine Gv (V_neq rfl rfl rfl) ?_
  refine G_end (X_then ?_)
  refine G_cond rfl (fun H1 => ?_) (fun H1 => ?_)
  · simp only [Bool.and_eq_true, Bool.or_eq_true, Bool.not_eq_true', Bool.not_eq_false', Bool.and_eq_false_iff, Bool.or_eq_false_iff, Bool.not_not, decide_eq_true_eq, decide_eq_false_iff_not, ne_eq, Decidable.not_not, Bool.decide_eq_true] at H1
    refine G_seq (G_region ?_)
    refine Gm ?_
    refine Gv (V_loadA rfl rfl (Cells.own (.head _)) rfl) ?_
    refine Gv (V_nilCheck rfl rfl) ?_
    refine Gv (V_fieldAddr rfl rfl (by decide)) ?_
    refine Gv (V_fieldAddr rfl rfl (by decide)) ?_
    refine G_storeF rfl rfl rfl rfl (by simp [Value.oneCell']) rfl (.none rfl) (.tail _ (.head _ _ _)) (Nat.le_of_ble_eq_true rfl) (by simp only [putAll, Nat.zero_add, Nat.reduceAdd, List.setIfInBounds_toArray, List.set_cons_succ, List.set_cons_zero]; rfl) ?_
    refine G_end (X_then (G_seq (G_region ?_)))
    refine Ga ?_
    refine G_end (X_then (G_ret (X_then_ret ?_)))
    refine G_leaveS (.drop _ (.keep _ (.nil _))) (by exact (.cons (.tmp rfl) (.nil))) rfl ?_ ?_
    · exact (.refl _)
    exact ⟨(by (simp (discharger := omega) only [resVal, rwide, if_pos, if_neg]; first | done | rfl)), ⟨(by rfl), (by (simp (discharger := omega) only [resVal, rwide, if_pos, if_neg]; first | done | rfl))⟩⟩
  simp only [Bool.and_eq_true, Bool.or_eq_true, Bool.not_eq_true', Bool.not_eq_false', Bool.and_eq_false_iff, Bool.or_eq_false_iff, Bool.not_not, decide_eq_true_eq, decide_eq_false_iff_not, ne_eq, Decidable.not_not, Bool.decide_eq_true] at H1
  refine G_skip (X_then (G_seq (G_region ?_)))
  refine Gm ?_
  refine Gm ?_
  refine Gv (V_nilCheck rfl rfl) ?_
  refine Gv (V_fieldAddr rfl rfl (by decide)) ?_
  refine Gv (V_fieldAddr rfl rfl (by decide)) ?_
  refine G_storeAt rfl rfl rfl rfl rfl rfl (.none rfl) (.tail _ (.head _ _ _)) (Nat.le_of_ble_eq_true rfl) (by simp only [putAll, Nat.zero_add, Nat.reduceAdd, List.setIfInBounds_toArray, List.set_cons_succ, List.set_cons_zero]; rfl) ?_
  refine G_end (X_then (G_seq (G_region ?_)))
  refine Gm ?_
  refine Ga ?_
  refine G_end (X_then (G_ret ?_))
  refine G_leaveS (.drop _ (.keep _ (.nil _))) (by exact (.cons (.tmp rfl) (.nil))) rfl ?_ ?_
  · exact (.refl _)
  exact ⟨(by (simp (discharger := omega) only [resVal, rwide, if_pos, if_neg]; first | done | rfl)), ⟨(by rfl), (by (simp (discharger := omega) only [resVal, rwide, if_pos, if_neg]; first | done | rfl))⟩⟩

def rtake (q : Rdr) (n : Int) : Rdr × List UInt8 := if (q.s.length : Int) - q.at' < n then (⟨q.s, q.at', 5, q.at'⟩, []) else (⟨q.s, q.at' + n, q.e, q.fa⟩, (q.s.take (q.at' + n).toNat).drop q.at'.toNat)
theorem take_call (E : Env) (L : List Res) (b : Nat) (q : Rdr) (hq : q.s.length ≤ 1000000000000) (h0 : 0 ≤ q.at') (h1 : q.at' ≤ q.s.length) (n : Int) (hn : 0 ≤ n) :
    CallS Tryz.prog 103 #[.pointer (some ⟨b, 0, none⟩), .int .i64 n] E (RB b q :: L) (fun r E' L' => r = .string (S (rtake q n).2) ∧ E = E' ∧ L' = RB b (rtake q n).1 :: L) := by
  refine CallS.intro (l := [.pointer (some ⟨b, 0, none⟩), .int .i64 n]) _ Tryz.func103 rfl Tryz.ntmps103 rfl ?_
  refine G_seq (G_region ?_)
  refine Ga ?_
  refine G_end (X_then (G_seq (G_seq ?_)))
  refine G_draw mixed (by kernel_rfl) ?_
  refine Q_val (V_move rfl rfl) rfl rfl (.none rfl) ?_
  refine Q_val (V_move rfl rfl) rfl rfl (.none rfl) ?_
  refine Q_val (V_nilCheck rfl rfl) rfl rfl (.none rfl) ?_
  refine Q_val (V_fieldAddr rfl rfl (by decide)) rfl rfl (.none rfl) ?_
  refine Q_val (V_fieldAddr rfl rfl (by decide)) rfl rfl (.none rfl) ?_
  refine Q_val (V_load rfl rfl (Cell.own (.head _) rfl)) rfl rfl (.none rfl) ?_
  refine Q_val (V_len rfl rfl) rfl rfl (.none rfl) ?_
  refine Q_val (V_move rfl rfl) rfl rfl (.none rfl) ?_
  refine Q_val (V_nilCheck rfl rfl) rfl rfl (.none rfl) ?_
  refine Q_val (V_fieldAddr rfl rfl (by decide)) rfl rfl (.none rfl) ?_
  refine Q_val (V_fieldAddr rfl rfl (by decide)) rfl rfl (.none rfl) ?_
  refine Q_val (V_load rfl rfl (Cell.own (.head _) rfl)) rfl rfl (.none rfl) ?_
  refine Q_val (V_sub_i64 rfl rfl rfl (by omega) (by omega)) rfl rfl (.none rfl) ?_
  refine Q_val (V_gtr rfl rfl rfl) rfl rfl (.none rfl) ?_
  refine Q_end ?_
  refine X_then ?_
  refine G_cond rfl (fun H1 => ?_) (fun H1 => ?_)
  · simp only [Bool.and_eq_true, Bool.or_eq_true, Bool.not_eq_true', Bool.not_eq_false', Bool.and_eq_false_iff, Bool.or_eq_false_iff, Bool.not_not, decide_eq_true_eq, decide_eq_false_iff_not, ne_eq, Decidable.not_not, Bool.decide_eq_true] at H1
    refine G_seq (G_region ?_)
    refine Gm ?_
    refine Gm ?_
    refine Gv (V_nilCheck rfl rfl) ?_
    refine Gv (V_fieldAddr rfl rfl (by decide)) ?_
    refine Gv (V_fieldAddr rfl rfl (by decide)) ?_
    refine Gv (V_load rfl rfl (Cell.own (.head _) rfl)) ?_
    refine G_call (k := 100) (.mk rfl rfl rfl rfl) rfl rfl (.none rfl) (fails_call _ _ _ _ _ _) ?_
    rintro r2 E3 L4 hE5 ⟨rfl, ⟨rfl, rfl⟩⟩
    refine G_end (X_then (G_seq (G_region ?_)))
    refine Ga ?_
    refine G_end (X_then (G_ret (X_then_ret ?_)))
    refine G_leaveS (.keep _ (.nil _)) (by exact (.cons (.tmp rfl) (.nil))) rfl ?_ ?_
    · exact (.refl _)
    exact ⟨(by (simp (discharger := omega) only [resVal, rtake, if_pos, if_neg]; first | done | rfl)), ⟨(by rfl), (by (simp (discharger := omega) only [resVal, rtake, if_pos, if_neg]; first | done | rfl))⟩⟩
  simp only [Bool.and_eq_true, Bool.or_eq_true, Bool.not_eq_true', Bool.not_eq_false', Bool.and_eq_false_iff, Bool.or_eq_false_iff, Bool.not_not, decide_eq_true_eq, decide_eq_false_iff_not, ne_eq, Decidable.not_not, Bool.decide_eq_true] at H1
  refine G_skip (X_then (G_seq (G_region ?_)))
  refine Gm ?_
  refine Gv (V_nilCheck rfl rfl) ?_
  refine Gv (V_fieldAddr rfl rfl (by decide)) ?_
  refine Gv (V_fieldAddr rfl rfl (by decide)) ?_
  refine Gv (V_load rfl rfl (Cell.own (.head _) rfl)) ?_
  refine Gm ?_
  refine Gv (V_add_i64 rfl rfl rfl (by omega) (by omega)) ?_
  refine Gv (V_nilCheck rfl rfl) ?_
  refine Gv (V_fieldAddr rfl rfl (by decide)) ?_
  refine Gv (V_fieldAddr rfl rfl (by decide)) ?_
  refine G_storeAt rfl rfl rfl rfl rfl rfl (.none rfl) (.head _ _ _) (Nat.le_of_ble_eq_true rfl) (by simp only [putAll, Nat.zero_add, Nat.reduceAdd, List.setIfInBounds_toArray, List.set_cons_succ, List.set_cons_zero]; rfl) ?_
  refine G_end (X_then (G_seq ?_))
  refine G_draw mixed (by kernel_rfl) ?_
  refine Q_val (V_move rfl rfl) rfl rfl (.none rfl) ?_
  refine Q_val (V_nilCheck rfl rfl) rfl rfl (.none rfl) ?_
  refine Q_val (V_fieldAddr rfl rfl (by decide)) rfl rfl (.none rfl) ?_
  refine Q_val (V_fieldAddr rfl rfl (by decide)) rfl rfl (.none rfl) ?_
  refine Q_val (V_load rfl rfl (Cell.own (.head _) rfl)) rfl rfl (.none rfl) ?_
  refine Q_val (V_move rfl rfl) rfl rfl (.none rfl) ?_
  refine Q_val (V_nilCheck rfl rfl) rfl rfl (.none rfl) ?_
  refine Q_val (V_fieldAddr rfl rfl (by decide)) rfl rfl (.none rfl) ?_
  refine Q_val (V_fieldAddr rfl rfl (by decide)) rfl rfl (.none rfl) ?_
  refine Q_val (V_load rfl rfl (Cell.own (.head _) rfl)) rfl rfl (.none rfl) ?_
  refine Q_val (V_move rfl rfl) rfl rfl (.none rfl) ?_
  refine Q_val (V_sub_i64 rfl rfl rfl (by omega) (by omega)) rfl rfl (.none rfl) ?_
  refine Q_val (V_move rfl rfl) rfl rfl (.none rfl) ?_
  refine Q_val (V_nilCheck rfl rfl) rfl rfl (.none rfl) ?_
  refine Q_val (V_fieldAddr rfl rfl (by decide)) rfl rfl (.none rfl) ?_
  refine Q_val (V_fieldAddr rfl rfl (by decide)) rfl rfl (.none rfl) ?_
  refine Q_val (V_load rfl rfl (Cell.own (.head _) rfl)) rfl rfl (.none rfl) ?_
  refine Q_val (V_cut rfl rfl rfl rfl (by omega) (by omega) (by omega)) rfl rfl (.none rfl) ?_
  refine Q_val (V_assign rfl rfl) rfl rfl (.none rfl) ?_
  refine Q_end ?_
  refine X_then (G_ret ?_)
  refine G_leaveS (.keep _ (.nil _)) (by exact (.cons (.tmp rfl) (.nil))) rfl ?_ ?_
  · exact (.refl _)
  exact ⟨(by (simp [resVal, rtake, *]; done)), ⟨(by rfl), (by (simp (discharger := omega) only [resVal, rtake, if_pos, if_neg]; first | done | rfl))⟩⟩
end Go.Proofs.YtjhehanknkonnaaGreatDoor
set_option linter.unusedSimpArgs false
set_option linter.unusedVariables false
set_option maxHeartbeats 2000000
set_option maxRecDepth 20000
namespace Go.Proofs.YtjhehanknkonnaaGreatDoor
open Go.RowKit

/-- A writer: what it has written, how much it may, its error. -/
structure Wrt where
  s : List UInt8
  most : Int
  e : Int
@[reducible] def Wrt.v (q : Wrt) : Value := .agg #[.string (S q.s), .int .i64 q.most, .int .i64 q.e]
abbrev Wrt.ok (q : Wrt) : Prop := 0 ≤ q.most ∧ q.most ≤ 20000 ∧ q.s.length ≤ q.most ∧ 0 ≤ q.e ∧ q.e ≤ 31
def wstart (q : Wrt) : Wrt := if q.ok then q else ⟨[], 0, 10⟩
theorem wstart_ok (q : Wrt) : (wstart q).ok := by
  unfold wstart
  split
  · assumption
  · simp [Wrt.ok]
abbrev WB (b : Nat) (q : Wrt) : Res := .blk b (.cells #[.string (S q.s), .int .i64 q.most, .int .i64 q.e] 104 (0, 0))

theorem start_call (E : Env) (L : List Res) (s : List UInt8) (hs : s.length ≤ 1000000000000) (m e : Int) :
    CallS Tryz.prog 78 #[.agg #[.string (S s), .int .i64 m, .int .i64 e]] E L (fun r E' L' => ∃ b, r = .pointer (some ⟨b, 0, none⟩) ∧ E = E' ∧ L' = WB b (wstart ⟨s, m, e⟩) :: L) := by
  refine CallS.intro (l := [.agg #[.string (S s), .int .i64 m, .int .i64 e]]) _ Tryz.func78 rfl Tryz.ntmps78 rfl ?_
  refine G_seq (G_region ?_)
  (refine G_boxA rfl rfl rfl rfl (.none rfl) ?_; intro b1)
  refine Ga ?_
  refine G_end (X_then (G_seq (G_seq (G_region ?_))))
  refine Gv (V_fieldAddr rfl rfl (by decide)) ?_
  refine Gv (V_load rfl rfl (Cell.own (.head _) rfl)) ?_
  refine Gv (V_lss rfl rfl rfl) ?_
  refine Gm ?_
  apply G_joinOr 4 6 10 rfl
  · intro H1
    dsimp only [List.take]
    simp only [Bool.and_eq_true, Bool.or_eq_true, Bool.not_eq_true', Bool.not_eq_false', Bool.and_eq_false_iff, Bool.or_eq_false_iff, Bool.not_not, decide_eq_true_eq, decide_eq_false_iff_not, ne_eq, Decidable.not_not, Bool.decide_eq_true] at H1
    refine Gn ?_
    refine Gn ?_
    refine Gn ?_
    refine Gv (V_pick_t rfl rfl rfl) ?_
    refine G_end ?_
    exact JQ_end 4 rfl rfl (by kernel_rfl)
  · intro H2
    dsimp only [List.take]
    simp only [Bool.and_eq_true, Bool.or_eq_true, Bool.not_eq_true', Bool.not_eq_false', Bool.and_eq_false_iff, Bool.or_eq_false_iff, Bool.not_not, decide_eq_true_eq, decide_eq_false_iff_not, ne_eq, Decidable.not_not, Bool.decide_eq_true] at H2
    refine Gy (V_fieldAddr rfl rfl (by decide)) ?_
    refine Gy (V_load rfl rfl (Cell.own (.head _) rfl)) ?_
    refine Gy (V_gtr rfl rfl rfl) ?_
    refine Gv (V_pick_f rfl rfl rfl) ?_
    refine G_end ?_
    exact JQ_end 4 rfl rfl (by kernel_rfl)
  dsimp only [List.drop]
  refine Gm ?_
  apply G_joinOr 7 11 18 rfl
  · intro H3
    dsimp only [List.take]
    simp only [Bool.and_eq_true, Bool.or_eq_true, Bool.not_eq_true', Bool.not_eq_false', Bool.and_eq_false_iff, Bool.or_eq_false_iff, Bool.not_not, decide_eq_true_eq, decide_eq_false_iff_not, ne_eq, Decidable.not_not, Bool.decide_eq_true] at H3
    refine Gn ?_
    refine Gn ?_
    refine Gn ?_
    refine Gn ?_
    refine Gn ?_
    refine Gn ?_
    refine Gv (V_pick_t rfl rfl rfl) ?_
    refine G_end ?_
    exact JQ_end 7 rfl rfl (by kernel_rfl)
  · intro H4
    dsimp only [List.take]
    simp only [Bool.and_eq_true, Bool.or_eq_true, Bool.not_eq_true', Bool.not_eq_false', Bool.and_eq_false_iff, Bool.or_eq_false_iff, Bool.not_not, decide_eq_true_eq, decide_eq_false_iff_not, ne_eq, Decidable.not_not, Bool.decide_eq_true] at H4
    refine Gy (V_fieldAddr rfl rfl (by decide)) ?_
    refine Gy (V_load rfl rfl (Cell.own (.head _) rfl)) ?_
    refine Gy (V_len rfl rfl) ?_
    refine Gy (V_fieldAddr rfl rfl (by decide)) ?_
    refine Gy (V_load rfl rfl (Cell.own (.head _) rfl)) ?_
    refine Gy (V_gtr rfl rfl rfl) ?_
    refine Gv (V_pick_f rfl rfl rfl) ?_
    refine G_end ?_
    exact JQ_end 7 rfl rfl (by kernel_rfl)
  dsimp only [List.drop]
  refine Gm ?_
  apply G_joinOr 4 19 23 rfl
  · intro H5
    dsimp only [List.take]
    simp only [Bool.and_eq_true, Bool.or_eq_true, Bool.not_eq_true', Bool.not_eq_false', Bool.and_eq_false_iff, Bool.or_eq_false_iff, Bool.not_not, decide_eq_true_eq, decide_eq_false_iff_not, ne_eq, Decidable.not_not, Bool.decide_eq_true] at H5
    refine Gn ?_
    refine Gn ?_
    refine Gn ?_
    refine Gv (V_pick_t rfl rfl rfl) ?_
    refine G_end ?_
    exact JQ_end 4 rfl rfl (by kernel_rfl)
  · intro H6
    dsimp only [List.take]
    simp only [Bool.and_eq_true, Bool.or_eq_true, Bool.not_eq_true', Bool.not_eq_false', Bool.and_eq_false_iff, Bool.or_eq_false_iff, Bool.not_not, decide_eq_true_eq, decide_eq_false_iff_not, ne_eq, Decidable.not_not, Bool.decide_eq_true] at H6
    refine Gy (V_fieldAddr rfl rfl (by decide)) ?_
    refine Gy (V_load rfl rfl (Cell.own (.head _) rfl)) ?_
    refine Gy (V_lss rfl rfl rfl) ?_
    refine Gv (V_pick_f rfl rfl rfl) ?_
    refine G_end ?_
    exact JQ_end 4 rfl rfl (by kernel_rfl)
  dsimp only [List.drop]
  refine Gm ?_
  apply G_joinOr 4 24 28 rfl
  · intro H7
    dsimp only [List.take]
    simp only [Bool.and_eq_true, Bool.or_eq_true, Bool.not_eq_true', Bool.not_eq_false', Bool.and_eq_false_iff, Bool.or_eq_false_iff, Bool.not_not, decide_eq_true_eq, decide_eq_false_iff_not, ne_eq, Decidable.not_not, Bool.decide_eq_true] at H7
    refine Gn ?_
    refine Gn ?_
    refine Gn ?_
    refine Gv (V_pick_t rfl rfl rfl) ?_
    refine G_end ?_
    exact JQ_end 4 rfl rfl (by kernel_rfl)
  · intro H8
    dsimp only [List.take]
    simp only [Bool.and_eq_true, Bool.or_eq_true, Bool.not_eq_true', Bool.not_eq_false', Bool.and_eq_false_iff, Bool.or_eq_false_iff, Bool.not_not, decide_eq_true_eq, decide_eq_false_iff_not, ne_eq, Decidable.not_not, Bool.decide_eq_true] at H8
    refine Gy (V_fieldAddr rfl rfl (by decide)) ?_
    refine Gy (V_load rfl rfl (Cell.own (.head _) rfl)) ?_
    refine Gy (V_gtr rfl rfl rfl) ?_
    refine Gv (V_pick_f rfl rfl rfl) ?_
    refine G_end ?_
    exact JQ_end 4 rfl rfl (by kernel_rfl)
  dsimp only [List.drop]
  refine G_end (X_then ?_)
  refine G_cond rfl (fun H9 => ?_) (fun H9 => ?_)
  · simp only [Bool.and_eq_true, Bool.or_eq_true, Bool.not_eq_true', Bool.not_eq_false', Bool.and_eq_false_iff, Bool.or_eq_false_iff, Bool.not_not, decide_eq_true_eq, decide_eq_false_iff_not, ne_eq, Decidable.not_not, Bool.decide_eq_true] at H9
    refine G_region ?_
    refine Gv (V_build rfl rfl (by simp [fillV, setLs, setL, Value.cells]; rfl)) ?_
    refine G_storeA rfl rfl rfl rfl (by simp [Value.oneCell']) rfl (.none rfl) (.head _ _ _) rfl ?_
    refine G_end (X_then (G_seq (G_region ?_)))
    refine Gv (V_loadA rfl rfl (Cells.own (.head _)) rfl) ?_
    refine Gv (V_build rfl rfl (by simp [fillV, setLs, setL, Value.cells]; rfl)) ?_
    (refine G_boxA rfl rfl rfl rfl (.none rfl) ?_; intro b32)
    refine Ga ?_
    refine G_end (X_then (G_ret ?_))
    refine G_leaveS (.keep _ (.drop _ (.nil _))) (by exact (.cons (.tmp rfl) (.nil))) rfl ?_ ?_
    · exact (.refl _)
    exact ⟨_, ⟨(by rfl), ⟨(by rfl), (by (simp (discharger := omega) only [resVal, wstart, Wrt.ok, if_pos, if_neg]; first | done | rfl))⟩⟩⟩
  simp only [Bool.and_eq_true, Bool.or_eq_true, Bool.not_eq_true', Bool.not_eq_false', Bool.and_eq_false_iff, Bool.or_eq_false_iff, Bool.not_not, decide_eq_true_eq, decide_eq_false_iff_not, ne_eq, Decidable.not_not, Bool.decide_eq_true] at H9
  refine G_skip (X_then (G_seq (G_region ?_)))
  refine Gv (V_loadA rfl rfl (Cells.own (.head _)) rfl) ?_
  refine Gv (V_build rfl rfl (by simp [fillV, setLs, setL, Value.cells]; rfl)) ?_
  (refine G_boxA rfl rfl rfl rfl (.none rfl) ?_; intro b32)
  refine Ga ?_
  refine G_end (X_then (G_ret ?_))
  refine G_leaveS (.keep _ (.drop _ (.nil _))) (by exact (.cons (.tmp rfl) (.nil))) rfl ?_ ?_
  · exact (.refl _)
  exact ⟨_, ⟨(by rfl), ⟨(by rfl), (by (simp (discharger := omega) only [resVal, wstart, Wrt.ok, if_pos, if_neg]; first | done | rfl))⟩⟩⟩

/-- Strings are written, all or none. -/
def wput (q : Wrt) (l : List (List UInt8)) : Wrt :=
  if q.e ≠ 0 then q else if q.most - q.s.length < (l.flatten.length : Int) then ⟨q.s, q.most, 4⟩ else ⟨q.s ++ l.flatten, q.most, q.e⟩

theorem flat_take (l : List (List UInt8)) (k : Nat) (h : k < l.length) : (l.take (k + 1)).flatten = (l.take k).flatten ++ l[k] := by
  rw [List.take_succ_eq_append_getElem h, List.flatten_append]; simp
theorem flat_le (l : List (List UInt8)) (k : Nat) : (l.take k).flatten.length ≤ l.flatten.length := by
  conv => rhs; rw [← List.take_append_drop k l, List.flatten_append, List.length_append]
  omega

theorem put_call (E : Env) (L : List Res) (b : Nat) (q : Wrt) (hq : q.ok) (p : Option Addr) (c : Nat) (l : List (List UInt8)) (hl : SlE E 1 p l.length (strs l)) (hn : l.length ≤ 1000000000) (hs : ∀ s, s ∈ l → s.length ≤ 1000000000) :
    CallS Tryz.prog 79 #[.pointer (some ⟨b, 0, none⟩), .slice p l.length c] E (WB b q :: L) (fun r E' L' => r = (wput q l).v ∧ E = E' ∧ L' = WB b (wput q l) :: L) := by
  refine CallS.intro (l := [.pointer (some ⟨b, 0, none⟩), .slice p l.length c]) _ Tryz.func79 rfl Tryz.ntmps79 rfl ?_
  obtain ⟨h1, h2, h3, h4, h5⟩ := hq
  by_cases he : q.e ≠ 0
  · refine G_seq ?_
    refine G_region ?_
    (refine G_alloc rfl rfl rfl (.none rfl) ?_; intro b4)
    refine G_end (X_then (G_seq (G_seq (G_region ?_))))
    refine Gm ?_
    refine Gv (V_nilCheck rfl rfl) ?_
    refine Gv (V_fieldAddr rfl rfl (by decide)) ?_
    refine Gv (V_fieldAddr rfl rfl (by decide)) ?_
    refine Gv (V_load rfl rfl (Cell.own (.tail _ (.head _)) rfl)) ?_
    refine Gv (V_neq rfl rfl rfl) ?_
    refine G_end (X_then ?_)
    refine G_cond_t rfl (decide_eq_true (by omega)) ?_
    refine G_seq (G_region ?_)
    refine Gm ?_
    refine Gv (V_nilCheck rfl rfl) ?_
    refine Gv (V_fieldAddr rfl rfl (by decide)) ?_
    refine Gv (V_loadA rfl rfl (Cells.own (.tail _ (.head _))) rfl) ?_
    refine G_storeA rfl rfl rfl rfl (by simp [Value.oneCell']) rfl (.none rfl) (.head _ _ _) rfl ?_
    refine G_end (X_then (G_ret (X_then_ret ?_)))
    refine G_leaveS (.drop _ (.keep _ (.nil _))) (by exact (.cons (.cellA rfl (Cells.own (.head _)) rfl) (.nil))) rfl ?_ ?_
    · exact (.refl _)
    exact ⟨(by (simp (discharger := omega) only [resVal, wput, if_pos, if_neg]; first | done | rfl)), ⟨(by rfl), (by (simp (discharger := omega) only [resVal, wput, if_pos, if_neg]; first | done | rfl))⟩⟩
  refine G_seq (G_region ?_)
  (refine G_alloc rfl rfl rfl (.none rfl) ?_; intro b4)
  refine G_end (X_then (G_seq (G_seq (G_region ?_))))
  refine Gm ?_
  refine Gv (V_nilCheck rfl rfl) ?_
  refine Gv (V_fieldAddr rfl rfl (by decide)) ?_
  refine Gv (V_fieldAddr rfl rfl (by decide)) ?_
  refine Gv (V_load rfl rfl (Cell.own (.tail _ (.head _)) rfl)) ?_
  refine Gv (V_neq rfl rfl rfl) ?_
  refine G_end (X_then ?_)
  refine G_cond_f rfl (decide_eq_false (by omega)) ?_
  refine G_skip (X_then (G_seq ?_))
  refine G_draw mixed (by kernel_rfl) ?_
  refine Q_val (V_move rfl rfl) rfl rfl (.none rfl) ?_
  refine Q_val (V_nilCheck rfl rfl) rfl rfl (.none rfl) ?_
  refine Q_val (V_fieldAddr rfl rfl (by decide)) rfl rfl (.none rfl) ?_
  refine Q_val (V_fieldAddr rfl rfl (by decide)) rfl rfl (.none rfl) ?_
  refine Q_val (V_load rfl rfl (Cell.own (.tail _ (.head _)) rfl)) rfl rfl (.none rfl) ?_
  refine Q_val (V_move rfl rfl) rfl rfl (.none rfl) ?_
  refine Q_val (V_nilCheck rfl rfl) rfl rfl (.none rfl) ?_
  refine Q_val (V_fieldAddr rfl rfl (by decide)) rfl rfl (.none rfl) ?_
  refine Q_val (V_fieldAddr rfl rfl (by decide)) rfl rfl (.none rfl) ?_
  refine Q_val (V_load rfl rfl (Cell.own (.tail _ (.head _)) rfl)) rfl rfl (.none rfl) ?_
  refine Q_val (V_len rfl rfl) rfl rfl (.none rfl) ?_
  refine Q_val (V_sub_i64 rfl rfl rfl (by omega) (by omega)) rfl rfl (.none rfl) ?_
  refine Q_val (V_assign rfl rfl) rfl rfl (.none rfl) ?_
  refine Q_end ?_
  refine X_then (G_seq (G_seq (G_region ?_)))
  refine Gm ?_
  refine Gv (V_lenS rfl rfl) ?_
  refine Gm ?_
  refine G_end (X_then (G_block ?_))
  refine G_loop (α := Nat) (fun k => [(0, .pointer (some ⟨b, 0, none⟩)), (1, .slice p l.length c), (32, .slice p l.length c), (33, .int .i64 l.length), (34, .int .i64 k), (5, .int .i64 (q.most - q.s.length - (l.take k).flatten.length)), (4, .pointer (some ⟨b4, 0, none⟩))]) (fun _ => E)
    (fun k => .blk b4 (.cells #[.string (S []), .int .i64 0, .int .i64 0] 60 (0, 0)) :: WB b q :: L) (fun k => k ≤ l.length ∧ (l.take k).flatten.length ≤ q.most - q.s.length) (fun k => l.length - k) 0 ⟨Nat.zero_le _, by simp; omega⟩ ⟨rfl, rfl, rfl, rfl, rfl, by simp; rfl, rfl, trivial⟩ rfl rfl ?_
  rintro k ⟨hk, hk2⟩
  by_cases hlt : k < l.length
  · have hx := strs_get (List.getElem?_eq_getElem hlt)
    have h6 := flat_take l k hlt
    have h7 := congrArg List.length h6
    rw [List.length_append] at h7
    have h8 := flat_le l (k + 1)
    have h9 := hs _ (List.getElem_mem hlt)
    by_cases hov : q.most - q.s.length - (l.take k).flatten.length < l[k].length
    · refine G_seq ?_
      refine G_region ?_
      refine Gv (V_lss rfl rfl rfl) ?_
      refine G_end (X_then (G_seq ?_))
      refine G_cond_t rfl (decide_eq_true (by omega)) ?_
      refine G_skip (X_then (G_seq (G_block (G_seq (G_region ?_)))))
      refine Gv (V_idxAddr rfl rfl rfl (SlE.rd (by assumption)) (by omega) (by omega)) ?_
      refine Gv (V_loadS rfl rfl (SlE.rd (by assumption)) (by assumption) (by simp)) ?_
      refine Ga ?_
      refine G_end (X_then (G_seq (G_seq (G_region ?_))))
      refine Gm ?_
      refine Gv (V_len rfl rfl) ?_
      refine Gm ?_
      refine Gv (V_gtr rfl rfl rfl) ?_
      refine G_end (X_then ?_)
      refine G_cond_t rfl (decide_eq_true (by omega)) ?_
      refine G_seq (G_region ?_)
      refine Gm ?_
      refine Gv (V_nilCheck rfl rfl) ?_
      refine Gv (V_fieldAddr rfl rfl (by decide)) ?_
      refine Gv (V_fieldAddr rfl rfl (by decide)) ?_
      refine G_storeAt rfl rfl rfl rfl rfl rfl (.none rfl) (.tail _ (.head _ _ _)) (Nat.le_of_ble_eq_true rfl) (by simp only [putAll, Nat.zero_add, Nat.reduceAdd, List.setIfInBounds_toArray, List.set_cons_succ, List.set_cons_zero]; rfl) ?_
      refine G_end (X_then (G_seq (G_region ?_)))
      refine Gm ?_
      refine Gv (V_nilCheck rfl rfl) ?_
      refine Gv (V_fieldAddr rfl rfl (by decide)) ?_
      refine Gv (V_loadA rfl rfl (Cells.own (.tail _ (.head _))) rfl) ?_
      refine G_storeA rfl rfl rfl rfl (by simp [Value.oneCell']) rfl (.none rfl) (.head _ _ _) rfl ?_
      refine G_end (X_then (G_ret (X_then_ret (X_block_ret (X_then_ret (X_then_ret (X_block_ret (X_then_ret ?_))))))))
      refine G_leaveS (.drop _ (.keep _ (.nil _))) (by exact (.cons (.cellA rfl (Cells.own (.head _)) rfl) (.nil))) rfl ?_ ?_
      · exact (.refl _)
      exact ⟨(by (simp (discharger := omega) only [resVal, wput, if_pos, if_neg]; first | done | rfl)), ⟨(by rfl), (by (simp (discharger := omega) only [resVal, wput, if_pos, if_neg]; first | done | rfl))⟩⟩
    · refine G_seq ?_
      refine G_region ?_
      refine Gv (V_lss rfl rfl rfl) ?_
      refine G_end (X_then (G_seq ?_))
      refine G_cond_t rfl (decide_eq_true (by omega)) ?_
      refine G_skip (X_then (G_seq (G_block (G_seq (G_region ?_)))))
      refine Gv (V_idxAddr rfl rfl rfl (SlE.rd (by assumption)) (by omega) (by omega)) ?_
      refine Gv (V_loadS rfl rfl (SlE.rd (by assumption)) (by assumption) (by simp)) ?_
      refine Ga ?_
      refine G_end (X_then (G_seq (G_seq (G_region ?_))))
      refine Gm ?_
      refine Gv (V_len rfl rfl) ?_
      refine Gm ?_
      refine Gv (V_gtr rfl rfl rfl) ?_
      refine G_end (X_then ?_)
      refine G_cond_f rfl (decide_eq_false (by omega)) ?_
      refine G_skip (X_then (G_region ?_))
      refine Gm ?_
      refine Gm ?_
      refine Gv (V_len rfl rfl) ?_
      refine Gv (V_sub_i64 rfl rfl rfl (by omega) (by omega)) ?_
      refine Ga ?_
      refine G_end (X_block (X_then (G_region ?_)))
      refine Gv (V_add_i64 rfl rfl rfl (by omega) (by omega)) ?_
      refine Gm ?_
      refine G_end (X_then ?_)
      exact G_again (k + 1) ⟨hlt, by omega⟩ (by omega) ⟨rfl, rfl, rfl, rfl, rfl, congrArg (fun z => some (Value.int .i64 z)) (show q.most - q.s.length - (l.take k).flatten.length - l[k].length = q.most - q.s.length - (l.take (k + 1)).flatten.length by omega), rfl, trivial⟩ rfl rfl
  · have hke : k = l.length := by omega
    subst hke
    rw [List.take_length] at hk2
    refine G_seq (G_region ?_)
    refine Gv (V_lss rfl rfl rfl) ?_
    refine G_end (X_then (G_seq ?_))
    refine G_cond_f rfl (decide_eq_false (by omega)) ?_
    refine G_exit (X_then_exit (X_then_exit (X_block_hit (X_then (G_seq (G_seq (G_region ?_)))))))
    refine Gm ?_
    refine Gv (V_lenS rfl rfl) ?_
    refine Gm ?_
    refine G_end (X_then (G_block ?_))
    refine G_loop (α := Nat) (fun k => [(0, .pointer (some ⟨b, 0, none⟩)), (55, .slice p l.length c), (56, .int .i64 l.length), (57, .int .i64 k), (4, .pointer (some ⟨b4, 0, none⟩))]) (fun _ => E)
      (fun k => .blk b4 (.cells #[.string (S []), .int .i64 0, .int .i64 0] 60 (0, 0)) :: WB b ⟨q.s ++ (l.take k).flatten, q.most, q.e⟩ :: L) (fun k => k ≤ l.length) (fun k => l.length - k) 0 (Nat.zero_le _) ⟨rfl, rfl, rfl, rfl, rfl, trivial⟩ rfl (by simp) ?_
    intro k hk
    by_cases hlt : k < l.length
    · have hx := strs_get (List.getElem?_eq_getElem hlt)
      have h6 := flat_take l k hlt
      have h7 := congrArg List.length h6
      rw [List.length_append] at h7
      have h8 := flat_le l (k + 1)
      refine G_seq (G_region ?_)
      refine Gv (V_lss rfl rfl rfl) ?_
      refine G_end (X_then (G_seq ?_))
      refine G_cond_t rfl (decide_eq_true (by omega)) ?_
      refine G_skip (X_then (G_seq (G_block (G_seq (G_region ?_)))))
      refine Gv (V_idxAddr rfl rfl rfl (SlE.rd (by assumption)) (by omega) (by omega)) ?_
      refine Gv (V_loadS rfl rfl (SlE.rd (by assumption)) (by assumption) (by simp)) ?_
      refine Ga ?_
      refine G_end (X_then (G_region ?_))
      refine Gm ?_
      refine Gv (V_nilCheck rfl rfl) ?_
      refine Gv (V_fieldAddr rfl rfl (by decide)) ?_
      refine Gv (V_fieldAddr rfl rfl (by decide)) ?_
      refine Gv (V_load rfl rfl (Cell.own (.tail _ (.head _)) rfl)) ?_
      refine Gm ?_
      refine Gv (V_cat rfl rfl rfl (by simp only [List.length_append]; omega)) ?_
      refine Gv (V_nilCheck rfl rfl) ?_
      refine Gv (V_fieldAddr rfl rfl (by decide)) ?_
      refine Gv (V_fieldAddr rfl rfl (by decide)) ?_
      refine G_storeAt rfl rfl rfl rfl rfl rfl (.none rfl) (.tail _ (.head _ _ _)) (Nat.le_of_ble_eq_true rfl) (by simp only [putAll, Nat.zero_add, Nat.reduceAdd, List.setIfInBounds_toArray, List.set_cons_succ, List.set_cons_zero]; rfl) ?_
      refine G_end (X_block (X_then (G_region ?_)))
      refine Gv (V_add_i64 rfl rfl rfl (by omega) (by omega)) ?_
      refine Gm ?_
      refine G_end (X_then ?_)
      exact G_again (k + 1) (by omega) (by omega) ⟨rfl, rfl, rfl, rfl, rfl, trivial⟩ rfl (by rw [h6, List.append_assoc])
    · have hke : k = l.length := by omega
      subst hke
      rw [List.take_length]
      refine G_seq (G_region ?_)
      refine Gv (V_lss rfl rfl rfl) ?_
      refine G_end (X_then (G_seq ?_))
      refine G_cond_f rfl (decide_eq_false (by omega)) ?_
      refine G_exit (X_then_exit (X_then_exit (X_block_hit (X_then (G_seq (G_region ?_))))))
      refine Gm ?_
      refine Gv (V_nilCheck rfl rfl) ?_
      refine Gv (V_fieldAddr rfl rfl (by decide)) ?_
      refine Gv (V_loadA rfl rfl (Cells.own (.tail _ (.head _))) rfl) ?_
      refine G_storeA rfl rfl rfl rfl (by simp [Value.oneCell']) rfl (.none rfl) (.head _ _ _) rfl ?_
      refine G_end (X_then (G_ret ?_))
      refine G_leaveS (.drop _ (.keep _ (.nil _))) (by exact (.cons (.cellA rfl (Cells.own (.head _)) rfl) (.nil))) rfl ?_ ?_
      · exact (.refl _)
      exact ⟨(by (simp (discharger := omega) only [resVal, wput, if_pos, if_neg]; first | done | rfl)), ⟨(by rfl), (by (simp (discharger := omega) only [resVal, wput, if_pos, if_neg]; first | done | rfl))⟩⟩
end Go.Proofs.YtjhehanknkonnaaGreatDoor
set_option linter.unusedSimpArgs false
set_option linter.unusedVariables false
set_option maxHeartbeats 2000000
set_option maxRecDepth 20000
namespace Go.Proofs.YtjhehanknkonnaaGreatDoor
open Go.RowKit
theorem iter_digits (c m : Nat) (hm : m < 18446744073709551616) (E : Env) : Iter Tryz.prog 154 #[.pointer (some ⟨c, 0, none⟩)] (fun x : UInt8 => [Value.int .u8 x.toNat].toArray) (vbytes m) E [.blk c (.cells #[.int .u64 m] 63 (0, 0))] := by
  intro l E0 L0 Inv InvX hE0 h0 hy
  refine CallS.intro (L := .blk c (.cells #[.int .u64 m] 63 (0, 0)) :: L0) (l := [.func (.yield l) #[] #[], .pointer (some ⟨c, 0, none⟩)]) 21 Tryz.func154 rfl Tryz.ntmps154 rfl ?_
  refine G_scope (G_seq (G_label (X_then (G_block ?_))))
  refine G_loop (α := List UInt8 × Nat × Nat × Env × List Res) (fun _ => [(0, .func (.yield l) #[] #[]), (1, .pointer (some ⟨c, 0, none⟩))]) (fun x => x.2.2.2.1) (fun x => .blk c (.cells #[.int .u64 x.2.2.1] 63 (0, 0)) :: x.2.2.2.2)
    (fun x => E0.Le x.2.2.2.1 ∧ vbytes m = x.1 ++ vdig (x.2.1 + 1) x.2.2.1 ∧ x.2.2.1 < 128 ^ (x.2.1 + 1) ∧ x.2.2.1 < 18446744073709551616 ∧ Inv x.1 x.2.2.2.1 x.2.2.2.2) (fun x => x.2.1) ([], 9, m, E0, L0)
    ⟨.refl _, rfl, by simp; omega, hm, h0⟩ ⟨rfl, rfl, trivial⟩ rfl rfl ?_
  rintro ⟨pre, k, i, E, L⟩ ⟨hE, hv, hk, hi, hI⟩
  simp only at hE hv hk hi hI ⊢
  have hlow := Lib.hid (low_7 i hi)
  by_cases hb : i < 128
  · refine G_block ?_
    refine G_seq (G_region ?_)
    refine Gv (V_load rfl rfl (Cell.own1 (.head _))) ?_
    refine Gv (V_and rfl rfl rfl) ?_
    refine Gv (V_conv rfl rfl) ?_
    refine Ga ?_
    refine G_end (X_then (G_seq (G_seq (G_region ?_))))
    refine Gv (V_load rfl rfl (Cell.own1 (.head _))) ?_
    refine Gv (V_shr rfl rfl rfl (by omega)) ?_
    refine G_store1 rfl rfl rfl rfl rfl rfl (.none rfl) (.head _ _ _) ?_
    refine G_end (X_then (G_seq (G_region ?_)))
    refine Gv (V_load rfl rfl (Cell.own1 (.head _))) ?_
    refine Gv (V_gtr rfl rfl rfl) ?_
    refine G_end (X_then ?_)
    simp only [shr_7]
    rw [hlow.out]
    refine G_cond_f rfl (by simp; omega) ?_
    refine G_skip (X_then (G_seq (G_region ?_)))
    refine Gm ?_
    refine Gm ?_
    have e : (((i % 128 : Nat) : Int)) = ((i.toUInt8.toNat : Nat) : Int) := by rw [toNat_u8 (by omega)]; omega
    rw [e]
    have hpre : pre ++ [i.toUInt8] <+: vbytes m := by rw [hv, vdig_small hb]; exact List.prefix_refl _
    refine G_yield (.mk rfl rfl rfl rfl) rfl rfl (.none rfl) (hy pre i.toUInt8 E L [_] hE hpre hI) ?_
    rintro r E' L' hE' ⟨L3, rfl, (⟨rfl, hI'⟩ | ⟨rfl, hI'⟩)⟩
    · refine Gv (V_not rfl rfl) ?_
      refine Gm ?_
      refine G.bool_f 17 rfl (by kernel_rfl) ?_
      refine Gy (V_load rfl rfl (Cell.own1 (.head _))) ?_
      refine Gy (V_eql rfl rfl rfl) ?_
      refine Gv (V_pick_f rfl rfl rfl) ?_
      refine G_end (X_then ?_)
      refine G_cond_t rfl (decide_eq_true (by omega)) ?_
      refine G_exit ?_
      refine X_block_miss rfl ?_
      refine X_then_exit (X_block_hit (X_ng ?_))
      exact G_leave_n 0 .nil rfl (hE.trans hE') ⟨[_], L3, rfl, .inl (by rw [hv, vdig_small hb]; exact hI')⟩
    · refine Gv (V_not rfl rfl) ?_
      refine Gm ?_
      refine G.bool_t 17 rfl (by kernel_rfl) ?_
      refine Gn ?_
      refine Gn ?_
      refine Gv (V_pick_t rfl rfl rfl) ?_
      refine G_end (X_then ?_)
      refine G_cond_t rfl rfl ?_
      refine G_exit ?_
      refine X_block_miss rfl ?_
      refine X_then_exit (X_block_hit (X_ng ?_))
      exact G_leave_n 0 .nil rfl (hE.trans hE') ⟨[_], L3, rfl, .inr ⟨_, hpre, hI'⟩⟩
  · refine G_block ?_
    refine G_seq (G_region ?_)
    refine Gv (V_load rfl rfl (Cell.own1 (.head _))) ?_
    refine Gv (V_and rfl rfl rfl) ?_
    refine Gv (V_conv rfl rfl) ?_
    refine Ga ?_
    refine G_end (X_then (G_seq (G_seq (G_region ?_))))
    refine Gv (V_load rfl rfl (Cell.own1 (.head _))) ?_
    refine Gv (V_shr rfl rfl rfl (by omega)) ?_
    refine G_store1 rfl rfl rfl rfl rfl rfl (.none rfl) (.head _ _ _) ?_
    refine G_end (X_then (G_seq (G_region ?_)))
    refine Gv (V_load rfl rfl (Cell.own1 (.head _))) ?_
    refine Gv (V_gtr rfl rfl rfl) ?_
    refine G_end (X_then ?_)
    simp only [shr_7]
    rw [hlow.out]
    refine G_cond_t rfl (by simp; omega) ?_
    refine G_region ?_
    refine Gm ?_
    refine Gv (V_or rfl rfl rfl) ?_
    refine Ga ?_
    refine G_end (X_then (G_seq (G_region ?_)))
    refine Gm ?_
    refine Gm ?_
    have e : orI .u8 ((i % 128 : Nat) : Int) 128 = (((i % 128 + 128).toUInt8.toNat : Nat) : Int) := by rw [toNat_u8 (by omega), high_1 _ (by omega)]
    rw [e]
    have hpre : pre ++ [(i % 128 + 128).toUInt8] <+: vbytes m := by rw [hv, vdig_big (by omega)]; simp
    refine G_yield (.mk rfl rfl rfl rfl) rfl rfl (.none rfl) (hy pre _ E L [_] hE hpre hI) ?_
    rintro r E' L' hE' ⟨L3, rfl, (⟨rfl, hI'⟩ | ⟨rfl, hI'⟩)⟩
    · refine Gv (V_not rfl rfl) ?_
      refine Gm ?_
      refine G.bool_f 17 rfl (by kernel_rfl) ?_
      refine Gy (V_load rfl rfl (Cell.own1 (.head _))) ?_
      refine Gy (V_eql rfl rfl rfl) ?_
      refine Gv (V_pick_f rfl rfl rfl) ?_
      refine G_end (X_then ?_)
      refine G_cond_f rfl (decide_eq_false (by omega)) ?_
      refine G_skip (X_block (X_then ?_))
      have hk1 : 1 ≤ k := by
        cases k with
        | zero => simp at hk; omega
        | succ k => omega
      refine G_again (pre ++ [_], k - 1, i / 128, E', L3) ⟨hE.trans hE', ?_, ?_, by simp only; omega, hI'⟩ (by simp; omega) ⟨rfl, rfl, trivial⟩ rfl rfl
      · simp only [hv, vdig_big (by omega : 128 ≤ i), show k - 1 + 1 = k by omega, List.append_assoc, List.singleton_append]
      · simp only [show k - 1 + 1 = k by omega]
        rw [Nat.pow_succ] at hk
        exact Nat.div_lt_of_lt_mul (by omega)
    · refine Gv (V_not rfl rfl) ?_
      refine Gm ?_
      refine G.bool_t 17 rfl (by kernel_rfl) ?_
      refine Gn ?_
      refine Gn ?_
      refine Gv (V_pick_t rfl rfl rfl) ?_
      refine G_end (X_then ?_)
      refine G_cond_t rfl rfl ?_
      refine G_exit ?_
      refine X_block_miss rfl ?_
      refine X_then_exit (X_block_hit (X_ng ?_))
      exact G_leave_n 0 .nil rfl (hE.trans hE') ⟨[_], L3, rfl, .inr ⟨_, hpre, hI'⟩⟩

theorem digits_call (E : Env) (L : List Res) (m : Nat) : CallS Tryz.prog 133 #[.int .u64 m] E L (fun r E' L' => ∃ c, r = .func (.func 154) #[] #[.pointer (some ⟨c, 0, none⟩)] ∧ E' = E ∧ L' = .blk c (.cells #[.int .u64 m] 63 (0, 0)) :: L) := by
  refine CallS.intro (l := [.int .u64 m]) 4 Tryz.func133 rfl Tryz.ntmps133 rfl ?_
  refine G_seq (G_region ?_)
  (refine G_box1 rfl rfl rfl rfl rfl (.none rfl) ?_; intro b1)
  refine Ga ?_
  refine G_end (X_then (G_seq (G_region ?_)))
  refine Gv (V_makeFunc rfl rfl rfl) ?_
  refine Ga ?_
  refine G_end (X_then (G_ret ?_))
  refine G_leave 0 (by exact (.cons (.tmp rfl) (.nil))) rfl ?_ ?_
  · exact .refl _
  · exact ⟨_, rfl, rfl, rfl⟩


theorem write_call (E : Env) (L : List Res) (a : Option Addr) (c : Nat) (ns : List Nat) (hs : SlE E 1 a ns.length (u64s ns)) (hns : ∀ n, n ∈ ns → n < 18446744073709551616) (hlen : ns.length ≤ 1000000) :
    CallV Tryz.prog 118 #[.slice a ns.length c] E L (.string (S (ns.flatMap vbytes))) := by
  refine CallS.toV (CallS.intro (l := [.slice a ns.length c]) 23 Tryz.func118 rfl Tryz.ntmps118 rfl ?_)
  refine G_seq (G_region ?_)
  refine Ga ?_
  refine G_end (X_then (G_seq (G_region ?_)))
  (refine G_alloc rfl rfl rfl (.none rfl) ?_; intro b3)
  refine G_end (X_then (G_seq (G_seq (G_region ?_))))
  refine Gm ?_
  refine Gv (V_lenS rfl rfl) ?_
  refine Gm ?_
  refine G_end (X_then (G_block ?_))
  refine G.nilSl 5 1 ?_
  refine G_loopD (α := Nat × List Nat × Option Addr × Nat) (fun x => x.2.1.map mark) (fun x => [(3, .pointer (some ⟨b3, 0, none⟩)), (7, .slice a ns.length c), (8, .int .i64 ns.length), (9, .int .i64 x.1)]) (fun _ => E)
    (fun x => .sl 5 1 x.2.2.1 ((ns.take x.1).flatMap vbytes).length x.2.2.2 (u8s ((ns.take x.1).flatMap vbytes)) :: .blk b3 (.cells #[.slice x.2.2.1 ((ns.take x.1).flatMap vbytes).length x.2.2.2] 78 (0, 0)) :: (x.2.1.map dblk ++ L))
    (fun x => x.1 ≤ ns.length) (fun x => ns.length - x.1) (0, [], none, 0) (Nat.zero_le _) rfl ⟨rfl, rfl, rfl, rfl, trivial⟩ rfl rfl ?_
  rintro ⟨k, Ds, a', c'⟩ hk
  simp only at hk ⊢
  by_cases hlt : k < ns.length
  · have hx := u64s_get (List.getElem?_eq_getElem hlt)
    refine G_seq (G_region ?_)
    refine Gv (V_lss rfl rfl rfl) ?_
    refine G_end (X_then (G_seq ?_))
    refine G_cond_t rfl (decide_eq_true (by omega)) ?_
    refine G_skip (X_then (G_seq (G_block (G_seq (G_region ?_)))))
    refine Gv (V_idxAddr rfl rfl rfl (SlE.rd (by assumption)) (by omega) (by omega)) ?_
    refine Gv (V_loadS rfl rfl (SlE.rd (by assumption)) (by assumption) (by simp)) ?_
    refine Ga ?_
    refine G_end (X_then (G_seq (G_region ?_)))
    refine Gm ?_
    refine G_call (k := 133) (.mk rfl rfl rfl rfl) rfl rfl (.none rfl) (digits_call _ _ ns[k]) ?_
    rintro r E' L' hE ⟨c0, rfl, rfl, rfl⟩
    refine G_end (X_then (G_block ?_))
    have htot := flatMap_len ns k
    have hv := vdig_len 10 ns[k]
    refine G_rangeI (σ := List UInt8 × Option Addr × Nat) rfl (iter_digits c0 ns[k] (hns _ (List.getElem_mem hlt)) E') (fun _ => E')
      (fun s => .sl 5 1 s.2.1 (((ns.take k).flatMap vbytes).length + s.1.length) s.2.2 (u8s ((ns.take k).flatMap vbytes ++ s.1)) :: .blk b3 (.cells #[.slice s.2.1 (((ns.take k).flatMap vbytes).length + s.1.length) s.2.2] 78 (0, 0)) :: (Ds.map dblk ++ L))
      (fun pre s => s.1 = pre) (fun _ _ _ => False) ([], a', c') rfl rfl (by simp) rfl (fun _ => rfl) ?_ ?_ ?_
    · rintro l D tm fn M pre x ⟨s, a1, c1⟩ hpre rfl hE
      have hle := hpre.length_le
      simp only [List.length_append, List.length_singleton] at hle
      simp only [vbytes] at hle
      simp only [List.cons_append]
      refine G_region ?_
      refine Ga ?_
      refine G_end (X_then ?_)
      refine G_begin (.head _ _ _) ?_
      refine G_block (G_region ?_)
      refine Gv (V_load rfl rfl (Cell.own1 (.tail _ (.tail _ (.tail _ (.head _)))))) ?_
      refine Gm ?_
      (refine G_lit1 rfl rfl rfl rfl rfl (.none rfl) ?_; intro b18)
      (refine G_append rfl rfl rfl (Rd.lit (.head _) rfl) (by simp [Value.oneCell']) (by omega) (by omega) rfl rfl (.none rfl) (fun _ _ => (.tail _ (.tail _ (.tail _ (.head _ _ _))))) ?_; intro a19 c19; refine G.rm (.head _ _) ?_)
      refine G_store1 rfl rfl rfl rfl rfl rfl (.none rfl) (.tail _ (.tail _ (.tail _ (.head _ _ _)))) ?_
      refine G_end (X_block ?_)
      exact G_rEnd (s ++ [x], a19, c19) rfl rfl (.refl _) (by simp only [List.length_append, List.length_singleton, u8s, List.map_append, List.map_cons, List.map_nil, Nat.add_assoc, List.append_assoc, List.cons_append])
    · rintro D ⟨s, a1, c1⟩ rfl hE
      refine X_block (X_block (X_then (G_region ?_)))
      refine Gv (V_add_i64 rfl rfl rfl (by omega) (by omega)) ?_
      refine Gm ?_
      refine G_end (X_then ?_)
      refine G.perm _ (perm3 _ _ _ _) ?_
      exact G_againD (k + 1, D :: Ds, a1, c1) (by simp only; omega) (by simp only; omega) rfl ⟨rfl, rfl, rfl, rfl, trivial⟩ rfl (by simp only [flatMap_take ns k hlt, List.length_append, List.map_cons, List.cons_append])
    · rintro D c pre s _ h
      exact h.elim
  · refine G_seq ?_
    refine G_region ?_
    refine Gv (V_lss rfl rfl rfl) ?_
    refine G_end (X_then (G_seq ?_))
    refine G_cond_f rfl (decide_eq_false (by omega)) ?_
    refine G_exit (X_then_exit (X_then_exit (X_block_hit (X_then (G_seq (G_region ?_))))))
    refine Gv (V_load rfl rfl (Cell.own1 (.tail _ (.head _)))) ?_
    refine Gv (V_b2s rfl rfl (Rd.sl (.head _) (by simp))) ?_
    refine Ga ?_
    refine G_end (X_then (G_ret ?_))
    obtain rfl : k = ns.length := by omega
    rw [List.take_length]
    refine G.drop (G.drop (G_leave_ms Ds ?_))
    refine G_leave 0 (by exact (.cons (.tmp rfl) (.nil))) rfl ?_ ?_
    · exact .refl _
    · exact ⟨rfl, rfl⟩

theorem Bytes_call (E : Env) (L : List Res) (m : Nat) (hm : m < 18446744073709551616) : CallV Tryz.prog 80 #[.int .u64 m] E L (.string (S (vbytes m))) := by
  refine CallS.toV (CallS.intro (l := [.int .u64 m]) 6 Tryz.func80 rfl Tryz.ntmps80 rfl ?_)
  refine G_seq (G_region ?_)
  refine Ga ?_
  refine G_end (X_then (G_seq (G_region ?_)))
  refine Gm ?_
  (refine G_lit1 rfl rfl rfl rfl rfl (.none rfl) ?_; intro b4)
  refine G.freeze (.head _ _) ?_
  intro E' hE hb
  have hs : SlE E' 1 (some ⟨b4, 0, none⟩) 1 (u64s [m]) := SlE.lit hb rfl
  have hw := write_call E' L _ 1 [m] hs (by simpa using hm) (by simp)
  simp only [List.flatMap_cons, List.flatMap_nil, List.append_nil] at hw
  refine G_callv (k := 118) (.mk rfl rfl rfl rfl) rfl rfl (.none rfl) hw ?_
  refine Ga ?_
  refine G_end (X_then (G_ret ?_))
  refine G_leave 0 (by exact (.cons (.tmp rfl) (.nil))) rfl ?_ ?_
  · exact hE
  · exact ⟨rfl, rfl⟩


theorem Bytes2_call (E : Env) (L : List Res) (m : Nat) (hm : m < 18446744073709551616) : CallV Tryz.prog 88 #[.int .u64 m] E L (.string (S (vbytes m))) := by
  refine CallS.toV (CallS.intro (l := [.int .u64 m]) 22 Tryz.func88 rfl Tryz.ntmps88 rfl ?_)
  refine G_seq (G_region ?_)
  refine Ga ?_
  refine G_end (X_then (G_seq (G_region ?_)))
  refine Ga ?_
  refine G_end (X_then (G_seq (G_block ?_)))
  refine G_loop (α := List UInt8 × Nat × Nat) (fun x => [(0, .int .u64 x.2.2), (3, .string (S x.1))]) (fun _ => E) (fun _ => L)
    (fun x => vbytes m = x.1 ++ vdig (x.2.1 + 1) x.2.2 ∧ x.2.2 < 128 ^ (x.2.1 + 1) ∧ x.2.2 < 18446744073709551616) (fun x => x.2.1) ([], 9, m)
    ⟨rfl, by simp; omega, hm⟩ ⟨rfl, rfl, trivial⟩ rfl rfl ?_
  rintro ⟨pre, k, i⟩ ⟨hv, hk, hi⟩
  simp only at hv hk hi ⊢
  have hl : pre.length ≤ 10 := by
    have := vdig_len 10 m
    have h2 : (vbytes m).length = pre.length + (vdig (k + 1) i).length := by rw [hv, List.length_append]
    simp only [vbytes] at h2
    omega
  by_cases hb : 128 ≤ i
  · refine G_seq ?_
    refine G_seq (G_region ?_)
    refine Gm ?_
    refine Gv (V_geq rfl rfl rfl) ?_
    refine G_end (X_then ?_)
    refine G_cond_t rfl (decide_eq_true (by omega)) ?_
    refine G_skip (X_then (G_block (G_seq (G_region ?_))))
    refine Gm ?_
    refine Gm ?_
    refine Gv (V_rem_n rfl rfl rfl (by omega) (by omega)) ?_
    refine Gv (V_add_u64 rfl rfl rfl (by omega) (by omega)) ?_
    refine Gv (V_conv_u8 rfl rfl (by omega) (by omega)) ?_
    (refine G_lit1 rfl rfl rfl rfl rfl (.none rfl) ?_; intro b11)
    have e : (128 + (i : Int) % 128) = (((i % 128 + 128).toUInt8.toNat : Nat) : Int) := by rw [toNat_u8 (by omega)]; omega
    rw [e]
    refine Gv (V_b2s (l := [_]) rfl rfl (Rd.lit (.head _) rfl)) ?_
    refine Gv (V_cat rfl rfl rfl (by simp; omega)) ?_
    refine Ga ?_
    refine G_end (X_then (G_region ?_))
    refine Gm ?_
    refine Gv (V_quo_n rfl rfl rfl (by omega) (by omega) (by simp [IntKind.max, IntKind.signed, IntKind.bits]; omega)) ?_
    refine Ga ?_
    refine G_end (X_block (X_then ?_))
    have hk1 : 1 ≤ k := by
      cases k with
      | zero => simp at hk; omega
      | succ k => omega
    refine G.rm (.head _ _) (G_again (pre ++ [(i % 128 + 128).toUInt8], k - 1, i / 128) ⟨?_, ?_, by simp only; omega⟩ (by simp only; omega) ⟨rfl, rfl, trivial⟩ rfl rfl)
    · simp only [hv, vdig_big (by omega : 128 ≤ i), show k - 1 + 1 = k by omega, List.append_assoc, List.singleton_append]
    · simp only [show k - 1 + 1 = k by omega]
      rw [Nat.pow_succ] at hk
      exact Nat.div_lt_of_lt_mul (by omega)
  · refine G_seq ?_
    refine G_seq (G_region ?_)
    refine Gm ?_
    refine Gv (V_geq rfl rfl rfl) ?_
    refine G_end (X_then ?_)
    refine G_cond_f rfl (decide_eq_false (by omega)) ?_
    refine G_exit (X_then_exit (X_then_exit (X_block_hit (X_then (G_seq (G_region ?_))))))
    refine Gm ?_
    refine Gm ?_
    refine Gv (V_conv_u8 rfl rfl (by omega) (by omega)) ?_
    (refine G_lit1 rfl rfl rfl rfl rfl (.none rfl) ?_; intro b19)
    have e : (i : Int) = ((i.toUInt8.toNat : Nat) : Int) := by rw [toNat_u8 (by omega)]
    rw [e]
    refine Gv (V_b2s (l := [_]) rfl rfl (Rd.lit (.head _) rfl)) ?_
    refine Gv (V_cat rfl rfl rfl (by simp; omega)) ?_
    refine Ga ?_
    refine G_end (X_then (G_ret ?_))
    refine G_leave 1 (by exact (.cons (.tmp rfl) (.nil))) rfl ?_ ?_
    · exact .refl _
    · exact ⟨by rw [hv, vdig_small (by omega)]; rfl, rfl⟩



end Go.Proofs.YtjhehanknkonnaaGreatDoor
set_option linter.unusedSimpArgs false
set_option linter.unusedVariables false
set_option maxHeartbeats 2000000
set_option maxRecDepth 20000
namespace Go.Proofs.YtjhehanknkonnaaGreatDoor
open Go.RowKit

abbrev PB (b c : Nat) : Res := .blk b (.cells #[.pointer (some ⟨c, 0, none⟩)] 115 (0, 0))
abbrev BB (b : Nat) (v : Bool) : Res := .blk b (.cells #[.bool v] 4 (0, 0))
abbrev SB (b : Nat) (v : List UInt8) : Res := .blk b (.cells #[.string (S v)] 9 (0, 0))
/-- A field is read, or the reader stays where it was. -/
def rback (a : Int) (q : Rdr) : Rdr := if q.e = 0 then q else ⟨q.s, a, q.e, q.fa⟩

theorem field1_call (E : Env) (L : List Res) (c2 c4 c5 b : Nat) (q : Rdr) (v : Bool) (a : Int) :
    CallD Tryz.prog 124 #[.pointer (some ⟨c2, 0, none⟩), .pointer (some ⟨c4, 0, none⟩), .pointer (some ⟨c5, 0, none⟩)] E (RB b q :: PB c2 b :: BB c4 v :: IB c5 a :: L)
      (fun _ E' L' => E = E' ∧ L' = RB b (rback a q) :: PB c2 b :: BB c4 (decide (q.e = 0)) :: IB c5 a :: L) := by
  refine CallD.intro (l := [.pointer (some ⟨c2, 0, none⟩), .pointer (some ⟨c4, 0, none⟩), .pointer (some ⟨c5, 0, none⟩)]) _ Tryz.func124 rfl Tryz.ntmps124 rfl ?_
  refine G_seq (G_region ?_)
  refine Gv (V_load rfl rfl (Cell.own1 (.tail _ (.head _)))) ?_
  refine Gv (V_nilCheck rfl rfl) ?_
  refine Gv (V_fieldAddr rfl rfl (by decide)) ?_
  refine Gv (V_fieldAddr rfl rfl (by decide)) ?_
  refine Gv (V_fieldAddr rfl rfl (by decide)) ?_
  refine Gv (V_load rfl rfl (Cell.own (.head _) rfl)) ?_
  refine Gv (V_eql rfl rfl rfl) ?_
  refine G_store1 rfl rfl rfl rfl rfl rfl (.none rfl) (.tail _ (.tail _ (.head _ _ _))) ?_
  refine G_end (X_then (G_seq (G_region ?_)))
  refine Gv (V_load rfl rfl (Cell.own1 (.tail _ (.tail _ (.head _))))) ?_
  refine Gv (V_not rfl rfl) ?_
  refine G_end (X_then ?_)
  refine G_cond rfl (fun H1 => ?_) (fun H1 => ?_)
  · simp only [Bool.and_eq_true, Bool.or_eq_true, Bool.not_eq_true', Bool.not_eq_false', Bool.and_eq_false_iff, Bool.or_eq_false_iff, Bool.not_not, decide_eq_true_eq, decide_eq_false_iff_not, ne_eq, Decidable.not_not, Bool.decide_eq_true] at H1
    refine G_region ?_
    refine Gv (V_load rfl rfl (Cell.own1 (.tail _ (.head _)))) ?_
    refine Gv (V_load rfl rfl (Cell.own1 (.tail _ (.tail _ (.tail _ (.head _)))))) ?_
    refine Gv (V_nilCheck rfl rfl) ?_
    refine Gv (V_fieldAddr rfl rfl (by decide)) ?_
    refine Gv (V_fieldAddr rfl rfl (by decide)) ?_
    refine G_storeAt rfl rfl rfl rfl rfl rfl (.none rfl) (.head _ _ _) (Nat.le_of_ble_eq_true rfl) (by simp only [putAll, Nat.zero_add, Nat.reduceAdd, List.setIfInBounds_toArray, List.set_cons_succ, List.set_cons_zero]; rfl) ?_
    refine G_end ?_
    refine G_leaveS_bn (.keep _ (.keep _ (.keep _ (.keep _ (.nil _))))) (by exact (.nil)) rfl ?_ ?_
    · exact (.refl _)
    exact ⟨(by rfl), (by (simp (discharger := omega) only [resVal, rback, if_pos, if_neg]; first | done | rfl))⟩
  simp only [Bool.and_eq_true, Bool.or_eq_true, Bool.not_eq_true', Bool.not_eq_false', Bool.and_eq_false_iff, Bool.or_eq_false_iff, Bool.not_not, decide_eq_true_eq, decide_eq_false_iff_not, ne_eq, Decidable.not_not, Bool.decide_eq_true] at H1
  refine G_skip ?_
  refine G_leaveS_bn (.keep _ (.keep _ (.keep _ (.keep _ (.nil _))))) (by exact (.nil)) rfl ?_ ?_
  · exact (.refl _)
  exact ⟨(by rfl), (by (simp (discharger := omega) only [resVal, rback, if_pos, if_neg]; first | done | rfl))⟩

theorem perm_m3 (a b c : Res) (l m : List Res) : (l ++ a :: b :: c :: m).Perm (a :: b :: c :: (l ++ m)) :=
  List.perm_middle.trans (.cons _ (List.perm_middle.trans (.cons _ List.perm_middle)))
theorem perm_rev4 (a b c d : Res) (l : List Res) : (a :: b :: c :: d :: l).Perm (d :: c :: b :: a :: l) := by
  have := (List.reverse_perm [d, c, b, a]).append_right l
  simpa using this

theorem field_no (E : Env) (L : List Res) (b : Nat) (q : Rdr) (h : q.e ≠ 0) (k : FuncId) (caps : List Value) :
    CallS Tryz.prog 98 #[.pointer (some ⟨b, 0, none⟩), .func (.func k) #[] caps.toArray] E (RB b q :: L) (fun r E' L' => E = E' ∧ r = .bool false ∧ L' = RB b q :: L) := by
  refine CallS.intro (l := [.pointer (some ⟨b, 0, none⟩), .func (.func k) #[] caps.toArray]) _ Tryz.func98 rfl Tryz.ntmps98 rfl ?_
  refine G_seq (G_region ?_)
  (refine G_box1 rfl rfl rfl rfl rfl (.none rfl) ?_; intro b2)
  (refine G_alloc rfl rfl rfl (.none rfl) ?_; intro b4)
  refine G_end (X_then (G_seq (G_seq (G_region ?_))))
  refine Gv (V_load rfl rfl (Cell.own1 (.tail _ (.head _)))) ?_
  refine Gv (V_nilCheck rfl rfl) ?_
  refine Gv (V_fieldAddr rfl rfl (by decide)) ?_
  refine Gv (V_fieldAddr rfl rfl (by decide)) ?_
  refine Gv (V_fieldAddr rfl rfl (by decide)) ?_
  refine Gv (V_load rfl rfl (Cell.own (.tail _ (.tail _ (.head _))) rfl)) ?_
  refine Gv (V_neq rfl rfl rfl) ?_
  refine G_end (X_then ?_)
  refine G_cond_t rfl (decide_eq_true (by omega)) ?_
  refine G_seq (G_region ?_)
  refine G_store1 rfl rfl rfl rfl rfl rfl (.none rfl) (.head _ _ _) ?_
  refine G_end (X_then (G_ret (X_then_ret ?_)))
  refine G_leaveS (.drop _ (.drop _ (.keep _ (.nil _)))) (by exact (.cons (.cell1 rfl (Cell.own1 (.head _))) (.nil))) rfl ?_ ?_
  · exact (.refl _)
  exact ⟨rfl, ⟨(by kernel_rfl), rfl⟩⟩
theorem field_yes (E : Env) (L Lr : List Res) (b : Nat) (q : Rdr) (h : q.e = 0) (k : FuncId) [Ent Tryz.prog k] (caps : List Value) (q' : Rdr) {ι : Type} (Lr' : ι → List Res)
    (hread : ∀ M, CallS Tryz.prog k caps.toArray E (RB b q :: (Lr ++ M)) (fun r E' L' => E = E' ∧ ∃ x, L' = RB b q' :: (Lr' x ++ M))) :
    CallS Tryz.prog 98 #[.pointer (some ⟨b, 0, none⟩), .func (.func k) #[] caps.toArray] E (RB b q :: (Lr ++ L))
      (fun r E' L' => ∃ x, E = E' ∧ r = .bool (decide (q'.e = 0)) ∧ L' = RB b (rback q.at' q') :: (Lr' x ++ L)) := by
  refine CallS.intro (l := [.pointer (some ⟨b, 0, none⟩), .func (.func k) #[] caps.toArray]) _ Tryz.func98 rfl Tryz.ntmps98 rfl ?_
  refine G_seq (G_region ?_)
  (refine G_box1 rfl rfl rfl rfl rfl (.none rfl) ?_; intro b2)
  (refine G_alloc rfl rfl rfl (.none rfl) ?_; intro b4)
  refine G_end (X_then (G_seq (G_seq (G_region ?_))))
  refine Gv (V_load rfl rfl (Cell.own1 (.tail _ (.head _)))) ?_
  refine Gv (V_nilCheck rfl rfl) ?_
  refine Gv (V_fieldAddr rfl rfl (by decide)) ?_
  refine Gv (V_fieldAddr rfl rfl (by decide)) ?_
  refine Gv (V_fieldAddr rfl rfl (by decide)) ?_
  refine Gv (V_load rfl rfl (Cell.own (.tail _ (.tail _ (.head _))) rfl)) ?_
  refine Gv (V_neq rfl rfl rfl) ?_
  refine G_end (X_then ?_)
  refine G_cond_f rfl (decide_eq_false (by omega)) ?_
  refine G_skip (X_then (G_seq (G_region ?_)))
  refine Gv (V_load rfl rfl (Cell.own1 (.tail _ (.head _)))) ?_
  refine Gv (V_nilCheck rfl rfl) ?_
  refine Gv (V_fieldAddr rfl rfl (by decide)) ?_
  refine Gv (V_fieldAddr rfl rfl (by decide)) ?_
  refine Gv (V_load rfl rfl (Cell.own (.tail _ (.tail _ (.head _))) rfl)) ?_
  (refine G_alloc rfl rfl rfl (.none rfl) ?_; intro b5)
  refine G_store1 rfl rfl rfl rfl rfl rfl (.none rfl) (.head _ _ _) ?_
  refine G_end (X_then (G_seq (G_region ?_)))
  refine Gv (V_makeFunc rfl rfl rfl) ?_
  refine G_defer rfl rfl rfl (.none rfl) rfl ?_
  refine G_end (X_then (G_seq (G_region ?_)))
  refine Gm ?_
  refine G_call (k := k) (args := caps.toArray) (.mk rfl rfl rfl (by simp)) rfl rfl (.none rfl) (CallS.perm ?_ (hread (PB b2 b :: BB b4 false :: IB b5 q.at' :: L))) ?_
  · exact (perm_rev4 _ _ _ _ _).trans (.cons _ (perm_m3 _ _ _ _ _).symm)
  · rintro r E' L' hE ⟨rfl, x, rfl⟩
    refine G.perm _ (.cons _ (perm_m3 _ _ _ _ _)) ?_
    refine G_end (X_then (G_ret ?_))
    refine G_leave_dn (k := 124) (field1_call _ _ _ _ _ _ _ _ _) ?_
    rintro r E' L' hE ⟨rfl, rfl⟩
    refine G_leaveS (.keep _ (.drop _ (.drop _ (.drop _ (.nil _))))) (by exact (.cons (.cell1 rfl (Cell.own1 (.tail _ (.tail _ (.head _))))) (.nil))) rfl ?_ ?_
    · exact (.refl _)
    exact ⟨_, ⟨rfl, ⟨rfl, rfl⟩⟩⟩
end Go.Proofs.YtjhehanknkonnaaGreatDoor
set_option linter.unusedSimpArgs false
set_option linter.unusedVariables false
set_option maxHeartbeats 2000000
set_option maxRecDepth 20000
namespace Go.Proofs.YtjhehanknkonnaaGreatDoor
open Go.RowKit

theorem vreadK_props (s : List UInt8) (a : Nat) : ∀ k i n : Nat, k + i = 10 → a + i ≤ s.length → n < 128 ^ i →
    ((vreadK s a k i n).2.2.1 = 0 → a + i < (vreadK s a k i n).2.1 ∧ (vreadK s a k i n).2.1 ≤ s.length ∧ (vreadK s a k i n).2.2.2 = 0 ∧ (vreadK s a k i n).1 < 18446744073709551616) ∧
    ((vreadK s a k i n).2.2.1 ≠ 0 → ((vreadK s a k i n).2.2.1 = 5 ∨ (vreadK s a k i n).2.2.1 = 26) ∧ (vreadK s a k i n).2.2.2 ≤ s.length ∧ (vreadK s a k i n).1 = 0 ∧ (vreadK s a k i n).2.1 = 0) := by
  intro k
  induction k with
  | zero =>
    intro i n hk ha hn
    refine ⟨fun h => by simp [vreadK] at h, fun _ => ⟨.inr rfl, ?_, rfl, rfl⟩⟩
    show a + 9 ≤ _
    omega
  | succ k ih =>
    intro i n hk ha hn
    by_cases hl : s.length ≤ a + i
    · rw [vreadK_none hl]
      exact ⟨fun h => by simp at h, fun _ => ⟨.inl rfl, Nat.le_refl _, rfl, rfl⟩⟩
    · obtain ⟨b, hb⟩ : ∃ b, s[a + i]? = some b := ⟨_, List.getElem?_eq_getElem (by omega)⟩
      rw [vreadK_some hb]
      by_cases h1 : (0 < i ∧ b.toNat = 0) ∨ (i = 9 ∧ 1 < b.toNat)
      · rw [if_pos h1]
        exact ⟨fun h => by simp at h, fun _ => ⟨.inr rfl, ha, rfl, rfl⟩⟩
      · rw [if_neg h1]
        obtain ⟨_, h3, h4⟩ := or_step (n := n) (b := b.toNat) (i := i) hn (by omega) b.toNat_lt (by omega)
        by_cases h2 : b.toNat < 128
        · rw [if_pos h2]
          refine ⟨fun _ => ⟨?_, ?_, rfl, h3⟩, fun h => absurd rfl h⟩
          · show a + i < a + i + 1
            omega
          · show a + i + 1 ≤ _
            omega
        · rw [if_neg h2]
          have := ih (i + 1) _ (by omega) (by omega) h4
          refine ⟨fun h => ?_, this.2⟩
          have := this.1 h
          exact ⟨by omega, this.2⟩
theorem vread_props (s : List UInt8) (a : Int) :
    ((vread s a).2.2.1 = 0 → 0 ≤ a ∧ a < (vread s a).2.1 ∧ (vread s a).2.1 ≤ s.length ∧ (vread s a).2.2.2 = 0 ∧ (vread s a).1 < 18446744073709551616) ∧
    ((vread s a).2.2.1 ≠ 0 → ((vread s a).2.2.1 = 2 ∨ (vread s a).2.2.1 = 5 ∨ (vread s a).2.2.1 = 26) ∧ (vread s a).2.2.2 ≤ s.length ∧ (vread s a).1 = 0 ∧ (vread s a).2.1 = 0) := by
  unfold vread
  by_cases h : a < 0 ∨ (s.length : Int) < a
  · rw [if_pos h]
    exact ⟨fun h => by simp at h, fun _ => ⟨.inl rfl, Nat.zero_le _, rfl, rfl⟩⟩
  · rw [if_neg h]
    have := vreadK_props s a.toNat 10 0 0 rfl (by omega) (by decide)
    refine ⟨fun h => ?_, fun h => ?_⟩
    · have := this.1 h
      omega
    · have := this.2 h
      exact ⟨.inr this.1, this.2⟩
theorem rwide_s (q : Rdr) : (rwide q).1.s = q.s := by unfold rwide; split <;> rfl
theorem rwide_props (q : Rdr) (h0 : q.e = 0) (hf : q.fa = 0) (ha : 0 ≤ q.at') (hl : q.at' ≤ q.s.length) :
    ((rwide q).1.e = 0 → q.at' < (rwide q).1.at' ∧ (rwide q).1.at' ≤ q.s.length ∧ (rwide q).1.fa = 0 ∧ (rwide q).2 < 18446744073709551616) ∧
    ((rwide q).1.e ≠ 0 → (rwide q).2 = 0 ∧ (rwide q).1.at' = q.at' ∧ 1 ≤ (rwide q).1.e ∧ (rwide q).1.e ≤ 31 ∧ 0 ≤ (rwide q).1.fa ∧ (rwide q).1.fa ≤ q.s.length) := by
  obtain ⟨h1, h2⟩ := vread_props q.s q.at'
  unfold rwide
  split
  · rename_i h
    have := h1 h
    refine ⟨fun _ => ?_, fun h => absurd h0 h⟩
    simp only
    omega
  · rename_i h
    have := h2 h
    refine ⟨fun h' => ?_, fun _ => ?_⟩
    · exact absurd (show (vread q.s q.at').2.2.1 = 0 by have h3 : (((vread q.s q.at').2.2.1 : Nat) : Int) = 0 := h'; omega) h
    · show 0 = 0 ∧ q.at' = q.at' ∧ 1 ≤ (((vread q.s q.at').2.2.1 : Nat) : Int) ∧ (((vread q.s q.at').2.2.1 : Nat) : Int) ≤ 31 ∧ 0 ≤ (((vread q.s q.at').2.2.2 : Nat) : Int) ∧ (((vread q.s q.at').2.2.2 : Nat) : Int) ≤ q.s.length
      omega
theorem rwide_err (q : Rdr) (h0 : q.e = 0) : (rwide q).1.e ≠ 0 → (rwide q).2 = 0 ∧ (rwide q).1.at' = q.at' := by
  unfold rwide
  split
  · intro h; exact absurd h0 h
  · intro _; exact ⟨rfl, rfl⟩

/-- A number between two bounds. -/
def rnum (q : Rdr) (least most o : Int) : Rdr × Int :=
  if least < 0 ∨ most < least then (⟨q.s, q.at', 2, q.at'⟩, o)
  else if (rwide q).1.e = 0 ∧ (((rwide q).2 : Int) < least ∨ most < ((rwide q).2 : Int)) then (⟨(rwide q).1.s, (rwide q).1.at', 2, q.at'⟩, o)
  else ((rwide q).1, ((rwide q).2 : Int))

theorem Number1_call (E : Env) (L : List Res) (c0 c1 c2 c3 b : Nat) (q : Rdr) (hq : q.s.length ≤ 1000000000000) (h0 : q.e = 0) (least most o : Int) (hm : most ≤ 9223372036854775807) :
    CallS Tryz.prog 99 #[.pointer (some ⟨c0, 0, none⟩), .pointer (some ⟨c1, 0, none⟩), .pointer (some ⟨c2, 0, none⟩), .pointer (some ⟨c3, 0, none⟩)] E (RB b q :: PB c0 b :: IB c1 least :: IB c2 most :: IB c3 o :: L)
      (fun _ E' L' => E = E' ∧ L' = RB b (rnum q least most o).1 :: PB c0 b :: IB c1 least :: IB c2 most :: IB c3 (rnum q least most o).2 :: L) := by
  refine CallS.intro (l := [.pointer (some ⟨c0, 0, none⟩), .pointer (some ⟨c1, 0, none⟩), .pointer (some ⟨c2, 0, none⟩), .pointer (some ⟨c3, 0, none⟩)]) _ Tryz.func99 rfl Tryz.ntmps99 rfl ?_
  have he := rwide_err q h0
  refine G_seq (G_region ?_)
  refine Gv (V_load rfl rfl (Cell.own1 (.tail _ (.head _)))) ?_
  refine Gv (V_nilCheck rfl rfl) ?_
  refine Gv (V_fieldAddr rfl rfl (by decide)) ?_
  refine Gv (V_fieldAddr rfl rfl (by decide)) ?_
  refine Gv (V_load rfl rfl (Cell.own (.head _) rfl)) ?_
  refine Ga ?_
  refine G_end (X_then (G_seq (G_seq (G_region ?_))))
  refine Gv (V_load rfl rfl (Cell.own1 (.tail _ (.tail _ (.head _))))) ?_
  refine Gv (V_lss rfl rfl rfl) ?_
  refine Gm ?_
  apply G_joinOr 4 13 17 rfl
  · intro H1
    dsimp only [List.take]
    simp only [Bool.and_eq_true, Bool.or_eq_true, Bool.not_eq_true', Bool.not_eq_false', Bool.and_eq_false_iff, Bool.or_eq_false_iff, Bool.not_not, decide_eq_true_eq, decide_eq_false_iff_not, ne_eq, Decidable.not_not, Bool.decide_eq_true] at H1
    refine Gn ?_
    refine Gn ?_
    refine Gn ?_
    refine Gv (V_pick_t rfl rfl rfl) ?_
    refine G_end ?_
    exact JQ_end 4 rfl rfl (by kernel_rfl)
  · intro H2
    dsimp only [List.take]
    simp only [Bool.and_eq_true, Bool.or_eq_true, Bool.not_eq_true', Bool.not_eq_false', Bool.and_eq_false_iff, Bool.or_eq_false_iff, Bool.not_not, decide_eq_true_eq, decide_eq_false_iff_not, ne_eq, Decidable.not_not, Bool.decide_eq_true] at H2
    refine Gy (V_load rfl rfl (Cell.own1 (.tail _ (.tail _ (.head _))))) ?_
    refine Gy (V_load rfl rfl (Cell.own1 (.tail _ (.tail _ (.tail _ (.head _)))))) ?_
    refine Gy (V_gtr rfl rfl rfl) ?_
    refine Gv (V_pick_f rfl rfl rfl) ?_
    refine G_end ?_
    exact JQ_end 4 rfl rfl (by kernel_rfl)
  dsimp only [List.drop]
  refine G_end (X_then ?_)
  refine G_cond rfl (fun H3 => ?_) (fun H3 => ?_)
  · simp only [Bool.and_eq_true, Bool.or_eq_true, Bool.not_eq_true', Bool.not_eq_false', Bool.and_eq_false_iff, Bool.or_eq_false_iff, Bool.not_not, decide_eq_true_eq, decide_eq_false_iff_not, ne_eq, Decidable.not_not, Bool.decide_eq_true] at H3
    refine G_seq (G_region ?_)
    refine Gv (V_load rfl rfl (Cell.own1 (.tail _ (.head _)))) ?_
    refine Gm ?_
    refine G_call (k := 100) (.mk rfl rfl rfl rfl) rfl rfl (.none rfl) (fails_call _ _ _ _ _ _) ?_
    rintro r4 E5 L6 hE7 ⟨rfl, ⟨rfl, rfl⟩⟩
    refine G_end (X_then (G_ret (X_then_ret ?_)))
    refine G_leaveS (.keep _ (.keep _ (.keep _ (.keep _ (.keep _ (.nil _)))))) (by exact (.nil)) rfl ?_ ?_
    · exact (.refl _)
    exact ⟨(by rfl), (by (simp (discharger := omega) only [resVal, rnum, if_pos, if_neg]; first | done | rfl))⟩
  simp only [Bool.and_eq_true, Bool.or_eq_true, Bool.not_eq_true', Bool.not_eq_false', Bool.and_eq_false_iff, Bool.or_eq_false_iff, Bool.not_not, decide_eq_true_eq, decide_eq_false_iff_not, ne_eq, Decidable.not_not, Bool.decide_eq_true] at H3
  refine G_skip (X_then (G_seq (G_region ?_)))
  refine Gv (V_load rfl rfl (Cell.own1 (.tail _ (.head _)))) ?_
  refine G_call (k := 101) (.mk rfl rfl rfl rfl) rfl rfl (.none rfl) (wide_call _ _ _ _ (by assumption)) ?_
  rintro r8 E9 L10 hE11 ⟨rfl, ⟨rfl, rfl⟩⟩
  refine Ga ?_
  refine G_end (X_then (G_seq (G_seq (G_region ?_))))
  refine Gv (V_load rfl rfl (Cell.own1 (.tail _ (.head _)))) ?_
  refine Gv (V_nilCheck rfl rfl) ?_
  refine Gv (V_fieldAddr rfl rfl (by decide)) ?_
  refine Gv (V_fieldAddr rfl rfl (by decide)) ?_
  refine Gv (V_fieldAddr rfl rfl (by decide)) ?_
  refine Gv (V_load rfl rfl (Cell.own (.head _) rfl)) ?_
  refine Gv (V_eql rfl rfl rfl) ?_
  refine Gm ?_
  apply G_joinAnd 11 30 41 rfl
  · intro H12
    dsimp only [List.take]
    simp only [Bool.and_eq_true, Bool.or_eq_true, Bool.not_eq_true', Bool.not_eq_false', Bool.and_eq_false_iff, Bool.or_eq_false_iff, Bool.not_not, decide_eq_true_eq, decide_eq_false_iff_not, ne_eq, Decidable.not_not, Bool.decide_eq_true] at H12
    refine Gy (V_move rfl rfl) ?_
    refine Gy (V_load rfl rfl (Cell.own1 (.tail _ (.tail _ (.head _))))) ?_
    refine Gy (V_conv_u64 rfl rfl (by omega) (by omega)) ?_
    refine Gy (V_lss rfl rfl rfl) ?_
    refine Gy (V_move rfl rfl) ?_
    apply G_joinOr 5 35 40 rfl
    · intro H13
      dsimp only [List.take]
      simp only [Bool.and_eq_true, Bool.or_eq_true, Bool.not_eq_true', Bool.not_eq_false', Bool.and_eq_false_iff, Bool.or_eq_false_iff, Bool.not_not, decide_eq_true_eq, decide_eq_false_iff_not, ne_eq, Decidable.not_not, Bool.decide_eq_true] at H13
      refine Gn ?_
      refine Gn ?_
      refine Gn ?_
      refine Gn ?_
      refine Gy (V_pick_t rfl rfl rfl) ?_
      refine G_end ?_
      exact JQ_end 5 rfl rfl (by kernel_rfl)
    · intro H14
      dsimp only [List.take]
      simp only [Bool.and_eq_true, Bool.or_eq_true, Bool.not_eq_true', Bool.not_eq_false', Bool.and_eq_false_iff, Bool.or_eq_false_iff, Bool.not_not, decide_eq_true_eq, decide_eq_false_iff_not, ne_eq, Decidable.not_not, Bool.decide_eq_true] at H14
      refine Gy (V_move rfl rfl) ?_
      refine Gy (V_load rfl rfl (Cell.own1 (.tail _ (.tail _ (.tail _ (.head _)))))) ?_
      refine Gy (V_conv_u64 rfl rfl (by omega) (by omega)) ?_
      refine Gy (V_gtr rfl rfl rfl) ?_
      refine Gy (V_pick_f rfl rfl rfl) ?_
      refine G_end ?_
      exact JQ_end 5 rfl rfl (by kernel_rfl)
    dsimp only [List.drop]
    refine Gv (V_pick_t rfl rfl rfl) ?_
    refine G_end ?_
    exact JQ_end 7 rfl rfl (by kernel_rfl)
  · intro H15
    dsimp only [List.take]
    simp only [Bool.and_eq_true, Bool.or_eq_true, Bool.not_eq_true', Bool.not_eq_false', Bool.and_eq_false_iff, Bool.or_eq_false_iff, Bool.not_not, decide_eq_true_eq, decide_eq_false_iff_not, ne_eq, Decidable.not_not, Bool.decide_eq_true] at H15
    refine Gn ?_
    refine Gn ?_
    refine Gn ?_
    refine Gn ?_
    refine Gn ?_
    refine G_stay (.un rfl rfl rfl rfl) rfl rfl ?_
    refine G_stay (.un rfl rfl rfl rfl) rfl rfl ?_
    refine G_stay (.un rfl rfl rfl rfl) rfl rfl ?_
    refine G_stay (.un rfl rfl rfl rfl) rfl rfl ?_
    refine Gn ?_
    refine Gv (V_pick_f rfl rfl rfl) ?_
    refine G_end ?_
    exact JQ_end 11 rfl rfl (by kernel_rfl)
  dsimp only [List.drop]
  refine G_end (X_then ?_)
  refine G_cond rfl (fun H16 => ?_) (fun H16 => ?_)
  · simp only [Bool.and_eq_true, Bool.or_eq_true, Bool.not_eq_true', Bool.not_eq_false', Bool.and_eq_false_iff, Bool.or_eq_false_iff, Bool.not_not, decide_eq_true_eq, decide_eq_false_iff_not, ne_eq, Decidable.not_not, Bool.decide_eq_true] at H16
    refine G_seq (G_region ?_)
    refine Gv (V_load rfl rfl (Cell.own1 (.tail _ (.head _)))) ?_
    refine Gm ?_
    refine G_call (k := 100) (.mk rfl rfl rfl rfl) rfl rfl (.none rfl) (fails_call _ _ _ _ _ _) ?_
    rintro r17 E18 L19 hE20 ⟨rfl, ⟨rfl, rfl⟩⟩
    refine G_end (X_then (G_ret (X_then_ret ?_)))
    refine G_leaveS (.keep _ (.keep _ (.keep _ (.keep _ (.keep _ (.nil _)))))) (by exact (.nil)) rfl ?_ ?_
    · exact (.refl _)
    exact ⟨(by rfl), (by (simp (discharger := omega) only [resVal, rnum, if_pos, if_neg]; first | done | rfl))⟩
  simp only [Bool.and_eq_true, Bool.or_eq_true, Bool.not_eq_true', Bool.not_eq_false', Bool.and_eq_false_iff, Bool.or_eq_false_iff, Bool.not_not, decide_eq_true_eq, decide_eq_false_iff_not, ne_eq, Decidable.not_not, Bool.decide_eq_true] at H16
  refine G_skip (X_then (G_region ?_))
  refine Gm ?_
  refine Gv (V_conv_i64 rfl rfl (by omega) (by omega)) ?_
  refine G_store1 rfl rfl rfl rfl rfl rfl (.none rfl) (.tail _ (.tail _ (.tail _ (.tail _ (.head _ _ _))))) ?_
  refine G_end ?_
  refine G_leaveS_n (.keep _ (.keep _ (.keep _ (.keep _ (.keep _ (.nil _)))))) (by exact (.nil)) rfl ?_ ?_
  · exact (.refl _)
  exact ⟨(by rfl), (by (simp (discharger := omega) only [resVal, rnum, if_pos, if_neg]; first | done | rfl))⟩

/-- A number with an upper bound. -/
def rwd (q : Rdr) (most : Nat) : Rdr × Nat :=
  if (rwide q).1.e = 0 ∧ most < (rwide q).2 then (⟨(rwide q).1.s, (rwide q).1.at', 2, q.at'⟩, (rwide q).2) else rwide q
/-- A string of at most so many bytes. -/
def rstr (q : Rdr) (most : Int) (o : List UInt8) : Rdr × List UInt8 :=
  if most < 0 then (⟨q.s, q.at', 2, q.at'⟩, o)
  else if (rwide q).1.e ≠ 0 then ((rwide q).1, o)
  else if most < ((rwide q).2 : Int) then (⟨(rwide q).1.s, (rwide q).1.at', 4, q.at'⟩, o)
  else if 20000 < (rwide q).2 then (⟨(rwide q).1.s, (rwide q).1.at', 5, (rwide q).1.at'⟩, o)
  else rtake (rwide q).1 (rwide q).2
theorem String1_call (E : Env) (L : List Res) (c0 c1 c2 b : Nat) (q : Rdr) (hq : q.s.length ≤ 1000000000000) (h0 : q.e = 0) (hf : q.fa = 0) (ha : 0 ≤ q.at') (hl : q.at' ≤ q.s.length) (most : Int) (hm : most ≤ 9223372036854775807) (o : List UInt8) :
    CallS Tryz.prog 102 #[.pointer (some ⟨c0, 0, none⟩), .pointer (some ⟨c1, 0, none⟩), .pointer (some ⟨c2, 0, none⟩)] E (RB b q :: PB c0 b :: IB c1 most :: SB c2 o :: L)
      (fun _ E' L' => E = E' ∧ L' = RB b (rstr q most o).1 :: PB c0 b :: IB c1 most :: SB c2 (rstr q most o).2 :: L) := by
  refine CallS.intro (l := [.pointer (some ⟨c0, 0, none⟩), .pointer (some ⟨c1, 0, none⟩), .pointer (some ⟨c2, 0, none⟩)]) _ Tryz.func102 rfl Tryz.ntmps102 rfl ?_
  have he := rwide_props q h0 hf ha hl
  have hs := rwide_s q
  have hs' := congrArg List.length hs
  refine G_seq (G_region ?_)
  refine Gv (V_load rfl rfl (Cell.own1 (.tail _ (.head _)))) ?_
  refine Gv (V_nilCheck rfl rfl) ?_
  refine Gv (V_fieldAddr rfl rfl (by decide)) ?_
  refine Gv (V_fieldAddr rfl rfl (by decide)) ?_
  refine Gv (V_load rfl rfl (Cell.own (.head _) rfl)) ?_
  refine Ga ?_
  refine G_end (X_then (G_seq (G_seq (G_region ?_))))
  refine Gv (V_load rfl rfl (Cell.own1 (.tail _ (.tail _ (.head _))))) ?_
  refine Gv (V_lss rfl rfl rfl) ?_
  refine G_end (X_then ?_)
  refine G_cond rfl (fun H1 => ?_) (fun H1 => ?_)
  · simp only [Bool.and_eq_true, Bool.or_eq_true, Bool.not_eq_true', Bool.not_eq_false', Bool.and_eq_false_iff, Bool.or_eq_false_iff, Bool.not_not, decide_eq_true_eq, decide_eq_false_iff_not, ne_eq, Decidable.not_not, Bool.decide_eq_true] at H1
    refine G_seq (G_region ?_)
    refine Gv (V_load rfl rfl (Cell.own1 (.tail _ (.head _)))) ?_
    refine Gm ?_
    refine G_call (k := 100) (.mk rfl rfl rfl rfl) rfl rfl (.none rfl) (fails_call _ _ _ _ _ _) ?_
    rintro r2 E3 L4 hE5 ⟨rfl, ⟨rfl, rfl⟩⟩
    refine G_end (X_then (G_ret (X_then_ret ?_)))
    refine G_leaveS (.keep _ (.keep _ (.keep _ (.keep _ (.nil _))))) (by exact (.nil)) rfl ?_ ?_
    · exact (.refl _)
    exact ⟨(by rfl), (by (simp (discharger := omega) only [resVal, rstr, if_pos, if_neg]; first | done | rfl))⟩
  simp only [Bool.and_eq_true, Bool.or_eq_true, Bool.not_eq_true', Bool.not_eq_false', Bool.and_eq_false_iff, Bool.or_eq_false_iff, Bool.not_not, decide_eq_true_eq, decide_eq_false_iff_not, ne_eq, Decidable.not_not, Bool.decide_eq_true] at H1
  refine G_skip (X_then (G_seq (G_region ?_)))
  refine Gv (V_load rfl rfl (Cell.own1 (.tail _ (.head _)))) ?_
  refine G_call (k := 101) (.mk rfl rfl rfl rfl) rfl rfl (.none rfl) (wide_call _ _ _ _ (by assumption)) ?_
  rintro r6 E7 L8 hE9 ⟨rfl, ⟨rfl, rfl⟩⟩
  refine Ga ?_
  refine G_end (X_then (G_block (G_seq (G_region ?_))))
  refine Gv (V_load rfl rfl (Cell.own1 (.tail _ (.head _)))) ?_
  refine Gv (V_nilCheck rfl rfl) ?_
  refine Gv (V_fieldAddr rfl rfl (by decide)) ?_
  refine Gv (V_fieldAddr rfl rfl (by decide)) ?_
  refine Gv (V_fieldAddr rfl rfl (by decide)) ?_
  refine Gv (V_load rfl rfl (Cell.own (.head _) rfl)) ?_
  refine Gv (V_neq rfl rfl rfl) ?_
  refine Ga ?_
  refine G_end (X_then ?_)
  refine G_cond rfl (fun H10 => ?_) (fun H10 => ?_)
  · simp only [Bool.and_eq_true, Bool.or_eq_true, Bool.not_eq_true', Bool.not_eq_false', Bool.and_eq_false_iff, Bool.or_eq_false_iff, Bool.not_not, decide_eq_true_eq, decide_eq_false_iff_not, ne_eq, Decidable.not_not, Bool.decide_eq_true] at H10
    refine G_skip (X_block ?_)
    refine G_leaveS_n (.keep _ (.keep _ (.keep _ (.keep _ (.nil _))))) (by exact (.nil)) rfl ?_ ?_
    · exact (.refl _)
    exact ⟨(by rfl), (by (simp (discharger := omega) only [resVal, rstr, if_pos, if_neg]; first | done | rfl))⟩
  simp only [Bool.and_eq_true, Bool.or_eq_true, Bool.not_eq_true', Bool.not_eq_false', Bool.and_eq_false_iff, Bool.or_eq_false_iff, Bool.not_not, decide_eq_true_eq, decide_eq_false_iff_not, ne_eq, Decidable.not_not, Bool.decide_eq_true] at H10
  refine G_seq (G_region ?_)
  refine Gm ?_
  refine Gv (V_load rfl rfl (Cell.own1 (.tail _ (.tail _ (.head _))))) ?_
  refine Gv (V_conv_u64 rfl rfl (by omega) (by omega)) ?_
  refine Gv (V_gtr rfl rfl rfl) ?_
  refine Ga ?_
  refine G_end (X_then ?_)
  refine G_cond rfl (fun H11 => ?_) (fun H11 => ?_)
  · simp only [Bool.and_eq_true, Bool.or_eq_true, Bool.not_eq_true', Bool.not_eq_false', Bool.and_eq_false_iff, Bool.or_eq_false_iff, Bool.not_not, decide_eq_true_eq, decide_eq_false_iff_not, ne_eq, Decidable.not_not, Bool.decide_eq_true] at H11
    refine G_region ?_
    refine Gv (V_load rfl rfl (Cell.own1 (.tail _ (.head _)))) ?_
    refine Gm ?_
    refine G_call (k := 100) (.mk rfl rfl rfl rfl) rfl rfl (.none rfl) (fails_call _ _ _ _ _ _) ?_
    rintro r12 E13 L14 hE15 ⟨rfl, ⟨rfl, rfl⟩⟩
    refine G_end (X_block ?_)
    refine G_leaveS_n (.keep _ (.keep _ (.keep _ (.keep _ (.nil _))))) (by exact (.nil)) rfl ?_ ?_
    · exact (.refl _)
    exact ⟨(by rfl), (by (simp (discharger := omega) only [resVal, rstr, if_pos, if_neg]; first | done | rfl))⟩
  simp only [Bool.and_eq_true, Bool.or_eq_true, Bool.not_eq_true', Bool.not_eq_false', Bool.and_eq_false_iff, Bool.or_eq_false_iff, Bool.not_not, decide_eq_true_eq, decide_eq_false_iff_not, ne_eq, Decidable.not_not, Bool.decide_eq_true] at H11
  refine G_seq (G_region ?_)
  refine Gm ?_
  refine Gv (V_gtr rfl rfl rfl) ?_
  refine Ga ?_
  refine G_end (X_then ?_)
  refine G_cond rfl (fun H16 => ?_) (fun H16 => ?_)
  · simp only [Bool.and_eq_true, Bool.or_eq_true, Bool.not_eq_true', Bool.not_eq_false', Bool.and_eq_false_iff, Bool.or_eq_false_iff, Bool.not_not, decide_eq_true_eq, decide_eq_false_iff_not, ne_eq, Decidable.not_not, Bool.decide_eq_true] at H16
    refine G_drawX 6 [(0, 1), (1, 1), (2, 0), (3, 0), (4, 0), (5, 1)] mixed (by kernel_rfl) ?_
    refine F_load rfl (.tail _ (.head _)) (V_load rfl rfl (Cell.own1 (.head _))) rfl rfl (.none rfl) ?_
    refine F_load rfl (.tail _ (.head _)) (V_load rfl rfl (Cell.own1 (.head _))) rfl rfl (.none rfl) ?_
    refine F_pure rfl (fun _ _ => V_nilCheck rfl rfl) rfl rfl (.none rfl) ?_
    refine F_pure rfl (fun _ _ => V_fieldAddr rfl rfl (by decide)) rfl rfl (.none rfl) ?_
    refine F_pure rfl (fun _ _ => V_fieldAddr rfl rfl (by decide)) rfl rfl (.none rfl) ?_
    refine F_load rfl (.head _) (V_load rfl rfl (Cell.own (.head _) rfl)) rfl rfl (.none rfl) ?_
    (refine F_end (.nil _) ?_; dsimp only [List.drop])
    refine G_call (k := 100) (.mk rfl rfl rfl rfl) rfl rfl (.none rfl) (fails_call _ _ _ _ _ _) ?_
    rintro r17 E18 L19 hE20 ⟨rfl, ⟨rfl, rfl⟩⟩
    refine G_end (X_block ?_)
    refine G_leaveS_n (.keep _ (.keep _ (.keep _ (.keep _ (.nil _))))) (by exact (.nil)) rfl ?_ ?_
    · exact (.refl _)
    exact ⟨(by rfl), (by (simp (discharger := omega) only [resVal, rstr, if_pos, if_neg]; first | done | rfl))⟩
  simp only [Bool.and_eq_true, Bool.or_eq_true, Bool.not_eq_true', Bool.not_eq_false', Bool.and_eq_false_iff, Bool.or_eq_false_iff, Bool.not_not, decide_eq_true_eq, decide_eq_false_iff_not, ne_eq, Decidable.not_not, Bool.decide_eq_true] at H16
  refine G_region ?_
  refine Gv (V_load rfl rfl (Cell.own1 (.tail _ (.head _)))) ?_
  refine Gm ?_
  refine Gv (V_conv_i64 rfl rfl (by omega) (by omega)) ?_
  refine G_call (k := 103) (.mk rfl rfl rfl rfl) rfl rfl (.none rfl) (take_call _ _ _ _ (by omega) (by omega) (by omega) _ (by omega)) ?_
  rintro r21 E22 L23 hE24 ⟨rfl, ⟨rfl, rfl⟩⟩
  refine G_store1 rfl rfl rfl rfl rfl rfl (.none rfl) (.tail _ (.tail _ (.tail _ (.head _ _ _)))) ?_
  refine G_end (X_block ?_)
  refine G_leaveS_n (.keep _ (.keep _ (.keep _ (.keep _ (.nil _))))) (by exact (.nil)) rfl ?_ ?_
  · exact (.refl _)
  exact ⟨(by rfl), (by (simp (discharger := omega) only [resVal, rstr, if_pos, if_neg]; first | done | rfl))⟩

def rfix (q : Rdr) (n : Int) (o : List UInt8) : Rdr × List UInt8 := if n < 0 then (⟨q.s, q.at', 2, q.at'⟩, o) else rtake q n
end Go.Proofs.YtjhehanknkonnaaGreatDoor
