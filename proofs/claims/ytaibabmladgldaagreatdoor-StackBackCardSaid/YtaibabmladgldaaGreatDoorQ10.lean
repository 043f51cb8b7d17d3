/-
  Rules and contracts, packed: T12, T13, Sep40, Sep41, T14, S23, S24, S28.
-/
import Derived.Lib.BufferWrite
import Derived.FnData
import GoSem.ClaimJoined
import Derived.OpenShut
import Derived.Test.YtaibabmladgldaaGreatDoorQ9
set_option maxHeartbeats 1000000
set_option linter.unusedSimpArgs false
set_option linter.unusedVariables false
set_option maxHeartbeats 2000000
set_option maxRecDepth 20000
namespace Go.Proofs.YtaibabmladgldaaGreatDoor
open Go.RowKit
/-! internal/strconv.ParseInt to the base 10: some number, some error or none. -/
theorem wrap_i64r (m : Int) : -9223372036854775808 ≤ IntKind.i64.wrap m ∧ IntKind.i64.wrap m ≤ 9223372036854775807 := by
  have : IntKind.i64.wrap m = if m % 18446744073709551616 < 9223372036854775808 then m % 18446744073709551616 else m % 18446744073709551616 - 18446744073709551616 := by
    simp [IntKind.wrap, IntKind.signed, IntKind.bits]
    split <;> split <;> omega
  rw [this]
  split <;> omega
section
variable (E : Env) (L : List Res)
theorem ParseInt_call (s : List UInt8) (hs : s.length ≤ 1000000) : CallS Tryz.prog 79 #[.string (S s), .int .i64 10, .int .i64 0] E L (fun r E' L' => NumR r ∧ L' = L) := by
  have hsyn : NumR (.tuple #[.int .i64 0, .iface 111 (.int .i64 2)]) := ⟨⟨_, _, rfl, by omega, by omega, .inr ⟨2, .inr rfl, rfl⟩⟩⟩
  refine CallS.intro (l := [_, _, _]) _ Tryz.func79 rfl Tryz.ntmps79 rfl ?_
  by_cases hne : s = []
  · refine G_seq ?_
    refine G_region ?_
    refine Ga ?_
    refine Ga ?_
    refine G_end (X_then (G_seq (G_seq (G_region ?_))))
    refine Gm ?_
    refine Gv (V_seql rfl rfl rfl) ?_
    refine G_end (X_then ?_)
    refine G_cond_t rfl (decide_eq_true (by omega)) ?_
    refine G_seq (G_region ?_)
    refine Gv (V_iface rfl rfl rfl) ?_
    refine Ga ?_
    refine Ga ?_
    refine G_end (X_then (G_ret (X_then_ret ?_)))
    refine G_leaveS (.nil _) (by exact (.cons (.tmp rfl) (.cons (.tmp rfl) (.nil)))) rfl ?_ ?_
    · exact (.refl _)
    exact ⟨(by assumption), rfl⟩
  have h1 := List.length_pos_iff.2 hne
  have hc0 := List.getElem?_eq_getElem h1
  generalize s[0] = c0 at *
  have hdl : (s.drop (1 : Int).toNat).length ≤ 1000000 := by simp; omega
  refine G_ways (Y := ?Y) (β := Bool × Value × Env) (J := fun y => E.Le y.2.2 ∧ UnumR y.2.1) (fs' := fun y => [(2, .int .i64 0), (7, .nilIface), (8, .bool y.1), (9, .int .u64 0), (29, y.2.1)]) (E' := fun y => y.2.2) (L' := fun _ => L) ?_ ?_
  rotate_left
  · intro hk
    by_cases h43 : c0.toNat = 43
    · refine G_seq ?_
      refine G_region ?_
      refine Ga ?_
      refine Ga ?_
      refine G_end (X_then (G_seq (G_seq (G_region ?_))))
      refine Gm ?_
      refine Gv (V_seql rfl rfl rfl) ?_
      refine G_end (X_then ?_)
      refine G_cond_f rfl (decide_eq_false (by omega)) ?_
      refine G_skip (X_then (G_seq (G_region ?_)))
      refine Ga ?_
      refine G_end (X_then (G_seq (G_seq (G_region ?_))))
      refine Gm ?_
      refine Gv (V_sidx rfl rfl rfl (by omega) (by assumption)) ?_
      refine G_end (X_then (G_block (G_seq (G_region ?_))))
      refine Gv (V_eql rfl rfl rfl) ?_
      refine Ga ?_
      refine G_end (X_then ?_)
      refine G_cond_t rfl (decide_eq_true (by omega)) ?_
      refine G_region ?_
      refine Gm ?_
      refine Gv (V_back rfl rfl rfl (by omega) (by omega)) ?_
      refine Ga ?_
      refine G_end (X_block (X_then (G_seq (G_region ?_))))
      refine Ga ?_
      refine G_end (X_then (G_seq (G_region ?_)))
      refine Gm ?_
      refine Gm ?_
      refine Gm ?_
      refine G_call (k := 96) (.mk rfl rfl rfl rfl) rfl rfl (.none rfl) (ParseUintA_call _ _ _ hdl) ?_
      rintro r1 E4 L4 hE4 ⟨hu, hL4⟩; rw [hL4]
      refine G.sub [(2, .int .i64 0), (7, .nilIface), (8, .bool false), (9, .int .u64 0), (29, r1)] ⟨rfl, rfl, rfl, rfl, rfl, trivial⟩ ?_
      exact hk (false, r1, E4) ⟨hE4, hu⟩
    · by_cases h45 : c0.toNat = 45
      · refine G_seq ?_
        refine G_region ?_
        refine Ga ?_
        refine Ga ?_
        refine G_end (X_then (G_seq (G_seq (G_region ?_))))
        refine Gm ?_
        refine Gv (V_seql rfl rfl rfl) ?_
        refine G_end (X_then ?_)
        refine G_cond_f rfl (decide_eq_false (by omega)) ?_
        refine G_skip (X_then (G_seq (G_region ?_)))
        refine Ga ?_
        refine G_end (X_then (G_seq (G_seq (G_region ?_))))
        refine Gm ?_
        refine Gv (V_sidx rfl rfl rfl (by omega) (by assumption)) ?_
        refine G_end (X_then (G_block (G_seq (G_region ?_))))
        refine Gv (V_eql rfl rfl rfl) ?_
        refine Ga ?_
        refine G_end (X_then ?_)
        refine G_cond_f rfl (decide_eq_false (by omega)) ?_
        refine G_seq (G_region ?_)
        refine Gv (V_eql rfl rfl rfl) ?_
        refine Ga ?_
        refine G_end (X_then ?_)
        refine G_cond_t rfl (decide_eq_true (by omega)) ?_
        refine G_seq (G_region ?_)
        refine Gm ?_
        refine Gv (V_back rfl rfl rfl (by omega) (by omega)) ?_
        refine Ga ?_
        refine G_end (X_then (G_region ?_))
        refine Ga ?_
        refine G_end (X_block (X_then (G_seq (G_region ?_))))
        refine Ga ?_
        refine G_end (X_then (G_seq (G_region ?_)))
        refine Gm ?_
        refine Gm ?_
        refine Gm ?_
        refine G_call (k := 96) (.mk rfl rfl rfl rfl) rfl rfl (.none rfl) (ParseUintA_call _ _ _ hdl) ?_
        rintro r1 E4 L4 hE4 ⟨hu, hL4⟩; rw [hL4]
        refine G.sub [(2, .int .i64 0), (7, .nilIface), (8, .bool true), (9, .int .u64 0), (29, r1)] ⟨rfl, rfl, rfl, rfl, rfl, trivial⟩ ?_
        exact hk (true, r1, E4) ⟨hE4, hu⟩
      · refine G_seq ?_
        refine G_region ?_
        refine Ga ?_
        refine Ga ?_
        refine G_end (X_then (G_seq (G_seq (G_region ?_))))
        refine Gm ?_
        refine Gv (V_seql rfl rfl rfl) ?_
        refine G_end (X_then ?_)
        refine G_cond_f rfl (decide_eq_false (by omega)) ?_
        refine G_skip (X_then (G_seq (G_region ?_)))
        refine Ga ?_
        refine G_end (X_then (G_seq (G_seq (G_region ?_))))
        refine Gm ?_
        refine Gv (V_sidx rfl rfl rfl (by omega) (by assumption)) ?_
        refine G_end (X_then (G_block (G_seq (G_region ?_))))
        refine Gv (V_eql rfl rfl rfl) ?_
        refine Ga ?_
        refine G_end (X_then ?_)
        refine G_cond_f rfl (decide_eq_false (by omega)) ?_
        refine G_seq (G_region ?_)
        refine Gv (V_eql rfl rfl rfl) ?_
        refine Ga ?_
        refine G_end (X_then ?_)
        refine G_cond_f rfl (decide_eq_false (by omega)) ?_
        refine G_skip (X_block (X_then (G_seq (G_region ?_))))
        refine Ga ?_
        refine G_end (X_then (G_seq (G_region ?_)))
        refine Gm ?_
        refine Gm ?_
        refine Gm ?_
        refine G_call (k := 96) (.mk rfl rfl rfl rfl) rfl rfl (.none rfl) (ParseUintA_call _ _ _ hs) ?_
        rintro r1 E4 L4 hE4 ⟨hu, hL4⟩; rw [hL4]
        refine G.sub [(2, .int .i64 0), (7, .nilIface), (8, .bool false), (9, .int .u64 0), (29, r1)] ⟨rfl, rfl, rfl, rfl, rfl, trivial⟩ ?_
        exact hk (false, r1, E4) ⟨hE4, hu⟩
  · rintro ⟨neg, r1, E2⟩ ⟨hE, ⟨⟨n, e, rfl, hn, he⟩⟩⟩
    simp only at hE ⊢
    have h63 : shlI .u64 1 (64 - 1) = 9223372036854775808 := by kernel_rfl
    have hr : ∀ m : Int, NumR (.tuple #[.int .i64 (IntKind.i64.wrap m), .nilIface]) := fun m => ⟨⟨_, _, rfl, (wrap_i64r m).1, (wrap_i64r m).2, .inl rfl⟩⟩
    have hr1 : ∀ m : Int, NumR (.tuple #[.int .i64 (IntKind.i64.wrap m), .iface 111 (.int .i64 1)]) := fun m => ⟨⟨_, _, rfl, (wrap_i64r m).1, (wrap_i64r m).2, .inr ⟨1, .inl rfl, rfl⟩⟩⟩
    rcases he with rfl | ⟨k, rfl | rfl, rfl⟩
    · refine Gm ?_
      refine Gv (V_extract rfl rfl rfl) ?_
      refine Gv (V_extract rfl rfl rfl) ?_
      refine Ga ?_
      refine Ga ?_
      refine G_end (X_then (G_seq (G_seq (G_region ?_))))
      refine Gm ?_
      refine Gv (V_neNN rfl rfl rfl) ?_
      cases neg with
      | false =>
        by_cases hb : n < 9223372036854775808
        · have hf : NumR (.tuple #[.int .i64 (n : Nat), .nilIface]) := ⟨⟨_, _, rfl, by omega, by omega, .inl rfl⟩⟩
          refine Gm ?_
          refine Gn ?_
          refine Gn ?_
          refine Gn ?_
          refine Gv (V_pick_f rfl rfl rfl) ?_
          refine G_end (X_then ?_)
          refine G_cond_f rfl rfl ?_
          refine G_skip (X_then (G_seq (G_seq (G_region ?_))))
          refine Gm ?_
          refine Gv (V_eql rfl rfl rfl) ?_
          refine G_end (X_then ?_)
          refine G_cond_t rfl (by kernel_rfl) ?_
          refine G_region ?_
          refine Ga ?_
          refine G_end (X_then (G_seq (G_region ?_)))
          refine Gm ?_
          refine Gv (V_sub_i64 rfl rfl rfl (by omega) (by omega)) ?_
          refine Gv (V_conv_u64 rfl rfl (by omega) (by omega)) ?_
          refine Gv (V_shl rfl rfl rfl (by omega)) ?_
          refine Ga ?_
          refine G_end (X_then (G_seq (G_seq (G_region ?_))))
          refine Gm ?_
          refine Gv (V_not rfl rfl) ?_
          refine Gm ?_
          refine G.bool_t 48 rfl (by kernel_rfl) ?_
          refine Gy (V_move rfl rfl) ?_
          refine Gy (V_move rfl rfl) ?_
          refine Gy (V_geq rfl rfl rfl) ?_
          refine Gv (V_pick_t rfl rfl rfl) ?_
          refine G_end (X_then ?_)
          refine G_cond_f rfl (decide_eq_false (by omega)) ?_
          refine G_skip (X_then (G_seq (G_seq (G_region ?_))))
          refine Gm ?_
          refine Gm ?_
          refine Gn ?_
          refine Gn ?_
          refine Gn ?_
          refine Gv (V_pick_f rfl rfl rfl) ?_
          refine G_end (X_then ?_)
          refine G_cond_f rfl rfl ?_
          refine G_skip (X_then (G_seq (G_region ?_)))
          refine Gm ?_
          refine Gv (V_conv_i64 rfl rfl (by omega) (by omega)) ?_
          refine Ga ?_
          refine G_end (X_then (G_seq (G_seq (G_region ?_))))
          refine Gm ?_
          refine G_end (X_then ?_)
          refine G_cond_f rfl rfl ?_
          refine G_skip (X_then (G_seq (G_region ?_)))
          refine Gm ?_
          refine Ga ?_
          refine Ga ?_
          refine G_end (X_then (G_ret ?_))
          refine G_leaveS (.nil _) (by exact (.cons (.tmp rfl) (.cons (.tmp rfl) (.nil)))) rfl ?_ ?_
          · exact hE
          exact ⟨(by assumption), rfl⟩
        · have hf2 : NumR (.tuple #[.int .i64 (shlI .u64 1 (64 - 1) - 1), .iface 111 (.int .i64 1)]) := by
            rw [h63]; exact ⟨⟨_, _, rfl, by omega, by omega, .inr ⟨1, .inl rfl, rfl⟩⟩⟩
          refine Gm ?_
          refine Gn ?_
          refine Gn ?_
          refine Gn ?_
          refine Gv (V_pick_f rfl rfl rfl) ?_
          refine G_end (X_then ?_)
          refine G_cond_f rfl rfl ?_
          refine G_skip (X_then (G_seq (G_seq (G_region ?_))))
          refine Gm ?_
          refine Gv (V_eql rfl rfl rfl) ?_
          refine G_end (X_then ?_)
          refine G_cond_t rfl (by kernel_rfl) ?_
          refine G_region ?_
          refine Ga ?_
          refine G_end (X_then (G_seq (G_region ?_)))
          refine Gm ?_
          refine Gv (V_sub_i64 rfl rfl rfl (by omega) (by omega)) ?_
          refine Gv (V_conv_u64 rfl rfl (by omega) (by omega)) ?_
          refine Gv (V_shl rfl rfl rfl (by omega)) ?_
          refine Ga ?_
          refine G_end (X_then (G_seq (G_seq (G_region ?_))))
          refine Gm ?_
          refine Gv (V_not rfl rfl) ?_
          refine Gm ?_
          refine G.bool_t 48 rfl (by kernel_rfl) ?_
          refine Gy (V_move rfl rfl) ?_
          refine Gy (V_move rfl rfl) ?_
          refine Gy (V_geq rfl rfl rfl) ?_
          refine Gv (V_pick_t rfl rfl rfl) ?_
          refine G_end (X_then ?_)
          refine G_cond_t rfl (decide_eq_true (by omega)) ?_
          refine G_seq (G_region ?_)
          refine Gm ?_
          refine Gv (V_sub_u64 rfl rfl rfl (by omega) (by omega)) ?_
          refine Gv (V_conv_i64 rfl rfl (by omega) (by omega)) ?_
          refine Gv (V_iface rfl rfl rfl) ?_
          refine Ga ?_
          refine Ga ?_
          refine G_end (X_then (G_ret (X_then_ret ?_)))
          refine G_leaveS (.nil _) (by exact (.cons (.tmp rfl) (.cons (.tmp rfl) (.nil)))) rfl ?_ ?_
          · exact hE
          exact ⟨(by assumption), rfl⟩
      | true =>
        by_cases hb : 9223372036854775808 < n
        · have hf := hr1 (0 - IntKind.i64.wrap (shlI .u64 1 (64 - 1)))
          refine Gm ?_
          refine Gn ?_
          refine Gn ?_
          refine Gn ?_
          refine Gv (V_pick_f rfl rfl rfl) ?_
          refine G_end (X_then ?_)
          refine G_cond_f rfl rfl ?_
          refine G_skip (X_then (G_seq (G_seq (G_region ?_))))
          refine Gm ?_
          refine Gv (V_eql rfl rfl rfl) ?_
          refine G_end (X_then ?_)
          refine G_cond_t rfl (by kernel_rfl) ?_
          refine G_region ?_
          refine Ga ?_
          refine G_end (X_then (G_seq (G_region ?_)))
          refine Gm ?_
          refine Gv (V_sub_i64 rfl rfl rfl (by omega) (by omega)) ?_
          refine Gv (V_conv_u64 rfl rfl (by omega) (by omega)) ?_
          refine Gv (V_shl rfl rfl rfl (by omega)) ?_
          refine Ga ?_
          refine G_end (X_then (G_seq (G_seq (G_region ?_))))
          refine Gm ?_
          refine Gv (V_not rfl rfl) ?_
          refine Gm ?_
          refine G.bool_f 48 rfl (by kernel_rfl) ?_
          refine Gn ?_
          refine Gn ?_
          refine Gn ?_
          refine Gv (V_pick_f rfl rfl rfl) ?_
          refine G_end (X_then ?_)
          refine G_cond_f rfl rfl ?_
          refine G_skip (X_then (G_seq (G_seq (G_region ?_))))
          refine Gm ?_
          refine Gm ?_
          refine Gy (V_move rfl rfl) ?_
          refine Gy (V_move rfl rfl) ?_
          refine Gy (V_gtr rfl rfl rfl) ?_
          refine Gv (V_pick_t rfl rfl rfl) ?_
          refine G_end (X_then ?_)
          refine G_cond_t rfl (decide_eq_true (by omega)) ?_
          refine G_seq (G_region ?_)
          refine Gm ?_
          refine Gv (V_conv rfl rfl) ?_
          refine Gv (V_neg rfl rfl) ?_
          refine Gv (V_iface rfl rfl rfl) ?_
          refine Ga ?_
          refine Ga ?_
          refine G_end (X_then (G_ret (X_then_ret ?_)))
          refine G_leaveS (.nil _) (by exact (.cons (.tmp rfl) (.cons (.tmp rfl) (.nil)))) rfl ?_ ?_
          · exact hE
          exact ⟨(by assumption), rfl⟩
        · have hf := hr (0 - IntKind.i64.wrap (n : Int))
          refine Gm ?_
          refine Gn ?_
          refine Gn ?_
          refine Gn ?_
          refine Gv (V_pick_f rfl rfl rfl) ?_
          refine G_end (X_then ?_)
          refine G_cond_f rfl rfl ?_
          refine G_skip (X_then (G_seq (G_seq (G_region ?_))))
          refine Gm ?_
          refine Gv (V_eql rfl rfl rfl) ?_
          refine G_end (X_then ?_)
          refine G_cond_t rfl (by kernel_rfl) ?_
          refine G_region ?_
          refine Ga ?_
          refine G_end (X_then (G_seq (G_region ?_)))
          refine Gm ?_
          refine Gv (V_sub_i64 rfl rfl rfl (by omega) (by omega)) ?_
          refine Gv (V_conv_u64 rfl rfl (by omega) (by omega)) ?_
          refine Gv (V_shl rfl rfl rfl (by omega)) ?_
          refine Ga ?_
          refine G_end (X_then (G_seq (G_seq (G_region ?_))))
          refine Gm ?_
          refine Gv (V_not rfl rfl) ?_
          refine Gm ?_
          refine G.bool_f 48 rfl (by kernel_rfl) ?_
          refine Gn ?_
          refine Gn ?_
          refine Gn ?_
          refine Gv (V_pick_f rfl rfl rfl) ?_
          refine G_end (X_then ?_)
          refine G_cond_f rfl rfl ?_
          refine G_skip (X_then (G_seq (G_seq (G_region ?_))))
          refine Gm ?_
          refine Gm ?_
          refine Gy (V_move rfl rfl) ?_
          refine Gy (V_move rfl rfl) ?_
          refine Gy (V_gtr rfl rfl rfl) ?_
          refine Gv (V_pick_t rfl rfl rfl) ?_
          refine G_end (X_then ?_)
          refine G_cond_f rfl (decide_eq_false (by omega)) ?_
          refine G_skip (X_then (G_seq (G_region ?_)))
          refine Gm ?_
          refine Gv (V_conv rfl rfl) ?_
          refine Ga ?_
          refine G_end (X_then (G_seq (G_seq (G_region ?_))))
          refine Gm ?_
          refine G_end (X_then ?_)
          refine G_cond_t rfl rfl ?_
          refine G_region ?_
          refine Gm ?_
          refine Gv (V_neg rfl rfl) ?_
          refine Ga ?_
          refine G_end (X_then (G_seq (G_region ?_)))
          refine Gm ?_
          refine Ga ?_
          refine Ga ?_
          refine G_end (X_then (G_ret ?_))
          refine G_leaveS (.nil _) (by exact (.cons (.tmp rfl) (.cons (.tmp rfl) (.nil)))) rfl ?_ ?_
          · exact hE
          exact ⟨(by assumption), rfl⟩
    · refine Gm ?_
      refine Gv (V_extract rfl rfl rfl) ?_
      refine Gv (V_extract rfl rfl rfl) ?_
      refine Ga ?_
      refine Ga ?_
      refine G_end (X_then (G_seq (G_seq (G_region ?_))))
      refine Gm ?_
      refine Gv (V_neIN rfl rfl rfl) ?_
      refine Gm ?_
      refine Gy (V_move rfl rfl) ?_
      refine Gy (V_iface rfl rfl rfl) ?_
      refine Gy (V_neII rfl rfl rfl (by kernel_rfl)) ?_
      cases neg with
      | false =>
        by_cases hb : n < 9223372036854775808
        · have hf : NumR (.tuple #[.int .i64 (n : Nat), .nilIface]) := ⟨⟨_, _, rfl, by omega, by omega, .inl rfl⟩⟩
          refine Gv (V_pick_t rfl rfl rfl) ?_
          refine G_end (X_then ?_)
          refine G_cond_f rfl (by kernel_rfl) ?_
          refine G_skip (X_then (G_seq (G_seq (G_region ?_))))
          refine Gm ?_
          refine Gv (V_eql rfl rfl rfl) ?_
          refine G_end (X_then ?_)
          refine G_cond_t rfl (by kernel_rfl) ?_
          refine G_region ?_
          refine Ga ?_
          refine G_end (X_then (G_seq (G_region ?_)))
          refine Gm ?_
          refine Gv (V_sub_i64 rfl rfl rfl (by omega) (by omega)) ?_
          refine Gv (V_conv_u64 rfl rfl (by omega) (by omega)) ?_
          refine Gv (V_shl rfl rfl rfl (by omega)) ?_
          refine Ga ?_
          refine G_end (X_then (G_seq (G_seq (G_region ?_))))
          refine Gm ?_
          refine Gv (V_not rfl rfl) ?_
          refine Gm ?_
          refine G.bool_t 48 rfl (by kernel_rfl) ?_
          refine Gy (V_move rfl rfl) ?_
          refine Gy (V_move rfl rfl) ?_
          refine Gy (V_geq rfl rfl rfl) ?_
          refine Gv (V_pick_t rfl rfl rfl) ?_
          refine G_end (X_then ?_)
          refine G_cond_f rfl (decide_eq_false (by omega)) ?_
          refine G_skip (X_then (G_seq (G_seq (G_region ?_))))
          refine Gm ?_
          refine Gm ?_
          refine Gn ?_
          refine Gn ?_
          refine Gn ?_
          refine Gv (V_pick_f rfl rfl rfl) ?_
          refine G_end (X_then ?_)
          refine G_cond_f rfl rfl ?_
          refine G_skip (X_then (G_seq (G_region ?_)))
          refine Gm ?_
          refine Gv (V_conv_i64 rfl rfl (by omega) (by omega)) ?_
          refine Ga ?_
          refine G_end (X_then (G_seq (G_seq (G_region ?_))))
          refine Gm ?_
          refine G_end (X_then ?_)
          refine G_cond_f rfl rfl ?_
          refine G_skip (X_then (G_seq (G_region ?_)))
          refine Gm ?_
          refine Ga ?_
          refine Ga ?_
          refine G_end (X_then (G_ret ?_))
          refine G_leaveS (.nil _) (by exact (.cons (.tmp rfl) (.cons (.tmp rfl) (.nil)))) rfl ?_ ?_
          · exact hE
          exact ⟨(by assumption), rfl⟩
        · have hf2 : NumR (.tuple #[.int .i64 (shlI .u64 1 (64 - 1) - 1), .iface 111 (.int .i64 1)]) := by
            rw [h63]; exact ⟨⟨_, _, rfl, by omega, by omega, .inr ⟨1, .inl rfl, rfl⟩⟩⟩
          refine Gv (V_pick_t rfl rfl rfl) ?_
          refine G_end (X_then ?_)
          refine G_cond_f rfl (by kernel_rfl) ?_
          refine G_skip (X_then (G_seq (G_seq (G_region ?_))))
          refine Gm ?_
          refine Gv (V_eql rfl rfl rfl) ?_
          refine G_end (X_then ?_)
          refine G_cond_t rfl (by kernel_rfl) ?_
          refine G_region ?_
          refine Ga ?_
          refine G_end (X_then (G_seq (G_region ?_)))
          refine Gm ?_
          refine Gv (V_sub_i64 rfl rfl rfl (by omega) (by omega)) ?_
          refine Gv (V_conv_u64 rfl rfl (by omega) (by omega)) ?_
          refine Gv (V_shl rfl rfl rfl (by omega)) ?_
          refine Ga ?_
          refine G_end (X_then (G_seq (G_seq (G_region ?_))))
          refine Gm ?_
          refine Gv (V_not rfl rfl) ?_
          refine Gm ?_
          refine G.bool_t 48 rfl (by kernel_rfl) ?_
          refine Gy (V_move rfl rfl) ?_
          refine Gy (V_move rfl rfl) ?_
          refine Gy (V_geq rfl rfl rfl) ?_
          refine Gv (V_pick_t rfl rfl rfl) ?_
          refine G_end (X_then ?_)
          refine G_cond_t rfl (decide_eq_true (by omega)) ?_
          refine G_seq (G_region ?_)
          refine Gm ?_
          refine Gv (V_sub_u64 rfl rfl rfl (by omega) (by omega)) ?_
          refine Gv (V_conv_i64 rfl rfl (by omega) (by omega)) ?_
          refine Gv (V_iface rfl rfl rfl) ?_
          refine Ga ?_
          refine Ga ?_
          refine G_end (X_then (G_ret (X_then_ret ?_)))
          refine G_leaveS (.nil _) (by exact (.cons (.tmp rfl) (.cons (.tmp rfl) (.nil)))) rfl ?_ ?_
          · exact hE
          exact ⟨(by assumption), rfl⟩
      | true =>
        by_cases hb : 9223372036854775808 < n
        · have hf := hr1 (0 - IntKind.i64.wrap (shlI .u64 1 (64 - 1)))
          refine Gv (V_pick_t rfl rfl rfl) ?_
          refine G_end (X_then ?_)
          refine G_cond_f rfl (by kernel_rfl) ?_
          refine G_skip (X_then (G_seq (G_seq (G_region ?_))))
          refine Gm ?_
          refine Gv (V_eql rfl rfl rfl) ?_
          refine G_end (X_then ?_)
          refine G_cond_t rfl (by kernel_rfl) ?_
          refine G_region ?_
          refine Ga ?_
          refine G_end (X_then (G_seq (G_region ?_)))
          refine Gm ?_
          refine Gv (V_sub_i64 rfl rfl rfl (by omega) (by omega)) ?_
          refine Gv (V_conv_u64 rfl rfl (by omega) (by omega)) ?_
          refine Gv (V_shl rfl rfl rfl (by omega)) ?_
          refine Ga ?_
          refine G_end (X_then (G_seq (G_seq (G_region ?_))))
          refine Gm ?_
          refine Gv (V_not rfl rfl) ?_
          refine Gm ?_
          refine G.bool_f 48 rfl (by kernel_rfl) ?_
          refine Gn ?_
          refine Gn ?_
          refine Gn ?_
          refine Gv (V_pick_f rfl rfl rfl) ?_
          refine G_end (X_then ?_)
          refine G_cond_f rfl rfl ?_
          refine G_skip (X_then (G_seq (G_seq (G_region ?_))))
          refine Gm ?_
          refine Gm ?_
          refine Gy (V_move rfl rfl) ?_
          refine Gy (V_move rfl rfl) ?_
          refine Gy (V_gtr rfl rfl rfl) ?_
          refine Gv (V_pick_t rfl rfl rfl) ?_
          refine G_end (X_then ?_)
          refine G_cond_t rfl (decide_eq_true (by omega)) ?_
          refine G_seq (G_region ?_)
          refine Gm ?_
          refine Gv (V_conv rfl rfl) ?_
          refine Gv (V_neg rfl rfl) ?_
          refine Gv (V_iface rfl rfl rfl) ?_
          refine Ga ?_
          refine Ga ?_
          refine G_end (X_then (G_ret (X_then_ret ?_)))
          refine G_leaveS (.nil _) (by exact (.cons (.tmp rfl) (.cons (.tmp rfl) (.nil)))) rfl ?_ ?_
          · exact hE
          exact ⟨(by assumption), rfl⟩
        · have hf := hr (0 - IntKind.i64.wrap (n : Int))
          refine Gv (V_pick_t rfl rfl rfl) ?_
          refine G_end (X_then ?_)
          refine G_cond_f rfl (by kernel_rfl) ?_
          refine G_skip (X_then (G_seq (G_seq (G_region ?_))))
          refine Gm ?_
          refine Gv (V_eql rfl rfl rfl) ?_
          refine G_end (X_then ?_)
          refine G_cond_t rfl (by kernel_rfl) ?_
          refine G_region ?_
          refine Ga ?_
          refine G_end (X_then (G_seq (G_region ?_)))
          refine Gm ?_
          refine Gv (V_sub_i64 rfl rfl rfl (by omega) (by omega)) ?_
          refine Gv (V_conv_u64 rfl rfl (by omega) (by omega)) ?_
          refine Gv (V_shl rfl rfl rfl (by omega)) ?_
          refine Ga ?_
          refine G_end (X_then (G_seq (G_seq (G_region ?_))))
          refine Gm ?_
          refine Gv (V_not rfl rfl) ?_
          refine Gm ?_
          refine G.bool_f 48 rfl (by kernel_rfl) ?_
          refine Gn ?_
          refine Gn ?_
          refine Gn ?_
          refine Gv (V_pick_f rfl rfl rfl) ?_
          refine G_end (X_then ?_)
          refine G_cond_f rfl rfl ?_
          refine G_skip (X_then (G_seq (G_seq (G_region ?_))))
          refine Gm ?_
          refine Gm ?_
          refine Gy (V_move rfl rfl) ?_
          refine Gy (V_move rfl rfl) ?_
          refine Gy (V_gtr rfl rfl rfl) ?_
          refine Gv (V_pick_t rfl rfl rfl) ?_
          refine G_end (X_then ?_)
          refine G_cond_f rfl (decide_eq_false (by omega)) ?_
          refine G_skip (X_then (G_seq (G_region ?_)))
          refine Gm ?_
          refine Gv (V_conv rfl rfl) ?_
          refine Ga ?_
          refine G_end (X_then (G_seq (G_seq (G_region ?_))))
          refine Gm ?_
          refine G_end (X_then ?_)
          refine G_cond_t rfl rfl ?_
          refine G_region ?_
          refine Gm ?_
          refine Gv (V_neg rfl rfl) ?_
          refine Ga ?_
          refine G_end (X_then (G_seq (G_region ?_)))
          refine Gm ?_
          refine Ga ?_
          refine Ga ?_
          refine G_end (X_then (G_ret ?_))
          refine G_leaveS (.nil _) (by exact (.cons (.tmp rfl) (.cons (.tmp rfl) (.nil)))) rfl ?_ ?_
          · exact hE
          exact ⟨(by assumption), rfl⟩
    · refine Gm ?_
      refine Gv (V_extract rfl rfl rfl) ?_
      refine Gv (V_extract rfl rfl rfl) ?_
      refine Ga ?_
      refine Ga ?_
      refine G_end (X_then (G_seq (G_seq (G_region ?_))))
      refine Gm ?_
      refine Gv (V_neIN rfl rfl rfl) ?_
      refine Gm ?_
      refine Gy (V_move rfl rfl) ?_
      refine Gy (V_iface rfl rfl rfl) ?_
      refine Gy (V_neII rfl rfl rfl (by kernel_rfl)) ?_
      refine Gv (V_pick_t rfl rfl rfl) ?_
      refine G_end (X_then ?_)
      refine G_cond_t rfl (by kernel_rfl) ?_
      refine G_seq (G_region ?_)
      refine Gm ?_
      refine Ga ?_
      refine Ga ?_
      refine G_end (X_then (G_ret (X_then_ret ?_)))
      refine G_leaveS (.nil _) (by exact (.cons (.tmp rfl) (.cons (.tmp rfl) (.nil)))) rfl ?_ ?_
      · exact hE
      exact ⟨(by assumption), rfl⟩
end
end Go.Proofs.YtaibabmladgldaaGreatDoor
set_option linter.unusedSimpArgs false
set_option linter.unusedVariables false
set_option maxHeartbeats 2000000
set_option maxRecDepth 20000
namespace Go.Proofs.YtaibabmladgldaaGreatDoor
open Go.RowKit
/-! internal/strconv.Atoi of any text. -/
section
variable (E : Env) (L : List Res)
theorem AtoiL_call (s : List UInt8) (h : s.length = 0 ∨ 19 ≤ s.length) (hs : s.length ≤ 1000000) : CallS Tryz.prog 60 #[.string (S s)] E L (fun r E' L' => NumR r ∧ L' = L) := by
  refine CallS.intro (l := [_]) _ Tryz.func60 rfl Tryz.ntmps60 rfl ?_
  by_cases h0 : s.length = 0
  · refine G_seq ?_
    refine G_region ?_
    refine Ga ?_
    refine Ga ?_
    refine G_end (X_then (G_seq (G_region ?_)))
    refine Gm ?_
    refine Gv (V_len rfl rfl) ?_
    refine Ga ?_
    refine G_end (X_then (G_seq (G_seq (G_region ?_))))
    refine Gm ?_
    refine Gn ?_
    refine Gn ?_
    refine Gn ?_
    refine G_stay (.un rfl rfl rfl rfl) rfl rfl ?_
    refine G_stay (.un rfl rfl rfl rfl) rfl rfl ?_
    refine Gn ?_
    refine Gv (V_pick_f rfl rfl rfl) ?_
    refine Gm ?_
    refine Gy (V_move rfl rfl) ?_
    refine Gy (V_move rfl rfl) ?_
    refine Gy (V_lss rfl rfl rfl) ?_
    refine Gy (V_move rfl rfl) ?_
    refine G.bool_f 25 rfl (decide_eq_false (by omega)) ?_
    refine Gn ?_
    refine Gn ?_
    refine Gy (V_pick_f rfl rfl rfl) ?_
    refine Gy (V_pick_t rfl rfl rfl) ?_
    refine Gv (V_pick_f rfl rfl rfl) ?_
    refine G_end (X_then ?_)
    refine G_cond_f rfl rfl ?_
    refine G_skip (X_then (G_seq (G_region ?_)))
    refine Gm ?_
    refine G_call (k := 79) (.mk rfl rfl rfl rfl) rfl rfl (.none rfl) (ParseInt_call _ _ s hs) ?_
    rintro r1 E4 L4 hE4 ⟨⟨⟨n, e, rfl, h1, h2, he⟩⟩, rfl⟩
    have hf : NumR (.tuple #[.int .i64 n, e]) := ⟨⟨n, e, rfl, h1, h2, he⟩⟩
    refine Gm ?_
    refine Gv (V_extract rfl rfl rfl) ?_
    refine Gv (V_extract rfl rfl rfl) ?_
    refine Ga ?_
    refine Ga ?_
    refine G_end (X_then (G_seq (G_region ?_)))
    refine Gm ?_
    refine Gm ?_
    refine Ga ?_
    refine Ga ?_
    refine G_end (X_then (G_ret ?_))
    refine G_leaveS (.nil _) (by exact (.cons (.tmp rfl) (.cons (.tmp rfl) (.nil)))) rfl ?_ ?_
    · exact hE4
    exact ⟨(by assumption), rfl⟩
  · have h19 : 19 ≤ s.length := by omega
    refine G_seq (G_region ?_)
    refine Ga ?_
    refine Ga ?_
    refine G_end (X_then (G_seq (G_region ?_)))
    refine Gm ?_
    refine Gv (V_len rfl rfl) ?_
    refine Ga ?_
    refine G_end (X_then (G_seq (G_seq (G_region ?_))))
    refine Gm ?_
    refine Gn ?_
    refine Gn ?_
    refine Gn ?_
    refine G_stay (.un rfl rfl rfl rfl) rfl rfl ?_
    refine G_stay (.un rfl rfl rfl rfl) rfl rfl ?_
    refine Gn ?_
    refine Gv (V_pick_f rfl rfl rfl) ?_
    refine Gm ?_
    refine Gy (V_move rfl rfl) ?_
    refine Gy (V_move rfl rfl) ?_
    refine Gy (V_lss rfl rfl rfl) ?_
    refine Gy (V_move rfl rfl) ?_
    refine G.bool_t 25 rfl (decide_eq_true (by omega)) ?_
    refine Gy (V_move rfl rfl) ?_
    refine Gy (V_lss rfl rfl rfl) ?_
    refine Gy (V_pick_t rfl rfl rfl) ?_
    refine Gy (V_pick_t rfl rfl rfl) ?_
    refine Gv (V_pick_f rfl rfl rfl) ?_
    refine G_end (X_then ?_)
    refine G_cond_f rfl (decide_eq_false (by omega)) ?_
    refine G_skip (X_then (G_seq (G_region ?_)))
    refine Gm ?_
    refine G_call (k := 79) (.mk rfl rfl rfl rfl) rfl rfl (.none rfl) (ParseInt_call _ _ s hs) ?_
    rintro r1 E4 L4 hE4 ⟨⟨⟨n, e, rfl, h1, h2, he⟩⟩, rfl⟩
    have hf : NumR (.tuple #[.int .i64 n, e]) := ⟨⟨n, e, rfl, h1, h2, he⟩⟩
    refine Gm ?_
    refine Gv (V_extract rfl rfl rfl) ?_
    refine Gv (V_extract rfl rfl rfl) ?_
    refine Ga ?_
    refine Ga ?_
    refine G_end (X_then (G_seq (G_region ?_)))
    refine Gm ?_
    refine Gm ?_
    refine Ga ?_
    refine Ga ?_
    refine G_end (X_then (G_ret ?_))
    refine G_leaveS (.nil _) (by exact (.cons (.tmp rfl) (.cons (.tmp rfl) (.nil)))) rfl ?_ ?_
    · exact hE4
    exact ⟨(by assumption), rfl⟩
theorem AtoiA_call (s : List UInt8) (hs : s.length ≤ 1000000) : CallS Tryz.prog 60 #[.string (S s)] E L (fun r E' L' => NumR r ∧ L' = L) := by
  by_cases h : s.length = 0 ∨ 19 ≤ s.length
  · exact AtoiL_call E L s h hs
  · exact AtoiX_call E L s (by omega) (by omega)
end
end Go.Proofs.YtaibabmladgldaaGreatDoor
namespace Go.Proofs.YtaibabmladgldaaGreatDoor
open Go.RowKit
section
variable {P : Program} {ro : Option Nat} {n : Nat} {ds : List Deferred} {fs : List (Nat × Value)} {E : Env} {L : List Res} {ops : Array Oper} {Q : Exit → Act → World → Prop} {rest : List Oper} {o : Oper}
/-- copy of a string that fits. -/
theorem G_copyStr {x y : Operand} {t u e : TypeId} {d : Nat} {sz' : Nat} {ag' : Bool} {z : Value} {bytes : Nat} [ht : Ty P t (.slice e) sz' ag'] [hi : Inf P e z 1 bytes] {b off dl dc : Nat} {T : TypeId} {cs : List Value} {l : List UInt8} {L' : List Res}
    (ho : o.op = .call { callee := .builtin .copy, args := #[x, y], argTypes := #[t, u] }) (hx : ev fs x = some (.slice (some ⟨b, off, none⟩) dl dc)) (hy : ev fs y = some (.string (S l))) (hle : l.length ≤ dl)
    (hfit : off + l.length ≤ cs.length) (hd : o.dst = some d) (hn : Nat.blt d n = true) (hg : Goes ops fs o)
    (up : Upd L (.blk b (.cells cs.toArray T (0, 0))) (.blk b (.cells (cs.take off ++ u8s l ++ cs.drop (off + l.length)).toArray T (0, 0))) L')
    (h : G n ds ((d, .int .i64 (l.length : Nat)) :: fs) E L' (wpListIn (Wd ro) 0 P ops Q rest)) : G n ds fs E L (wpListIn (Wd ro) 0 P ops Q (o :: rest)) :=
  G_any hg (by rw [ho]; intro c h; cases h) fun a0 w ha hw => by
    have hb : w.heap[b]? = some (.cells cs.toArray T (0, 0)) := hw.own _ up.mem
    have hlt := (Array.getElem?_eq_some_iff.1 hb).1
    obtain ⟨i, hi1, _, hs1, _⟩ := hi.inf
    have hs : (P.info? e).map (·.size) = some 1 := by rw [hi1]; simp [hs1]
    have hrun := Lib.run_copy_row_string (P := P) w t u o.type e b off dl dc (S l) cs.toArray T ht.und hs hb (by rw [S_size]; exact hle) (by rw [S_size]; simpa using hfit)
    rw [S_size] at hrun
    have e0 : Lib.byteCells (S l).data.toList = u8s l := by simp [Lib.byteCells, u8s, S]
    rw [e0] at hrun
    have e1 : (execOp a0.eval o).run P w = .ok (.value (.int .i64 (l.length : Nat))) (w.setRow b (cs.take off ++ u8s l ++ cs.drop (off + l.length)).toArray) := by
      simp only [execOp, ho, resolve, invoke, builtin, Sem.run_bind, Sem.run_pure, Result.andThen_ok, List.map_toArray, List.map_cons, List.map_nil, ha.eval hx, ha.eval hy, hrun]
      rfl
    rw [e1]
    simp only [Oper.uponIn_value, hd]
    have hsz : (w.setRow b (cs.take off ++ u8s l ++ cs.drop (off + l.length)).toArray).heap.size = w.heap.size := by simp
    refine h _ _ (ha.put hn _) (hw.update up (by omega) (fun k hk _ => setRow_other w b k _ (fun e => hk (by subst e; simp [Res.blk]))) (setRow_heap w b _ _ T _ hb) (fun k hk => ?_) (by simp [Res.blk]) rfl rfl rfl)
    simp only [Res.blk, List.mem_singleton] at hk ⊢
    subst hk
    exact .inl ⟨rfl, by omega⟩
end
/-- What the row says of a variable that it lays. -/
theorem laid_get {P : Program} {laid : List (String × DataW Unit)} {W : World} (h : laidMet P laid W) {x : String} {d : DataW Unit} (hm : (x, d) ∈ laid) {g : Nat} {t : TypeId} (hg : P.globalNamed x = some g) (ht : (P.globals[g]?).map (·.type) = some t) :
    ∃ (cs : Array Value) (fuel : Nat) (p : List MemPlace), (∀ i, W.cell? ⟨g, i, none⟩ = cs[i]?) ∧ DataW.trod (fun _ => ()) P W 0 (fun _ => true) false fuel t cs.toList = some (d, p) := by
  obtain ⟨ps, hv, x1, x2⟩ := h
  clear x1 x2
  induction laid generalizing ps with
  | nil => cases hm
  | cons y r ih =>
    obtain ⟨n, d0⟩ := y
    obtain ⟨g', t', cs, fuel, p, q, hg', ht', hv', hd', hr, _⟩ := hv
    rcases List.mem_cons.1 hm with e | hm
    · cases e
      obtain rfl := Option.some.inj (hg.symm.trans hg')
      obtain rfl := Option.some.inj (ht.symm.trans ht')
      exact ⟨cs, fuel, p, World.var?_cell hg hv', hd'⟩
    · exact ih hm _ hr
/-- One cell of memory, as a frozen slice of one. -/
theorem SlE.ofCells {W : World} {g k n : Nat} {vals : List Value} (hl : vals.length = n) (h : ∀ j v, vals[j]? = some v → W.cell? ⟨g, k + j, none⟩ = some v) : SlE (Env.of W) 1 (some ⟨g, k, none⟩) n vals := by
  refine ⟨by simpa using hl, .inr ⟨_, rfl, .inl rfl, fun j v hj => ?_⟩⟩
  have e : (⟨g, k, none⟩ : Addr).add j = ⟨g, k + j, none⟩ := by unfold Addr.add; split <;> simp_all
  rw [e]
  exact Env.of_cell (h j v hj)
end Go.Proofs.YtaibabmladgldaaGreatDoor
namespace Go.Proofs.YtaibabmladgldaaGreatDoor
open Go.RowKit
variable {H : Type} {enc : TypeId × Value → H} {P : Program} {W : World} {base : Nat} {sp : Nat → Bool} {held : Bool} {laid : List (String × DataW Unit)}
theorem trod_face {t : TypeId} {cs : List Value} {fuel : Nat} {ms : Array (String × TypeId)} {x : DataW H × List MemPlace} (ht : P.underlying t = some (.interface ms)) (h : DataW.trod enc P W base sp held fuel t cs = some x) : cs = [.nilIface] ∨ ∃ u v, cs = [.iface u v] := by
  cases fuel with
  | zero => simp [DataW.trod] at h
  | succ n =>
    unfold DataW.trod at h
    rw [ht] at h
    split at h <;> simp_all
/-- A variable that the row lays holds some value of an interface. -/
def LaidI (E : Env) (g : Nat) : Prop := ∃ t v, SlE E 1 (some ⟨g, 0, none⟩) 1 [.iface t v] ∨ SlE E 1 (some ⟨g, 0, none⟩) 1 [.nilIface]
theorem LaidI.mono {E E' : Env} {g : Nat} (h : LaidI E g) (hE : E.Le E') : LaidI E' g := by
  obtain ⟨t, v, h⟩ := h
  exact ⟨t, v, h.imp (·.mono hE) (·.mono hE)⟩
theorem SlE.ofCell {g k : Nat} {v : Value} (h : W.cell? ⟨g, k, none⟩ = some v) : SlE (Env.of W) 1 (some ⟨g, k, none⟩) 1 [v] :=
  SlE.ofCells rfl fun j u hj => by
    obtain rfl : j = 0 := by
      have := (List.getElem?_eq_some_iff.1 hj).1
      simpa using this
    cases hj
    exact h
theorem laid_face {x : String} {d : DataW Unit} {g : Nat} {t : TypeId} {ms : Array (String × TypeId)} (h : laidMet P laid W) (hm : (x, d) ∈ laid) (hg : P.globalNamed x = some g) (ht : (P.globals[g]?).map (·.type) = some t) (hu : P.underlying t = some (.interface ms)) : LaidI (Env.of W) g := by
  obtain ⟨cs, fuel, p, hc, hd⟩ := laid_get h hm hg ht
  have h0 := hc 0
  rw [← Array.getElem?_toList] at h0
  rcases trod_face hu hd with e | ⟨u, v, e⟩
  · rw [e] at h0
    exact ⟨t, .nilIface, .inr (SlE.ofCell h0)⟩
  · rw [e] at h0
    exact ⟨u, v, .inl (SlE.ofCell h0)⟩
/-- A table of numbers. -/
theorem laid_ints {x : String} {k : IntKind} {l : List Int} {g m : Nat} {t e : TypeId} (h : laidMet P laid W) (hm : (x, DataW.agg (l.map fun n => .lit (.int k n))) ∈ laid) (hg : P.globalNamed x = some g) (ht : (P.globals[g]?).map (·.type) = some t)
    (hu : P.underlying t = some (.array m e)) (he : P.underlying e = some (.int k)) (hce : P.cellsOf e = 1) {i j n : Nat} (hj : i + n = j) (hl : j ≤ l.length) : SlE (Env.of W) 1 (some ⟨g, i, none⟩) n (((l.drop i).take n).map (.int k ·)) := by
  obtain ⟨cs, fuel, p, hc, hd⟩ := laid_get h hm hg ht
  obtain ⟨xs, m', _, ex, _, hxl, hel⟩ := DataW.trod_array hu hd
  have e3 : l.map (fun n => DataW.lit (H := Unit) (.int k n)) = xs.map (·.1) := by have := (Prod.mk.inj ex).1; injection this
  have hlx : xs.length = l.length := by have := congrArg List.length e3; simpa using this.symm
  refine SlE.ofCells (by simp; omega) fun q v hq => ?_
  have hq1 : q < n := by have := (List.getElem?_eq_some_iff.1 hq).1; simp at this; omega
  have hlt : i + q < l.length := by omega
  rw [List.getElem?_map, List.getElem?_take_of_lt hq1, List.getElem?_drop, List.getElem?_eq_getElem hlt, Option.map_some] at hq
  cases hq
  have hE := hel (i + q) (by omega)
  rw [hce, List.getElem?_eq_getElem (by omega)] at hE
  obtain ⟨z, e1, e2, _⟩ := DataW.trod_int he hE
  have e4 : (l.map (fun n => DataW.lit (H := Unit) (.int k n)))[i + q]? = (xs.map (·.1))[i + q]? := by rw [e3]
  rw [List.getElem?_map, List.getElem?_map, List.getElem?_eq_getElem hlt, List.getElem?_eq_getElem (by omega), Option.map_some, Option.map_some, e2] at e4
  have e5 : l[i + q] = z := by simpa using e4
  rw [hc (i + q), ← Array.getElem?_toList, e5]
  have : ((cs.toList.drop ((i + q) * 1)).take 1)[0]? = some (.int k z) := by rw [e1]; rfl
  simpa using this
end Go.Proofs.YtaibabmladgldaaGreatDoor
set_option linter.unusedSimpArgs false
set_option linter.unusedVariables false
set_option maxHeartbeats 2000000
set_option maxRecDepth 20000
namespace Go.Proofs.YtaibabmladgldaaGreatDoor
open Go.RowKit
/-! strconv.Atoi: digits exactly, any other text somehow. -/
/-- A number, and no error or some. -/
structure NumI (r : Value) : Prop where
  out : ∃ n e, r = .tuple #[.int .i64 n, e] ∧ -9223372036854775808 ≤ n ∧ n ≤ 9223372036854775807 ∧ (e = .nilIface ∨ ∃ t v, e = .iface t v)
section
variable (E : Env) (L : List Res)
theorem slClone_call (s : List UInt8) (hs : s.length ≤ 1000000) : CallS Tryz.prog 97 #[.string (S s)] E L (fun r E' L' => r = .string (S s) ∧ L' = L) := by
  refine CallS.intro (l := [_]) _ Tryz.func97 rfl Tryz.ntmps97 rfl ?_
  by_cases h0 : s.length = 0
  · have : s = [] := List.eq_nil_of_length_eq_zero h0
    subst this
    refine G_seq (G_region ?_)
    refine Ga ?_
    refine G_end (X_then (G_seq (G_seq (G_region ?_))))
    refine Gm ?_
    refine Gv (V_len rfl rfl) ?_
    refine Gv (V_eql rfl rfl rfl) ?_
    refine G_end (X_then ?_)
    refine G_cond_t rfl (by kernel_rfl) ?_
    refine G_seq (G_region ?_)
    refine Ga ?_
    refine G_end (X_then (G_ret (X_then_ret ?_)))
    refine G_leaveS (.nil _) (by exact (.cons (.tmp rfl) (.nil))) rfl ?_ ?_
    · exact (.refl _)
    exact ⟨(by kernel_rfl), rfl⟩
  · have h1 : 1 ≤ s.length := by omega
    refine G_seq (G_region ?_)
    refine Ga ?_
    refine G_end (X_then (G_seq (G_seq (G_region ?_))))
    refine Gm ?_
    refine Gv (V_len rfl rfl) ?_
    refine Gv (V_eql rfl rfl rfl) ?_
    refine G_end (X_then ?_)
    refine G_cond_f rfl (decide_eq_false (by omega)) ?_
    refine G_skip (X_then (G_seq (G_region ?_)))
    refine Gm ?_
    refine Gv (V_len rfl rfl) ?_
    (refine G_makeSlice rfl rfl rfl (by omega) (by omega) (by omega) rfl rfl (.none rfl) ?_; intro b9)
    refine Ga ?_
    refine G_end (X_then (G_seq (G_region ?_)))
    refine Gm ?_
    refine Gm ?_
    rw [Int.toNat_natCast]
    refine G_copyStr rfl rfl rfl (Nat.le_refl _) (by simp) rfl rfl (.none rfl) (.head _ _ _) ?_
    have e : (List.replicate s.length (Value.int .u8 0)).take 0 ++ u8s s ++ (List.replicate s.length (Value.int .u8 0)).drop (0 + s.length) = u8s s := by simp
    rw [e]
    refine G_end (X_then (G_seq (G_region ?_)))
    refine Gm ?_
    refine Gv (V_idxB1 rfl rfl rfl (by omega) (by omega)) ?_
    refine Gm ?_
    refine Gv (V_lenS rfl rfl) ?_
    refine G.blkSl (k := s.length) (sz := 1) (by simp [u8s]) (by simp only [maxLen]; omega) ?_
    refine G_unsafeString rfl rfl rfl (by omega) (by kernel_rfl) rfl rfl (.none rfl) (.head _ _) ?_
    refine Ga ?_
    refine G_end (X_then (G_ret ?_))
    refine G_leaveS (.nil _) (by exact (.cons (.tmp rfl) (.nil))) rfl ?_ ?_
    · exact (.refl _)
    exact ⟨rfl, rfl⟩
theorem syntaxError_call (f s : List UInt8) (hs : s.length ≤ 1000000) (hL : LaidI E 3) : CallS Tryz.prog 80 #[.string (S f), .string (S s)] E L (fun r E' L' => (∃ p, r = .pointer (some p)) ∧ L' = L) := by
  obtain ⟨t, v, hL⟩ := hL
  rcases hL with hL | hL
  · refine CallS.intro (l := [_, _]) _ Tryz.func80 rfl Tryz.ntmps80 rfl ?_
    refine G_seq (G_region ?_)
    refine Ga ?_
    refine G_end (X_then (G_seq ?_))
    refine G_drawX 7 [(0, 0), (1, 0), (3, 1), (2, 3), (4, 0), (5, 2), (6, 0)] mixed (by kernel_rfl) ?_
    refine F_pure rfl (fun _ _ => V_move rfl rfl) rfl rfl (.none rfl) ?_
    refine F_pure rfl (fun _ _ => V_move rfl rfl) rfl rfl (.none rfl) ?_
    refine F_loadE rfl (V_load rfl rfl (SlE.cellAt (i := 0) hL rfl)) rfl rfl (.none rfl) ?_
    apply F_call (k := 97) rfl (.mk rfl rfl rfl rfl) rfl rfl (.none rfl)
    · (intro L0; refine CallS.mono (slClone_call _ _ _ (by assumption)) ?_; exact fun _ _ _ _ h => h)
    · (rintro L0 r E' L' ⟨rfl, rfl⟩; exact ⟨rfl, ⟨rfl, rfl⟩⟩)
    rintro r1 E2 hE3 ⟨rfl, _⟩
    replace hL := hL.mono hE3
    refine F_pure rfl (fun _ _ => V_build rfl rfl (by simp [fillV, setLs, setL, Value.cells]; rfl)) rfl rfl (.none rfl) ?_
    (refine F_boxA rfl rfl rfl rfl rfl (.none rfl) ?_; intro b10)
    refine F_pure rfl (fun _ _ => V_assign rfl rfl) rfl rfl (.none rfl) ?_
    (refine F_end (.nil _) ?_; dsimp only [List.drop])
    refine G_end (X_then (G_ret ?_))
    refine G_leaveS (.drop _ (.nil _)) (by exact (.cons (.tmp rfl) (.nil))) rfl ?_ ?_
    · exact hE3
    exact ⟨⟨_, rfl⟩, rfl⟩
  · refine CallS.intro (l := [_, _]) _ Tryz.func80 rfl Tryz.ntmps80 rfl ?_
    refine G_seq (G_region ?_)
    refine Ga ?_
    refine G_end (X_then (G_seq ?_))
    refine G_drawX 7 [(0, 0), (1, 0), (3, 1), (2, 3), (4, 0), (5, 2), (6, 0)] mixed (by kernel_rfl) ?_
    refine F_pure rfl (fun _ _ => V_move rfl rfl) rfl rfl (.none rfl) ?_
    refine F_pure rfl (fun _ _ => V_move rfl rfl) rfl rfl (.none rfl) ?_
    refine F_loadE rfl (V_load rfl rfl (SlE.cellAt (i := 0) hL rfl)) rfl rfl (.none rfl) ?_
    apply F_call (k := 97) rfl (.mk rfl rfl rfl rfl) rfl rfl (.none rfl)
    · (intro L0; refine CallS.mono (slClone_call _ _ _ (by assumption)) ?_; exact fun _ _ _ _ h => h)
    · (rintro L0 r E' L' ⟨rfl, rfl⟩; exact ⟨rfl, ⟨rfl, rfl⟩⟩)
    rintro r1 E2 hE3 ⟨rfl, _⟩
    replace hL := hL.mono hE3
    refine F_pure rfl (fun _ _ => V_build rfl rfl (by simp [fillV, setLs, setL, Value.cells]; rfl)) rfl rfl (.none rfl) ?_
    (refine F_boxA rfl rfl rfl rfl rfl (.none rfl) ?_; intro b10)
    refine F_pure rfl (fun _ _ => V_assign rfl rfl) rfl rfl (.none rfl) ?_
    (refine F_end (.nil _) ?_; dsimp only [List.drop])
    refine G_end (X_then (G_ret ?_))
    refine G_leaveS (.drop _ (.nil _)) (by exact (.cons (.tmp rfl) (.nil))) rfl ?_ ?_
    · exact hE3
    exact ⟨⟨_, rfl⟩, rfl⟩
theorem rangeError_call (f s : List UInt8) (hs : s.length ≤ 1000000) (hL : LaidI E 4) : CallS Tryz.prog 81 #[.string (S f), .string (S s)] E L (fun r E' L' => (∃ p, r = .pointer (some p)) ∧ L' = L) := by
  obtain ⟨t, v, hL⟩ := hL
  rcases hL with hL | hL
  · refine CallS.intro (l := [_, _]) _ Tryz.func81 rfl Tryz.ntmps81 rfl ?_
    refine G_seq (G_region ?_)
    refine Ga ?_
    refine G_end (X_then (G_seq ?_))
    refine G_drawX 7 [(0, 0), (1, 0), (3, 1), (2, 3), (4, 0), (5, 2), (6, 0)] mixed (by kernel_rfl) ?_
    refine F_pure rfl (fun _ _ => V_move rfl rfl) rfl rfl (.none rfl) ?_
    refine F_pure rfl (fun _ _ => V_move rfl rfl) rfl rfl (.none rfl) ?_
    refine F_loadE rfl (V_load rfl rfl (SlE.cellAt (i := 0) hL rfl)) rfl rfl (.none rfl) ?_
    apply F_call (k := 97) rfl (.mk rfl rfl rfl rfl) rfl rfl (.none rfl)
    · (intro L0; refine CallS.mono (slClone_call _ _ _ (by assumption)) ?_; exact fun _ _ _ _ h => h)
    · (rintro L0 r E' L' ⟨rfl, rfl⟩; exact ⟨rfl, ⟨rfl, rfl⟩⟩)
    rintro r1 E2 hE3 ⟨rfl, _⟩
    replace hL := hL.mono hE3
    refine F_pure rfl (fun _ _ => V_build rfl rfl (by simp [fillV, setLs, setL, Value.cells]; rfl)) rfl rfl (.none rfl) ?_
    (refine F_boxA rfl rfl rfl rfl rfl (.none rfl) ?_; intro b10)
    refine F_pure rfl (fun _ _ => V_assign rfl rfl) rfl rfl (.none rfl) ?_
    (refine F_end (.nil _) ?_; dsimp only [List.drop])
    refine G_end (X_then (G_ret ?_))
    refine G_leaveS (.drop _ (.nil _)) (by exact (.cons (.tmp rfl) (.nil))) rfl ?_ ?_
    · exact hE3
    exact ⟨⟨_, rfl⟩, rfl⟩
  · refine CallS.intro (l := [_, _]) _ Tryz.func81 rfl Tryz.ntmps81 rfl ?_
    refine G_seq (G_region ?_)
    refine Ga ?_
    refine G_end (X_then (G_seq ?_))
    refine G_drawX 7 [(0, 0), (1, 0), (3, 1), (2, 3), (4, 0), (5, 2), (6, 0)] mixed (by kernel_rfl) ?_
    refine F_pure rfl (fun _ _ => V_move rfl rfl) rfl rfl (.none rfl) ?_
    refine F_pure rfl (fun _ _ => V_move rfl rfl) rfl rfl (.none rfl) ?_
    refine F_loadE rfl (V_load rfl rfl (SlE.cellAt (i := 0) hL rfl)) rfl rfl (.none rfl) ?_
    apply F_call (k := 97) rfl (.mk rfl rfl rfl rfl) rfl rfl (.none rfl)
    · (intro L0; refine CallS.mono (slClone_call _ _ _ (by assumption)) ?_; exact fun _ _ _ _ h => h)
    · (rintro L0 r E' L' ⟨rfl, rfl⟩; exact ⟨rfl, ⟨rfl, rfl⟩⟩)
    rintro r1 E2 hE3 ⟨rfl, _⟩
    replace hL := hL.mono hE3
    refine F_pure rfl (fun _ _ => V_build rfl rfl (by simp [fillV, setLs, setL, Value.cells]; rfl)) rfl rfl (.none rfl) ?_
    (refine F_boxA rfl rfl rfl rfl rfl (.none rfl) ?_; intro b10)
    refine F_pure rfl (fun _ _ => V_assign rfl rfl) rfl rfl (.none rfl) ?_
    (refine F_end (.nil _) ?_; dsimp only [List.drop])
    refine G_end (X_then (G_ret ?_))
    refine G_leaveS (.drop _ (.nil _)) (by exact (.cons (.tmp rfl) (.nil))) rfl ?_ ?_
    · exact hE3
    exact ⟨⟨_, rfl⟩, rfl⟩
theorem toError_call (f s : List UInt8) (hs : s.length ≤ 1000000) (hS : LaidI E 3) (hR : LaidI E 4) (k : Int) (hk : k = 1 ∨ k = 2) :
    CallS Tryz.prog 61 #[.string (S f), .string (S s), .int .i64 0, .int .i64 0, .iface 111 (.int .i64 k)] E L (fun r E' L' => (∃ t v, r = .iface t v) ∧ L' = L) := by
  rcases hk with rfl | rfl
  · refine CallS.intro (l := [_, _, _, _, _]) _ Tryz.func61 rfl Tryz.ntmps61 rfl ?_
    refine G_seq (G_region ?_)
    refine Ga ?_
    refine G_end (X_then (G_seq (G_seq (G_region ?_))))
    refine Gm ?_
    refine G_end (X_then (G_block (G_seq (G_region ?_))))
    refine Gv (V_iface rfl rfl rfl) ?_
    refine Gv (V_eqII rfl rfl rfl (by kernel_rfl)) ?_
    refine Ga ?_
    refine G_end (X_then ?_)
    refine G_cond_f rfl (by kernel_rfl) ?_
    refine G_seq (G_region ?_)
    refine Gv (V_iface rfl rfl rfl) ?_
    refine Gv (V_eqII rfl rfl rfl (by kernel_rfl)) ?_
    refine Ga ?_
    refine G_end (X_then ?_)
    refine G_cond_t rfl (by kernel_rfl) ?_
    refine G_seq (G_region ?_)
    refine Gm ?_
    refine Gm ?_
    refine G_call (k := 81) (.mk rfl rfl rfl rfl) rfl rfl (.none rfl) (rangeError_call _ _ _ _ (by assumption) (by assumption)) ?_
    rintro r1 E2 L3 hE4 ⟨⟨z5, rfl⟩, rfl⟩
    replace hS := hS.mono hE4
    replace hR := hR.mono hE4
    refine Gv (V_iface rfl rfl rfl) ?_
    refine Ga ?_
    refine G_end (X_then (G_ret (X_block_ret (X_then_ret ?_))))
    refine G_leaveS (.nil _) (by exact (.cons (.tmp rfl) (.nil))) rfl ?_ ?_
    · exact hE4
    exact ⟨⟨_, ⟨_, rfl⟩⟩, rfl⟩
  · refine CallS.intro (l := [_, _, _, _, _]) _ Tryz.func61 rfl Tryz.ntmps61 rfl ?_
    refine G_seq (G_region ?_)
    refine Ga ?_
    refine G_end (X_then (G_seq (G_seq (G_region ?_))))
    refine Gm ?_
    refine G_end (X_then (G_block (G_seq (G_region ?_))))
    refine Gv (V_iface rfl rfl rfl) ?_
    refine Gv (V_eqII rfl rfl rfl (by kernel_rfl)) ?_
    refine Ga ?_
    refine G_end (X_then ?_)
    refine G_cond_t rfl (by kernel_rfl) ?_
    refine G_seq (G_region ?_)
    refine Gm ?_
    refine Gm ?_
    refine G_call (k := 80) (.mk rfl rfl rfl rfl) rfl rfl (.none rfl) (syntaxError_call _ _ _ _ (by assumption) (by assumption)) ?_
    rintro r1 E2 L3 hE4 ⟨⟨z5, rfl⟩, rfl⟩
    replace hS := hS.mono hE4
    replace hR := hR.mono hE4
    refine Gv (V_iface rfl rfl rfl) ?_
    refine Ga ?_
    refine G_end (X_then (G_ret (X_block_ret (X_then_ret ?_))))
    refine G_leaveS (.nil _) (by exact (.cons (.tmp rfl) (.nil))) rfl ?_ ?_
    · exact hE4
    exact ⟨⟨_, ⟨_, rfl⟩⟩, rfl⟩
theorem cAtoi_call (s : List UInt8) (hs : s.length ≤ 1000000) (hS : LaidI E 3) (hR : LaidI E 4) : CallS Tryz.prog 44 #[.string (S s)] E L (fun r E' L' => NumI r ∧ L' = L) := by
  refine CallS.intro (l := [_]) _ Tryz.func44 rfl Tryz.ntmps44 rfl ?_
  refine G_seq (G_region ?_)
  refine Ga ?_
  refine Ga ?_
  refine G_end (X_then (G_seq (G_region ?_)))
  refine Gm ?_
  refine G_call (k := 60) (.mk rfl rfl rfl rfl) rfl rfl (.none rfl) (AtoiA_call _ _ s hs) ?_
  rintro r1 E4 L4 hE4 ⟨⟨⟨n, e, rfl, h1, h2, he⟩⟩, rfl⟩
  replace hS := hS.mono hE4
  replace hR := hR.mono hE4
  rcases he with rfl | ⟨k, hk, rfl⟩
  · have hf : NumI (.tuple #[.int .i64 n, .nilIface]) := ⟨⟨n, _, rfl, h1, h2, .inl rfl⟩⟩
    refine Gm ?_
    refine Gv (V_extract rfl rfl rfl) ?_
    refine Gv (V_extract rfl rfl rfl) ?_
    refine Ga ?_
    refine Ga ?_
    refine G_end (X_then (G_seq (G_seq (G_region ?_))))
    refine Gm ?_
    refine Gv (V_neNN rfl rfl rfl) ?_
    refine G_end (X_then ?_)
    refine G_cond_f rfl rfl ?_
    refine G_skip (X_then (G_seq (G_region ?_)))
    refine Gm ?_
    refine Ga ?_
    refine Ga ?_
    refine G_end (X_then (G_ret ?_))
    refine G_leaveS (.nil _) (by exact (.cons (.tmp rfl) (.cons (.tmp rfl) (.nil)))) rfl ?_ ?_
    · exact hE4
    exact ⟨(by assumption), rfl⟩
  · refine Gm ?_
    refine Gv (V_extract rfl rfl rfl) ?_
    refine Gv (V_extract rfl rfl rfl) ?_
    refine Ga ?_
    refine Ga ?_
    refine G_end (X_then (G_seq (G_seq (G_region ?_))))
    refine Gm ?_
    refine Gv (V_neIN rfl rfl rfl) ?_
    refine G_end (X_then ?_)
    refine G_cond_t rfl rfl ?_
    refine G_seq (G_region ?_)
    refine Gm ?_
    refine Gm ?_
    refine Gm ?_
    refine G_call (k := 61) (.mk rfl rfl rfl rfl) rfl rfl (.none rfl) (toError_call _ _ _ s hs hS hR k hk) ?_
    rintro r2 E5 L5 hE5 ⟨⟨t, v, rfl⟩, rfl⟩
    have hf : NumI (.tuple #[.int .i64 n, .iface t v]) := ⟨⟨n, _, rfl, h1, h2, .inr ⟨t, v, rfl⟩⟩⟩
    refine Ga ?_
    refine Ga ?_
    refine G_end (X_then (G_ret (X_then_ret ?_)))
    refine G_leaveS (.nil _) (by exact (.cons (.tmp rfl) (.cons (.tmp rfl) (.nil)))) rfl ?_ ?_
    · exact (hE4.trans hE5)
    exact ⟨(by assumption), rfl⟩
theorem cAtoiD_call (s : List UInt8) (h1 : 1 ≤ s.length) (h18 : s.length ≤ 18) (hd : ∀ c, c ∈ s → dgtB c = true) : CallV Tryz.prog 44 #[.string (S s)] E L (.tuple #[.int .i64 (valD s : Nat), .nilIface]) := by
  refine CallS.toV (CallS.intro (l := [_]) _ Tryz.func44 rfl Tryz.ntmps44 rfl ?_)
  refine G_seq (G_region ?_)
  refine Ga ?_
  refine Ga ?_
  refine G_end (X_then (G_seq (G_region ?_)))
  refine Gm ?_
  refine G_callv (k := 60) (.mk rfl rfl rfl rfl) rfl rfl (.none rfl) (AtoiD_call _ _ s h1 h18 hd) ?_
  refine Gm ?_
  refine Gv (V_extract rfl rfl rfl) ?_
  refine Gv (V_extract rfl rfl rfl) ?_
  refine Ga ?_
  refine Ga ?_
  refine G_end (X_then (G_seq (G_seq (G_region ?_))))
  refine Gm ?_
  refine Gv (V_neNN rfl rfl rfl) ?_
  refine G_end (X_then ?_)
  refine G_cond_f rfl rfl ?_
  refine G_skip (X_then (G_seq (G_region ?_)))
  refine Gm ?_
  refine Ga ?_
  refine Ga ?_
  refine G_end (X_then (G_ret ?_))
  refine G_leaveS (.nil _) (by exact (.cons (.tmp rfl) (.cons (.tmp rfl) (.nil)))) rfl ?_ ?_
  · exact (.refl _)
  exact ⟨rfl, rfl⟩
end
end Go.Proofs.YtaibabmladgldaaGreatDoor
set_option linter.unusedSimpArgs false
set_option linter.unusedVariables false
set_option maxHeartbeats 2000000
set_option maxRecDepth 20000
namespace Go.Proofs.YtaibabmladgldaaGreatDoor
open Go.RowKit
/-! stack.number. -/
/-- What the row lays for texts of numbers. -/
structure LaidS (E : Env) : Prop where
  pow : SlE E 1 (some ⟨5, 2, none⟩) 2 [.int .u64 100, .int .u64 1000]
  syn : LaidI E 3
  rng : LaidI E 4
theorem LaidS.mono {E E' : Env} (h : LaidS E) (hE : E.Le E') : LaidS E' := ⟨h.pow.mono hE, h.syn.mono hE, h.rng.mono hE⟩
/-- What stack.number says of a text. -/
structure NumB (s : List UInt8) (r : Value) : Prop where
  out : ∃ n : Int, r = .tuple #[.int .i64 n, .bool (goodN s)] ∧ (goodN s = true → n = (valD s : Nat))
section
variable (E : Env) (L : List Res)
theorem Snumber_call (s : List UInt8) (hs : s.length ≤ 1000) (hT : LaidS E) : CallS Tryz.prog 30 #[.string (S s)] E L (fun r E' L' => NumB s r ∧ L' = L) := by
  by_cases hD : (1 ≤ s.length ∧ s.length ≤ 18) ∧ ∀ c, c ∈ s → dgtB c = true
  · obtain ⟨⟨h1, h18⟩, hd⟩ := hD
    have hvl : valD s < 10 ^ 18 := by
      have h1 := valD_lt (l := s) s.length (Nat.le_refl _) hd
      rw [List.take_length] at h1
      have h2 : 10 ^ s.length ≤ 10 ^ 18 := Nat.pow_le_pow_right (by omega) h18
      omega
    have hvl2 : valD s < 1000000000000000000 := by simpa using hvl
    clear hvl
    have hA := fun E0 L0 => cAtoiD_call E0 L0 s h1 h18 hd
    by_cases h999 : valD s ≤ 999
    · have hI := ItoaOk_all E (valD s : Nat) (by omega) hT.pow
      have hg : goodN s = decide (dec (valD s : Nat) = s) := by
        cases e : goodN s with
        | true => exact (decide_eq_true (goodN_dec e).1).symm
        | false =>
          refine (decide_eq_false fun h => ?_).symm
          have := (dec_good (x := (valD s : Nat)) (by omega)).1
          rw [h, e] at this
          cases this
      have hf : NumB s (.tuple #[.int .i64 (valD s : Nat), .bool (decide (dec (valD s : Nat) = s))]) := ⟨⟨_, by rw [hg], fun _ => rfl⟩⟩
      refine CallS.intro (l := [_]) _ Tryz.func30 rfl Tryz.ntmps30 rfl ?_
      refine G_seq (G_region ?_)
      refine Ga ?_
      refine Ga ?_
      refine G_end (X_then (G_seq (G_region ?_)))
      refine Gm ?_
      refine G_callv (k := 44) (.mk rfl rfl rfl rfl) rfl rfl (.none rfl) (hA _ _) ?_
      refine Gm ?_
      refine Gv (V_extract rfl rfl rfl) ?_
      refine Gv (V_extract rfl rfl rfl) ?_
      refine Ga ?_
      refine Ga ?_
      refine G_end (X_then (G_seq (G_region ?_)))
      refine Gm ?_
      refine Gm ?_
      refine Gv (V_eqNN rfl rfl rfl) ?_
      refine Gm ?_
      refine Gy (V_move rfl rfl) ?_
      refine Gy (V_geq rfl rfl rfl) ?_
      refine Gv (V_pick_t rfl rfl rfl) ?_
      refine Gm ?_
      refine G.bool_t 18 rfl (decide_eq_true (by omega)) ?_
      refine Gy (V_move rfl rfl) ?_
      refine Gy (V_leq rfl rfl rfl) ?_
      refine Gv (V_pick_t rfl rfl rfl) ?_
      refine Gm ?_
      refine G.bool_t 22 rfl (decide_eq_true (by omega)) ?_
      refine Gy (V_move rfl rfl) ?_
      refine G_callv (k := 39) (.mk rfl rfl rfl rfl) rfl rfl (.yes rfl rfl rfl rfl) (hI _) ?_
      refine Gy (V_move rfl rfl) ?_
      refine Gy (V_seql rfl rfl rfl) ?_
      refine Gv (V_pick_t rfl rfl rfl) ?_
      refine Ga ?_
      refine Ga ?_
      refine G_end (X_then (G_ret ?_))
      refine G_leaveS (.nil _) (by exact (.cons (.tmp rfl) (.cons (.tmp rfl) (.nil)))) rfl ?_ ?_
      · exact (.refl _)
      exact ⟨(by assumption), rfl⟩
    · have hg : goodN s = false := by
        cases e : goodN s with
        | false => rfl
        | true => have := (goodN_dec e).2; omega
      have hf : NumB s (.tuple #[.int .i64 (valD s : Nat), .bool false]) := ⟨⟨_, by rw [hg], fun _ => rfl⟩⟩
      refine CallS.intro (l := [_]) _ Tryz.func30 rfl Tryz.ntmps30 rfl ?_
      refine G_seq (G_region ?_)
      refine Ga ?_
      refine Ga ?_
      refine G_end (X_then (G_seq (G_region ?_)))
      refine Gm ?_
      refine G_callv (k := 44) (.mk rfl rfl rfl rfl) rfl rfl (.none rfl) (hA _ _) ?_
      refine Gm ?_
      refine Gv (V_extract rfl rfl rfl) ?_
      refine Gv (V_extract rfl rfl rfl) ?_
      refine Ga ?_
      refine Ga ?_
      refine G_end (X_then (G_seq (G_region ?_)))
      refine Gm ?_
      refine Gm ?_
      refine Gv (V_eqNN rfl rfl rfl) ?_
      refine Gm ?_
      refine Gy (V_move rfl rfl) ?_
      refine Gy (V_geq rfl rfl rfl) ?_
      refine Gv (V_pick_t rfl rfl rfl) ?_
      refine Gm ?_
      refine G.bool_t 18 rfl (decide_eq_true (by omega)) ?_
      refine Gy (V_move rfl rfl) ?_
      refine Gy (V_leq rfl rfl rfl) ?_
      refine Gv (V_pick_t rfl rfl rfl) ?_
      refine Gm ?_
      refine G.bool_f 22 rfl (decide_eq_false (by omega)) ?_
      refine Gn ?_
      refine Gn ?_
      refine Gn ?_
      refine Gn ?_
      refine Gv (V_pick_f rfl rfl rfl) ?_
      refine Ga ?_
      refine Ga ?_
      refine G_end (X_then (G_ret ?_))
      refine G_leaveS (.nil _) (by exact (.cons (.tmp rfl) (.cons (.tmp rfl) (.nil)))) rfl ?_ ?_
      · exact (.refl _)
      exact ⟨(by assumption), rfl⟩
  · have hg : goodN s = false := by
      cases e : goodN s with
      | false => rfl
      | true => have := goodN_dig e; exact absurd ⟨⟨this.2.1, by omega⟩, this.1⟩ hD
    have hf0 : ∀ n : Int, NumB s (.tuple #[.int .i64 n, .bool false]) := fun n => ⟨⟨n, by rw [hg], fun h => by rw [hg] at h; cases h⟩⟩
    refine CallS.intro (l := [_]) _ Tryz.func30 rfl Tryz.ntmps30 rfl ?_
    refine G_seq (G_region ?_)
    refine Ga ?_
    refine Ga ?_
    refine G_end (X_then (G_seq (G_region ?_)))
    refine Gm ?_
    refine G_call (k := 44) (.mk rfl rfl rfl rfl) rfl rfl (.none rfl) (cAtoi_call _ _ s (by omega) hT.syn hT.rng) ?_
    rintro r1 E1 L1 hE1 ⟨⟨⟨n, e, rfl, hn1, hn2, he⟩⟩, rfl⟩
    have hf := hf0 n
    rcases he with rfl | ⟨t, v, rfl⟩
    · by_cases h0 : n < 0
      · refine Gm ?_
        refine Gv (V_extract rfl rfl rfl) ?_
        refine Gv (V_extract rfl rfl rfl) ?_
        refine Ga ?_
        refine Ga ?_
        refine G_end (X_then (G_seq (G_region ?_)))
        refine Gm ?_
        refine Gm ?_
        refine Gv (V_eqNN rfl rfl rfl) ?_
        refine Gm ?_
        refine Gy (V_move rfl rfl) ?_
        refine Gy (V_geq rfl rfl rfl) ?_
        refine Gv (V_pick_t rfl rfl rfl) ?_
        refine Gm ?_
        refine G.bool_f 18 rfl (decide_eq_false (by omega)) ?_
        refine Gn ?_
        refine Gn ?_
        refine Gv (V_pick_f rfl rfl rfl) ?_
        refine Gm ?_
        refine Gn ?_
        refine Gn ?_
        refine Gn ?_
        refine Gn ?_
        refine Gv (V_pick_f rfl rfl rfl) ?_
        refine Ga ?_
        refine Ga ?_
        refine G_end (X_then (G_ret ?_))
        refine G_leaveS (.nil _) (by exact (.cons (.tmp rfl) (.cons (.tmp rfl) (.nil)))) rfl ?_ ?_
        · exact hE1
        exact ⟨(by assumption), rfl⟩
      by_cases h999 : 999 < n
      · refine Gm ?_
        refine Gv (V_extract rfl rfl rfl) ?_
        refine Gv (V_extract rfl rfl rfl) ?_
        refine Ga ?_
        refine Ga ?_
        refine G_end (X_then (G_seq (G_region ?_)))
        refine Gm ?_
        refine Gm ?_
        refine Gv (V_eqNN rfl rfl rfl) ?_
        refine Gm ?_
        refine Gy (V_move rfl rfl) ?_
        refine Gy (V_geq rfl rfl rfl) ?_
        refine Gv (V_pick_t rfl rfl rfl) ?_
        refine Gm ?_
        refine G.bool_t 18 rfl (decide_eq_true (by omega)) ?_
        refine Gy (V_move rfl rfl) ?_
        refine Gy (V_leq rfl rfl rfl) ?_
        refine Gv (V_pick_t rfl rfl rfl) ?_
        refine Gm ?_
        refine G.bool_f 22 rfl (decide_eq_false (by omega)) ?_
        refine Gn ?_
        refine Gn ?_
        refine Gn ?_
        refine Gn ?_
        refine Gv (V_pick_f rfl rfl rfl) ?_
        refine Ga ?_
        refine Ga ?_
        refine G_end (X_then (G_ret ?_))
        refine G_leaveS (.nil _) (by exact (.cons (.tmp rfl) (.cons (.tmp rfl) (.nil)))) rfl ?_ ?_
        · exact hE1
        exact ⟨(by assumption), rfl⟩
      have hI := ItoaOk_all E1 n (by omega) (hT.pow.mono hE1)
      have hne : ¬ dec n = s := fun h => by
        have := (dec_good (x := n) (by omega)).1
        rw [h, hg] at this
        cases this
      have hf2 : NumB s (.tuple #[.int .i64 n, .bool (decide (dec n = s))]) := by rw [decide_eq_false hne]; exact hf
      refine Gm ?_
      refine Gv (V_extract rfl rfl rfl) ?_
      refine Gv (V_extract rfl rfl rfl) ?_
      refine Ga ?_
      refine Ga ?_
      refine G_end (X_then (G_seq (G_region ?_)))
      refine Gm ?_
      refine Gm ?_
      refine Gv (V_eqNN rfl rfl rfl) ?_
      refine Gm ?_
      refine Gy (V_move rfl rfl) ?_
      refine Gy (V_geq rfl rfl rfl) ?_
      refine Gv (V_pick_t rfl rfl rfl) ?_
      refine Gm ?_
      refine G.bool_t 18 rfl (decide_eq_true (by omega)) ?_
      refine Gy (V_move rfl rfl) ?_
      refine Gy (V_leq rfl rfl rfl) ?_
      refine Gv (V_pick_t rfl rfl rfl) ?_
      refine Gm ?_
      refine G.bool_t 22 rfl (decide_eq_true (by omega)) ?_
      refine Gy (V_move rfl rfl) ?_
      refine G_callv (k := 39) (.mk rfl rfl rfl rfl) rfl rfl (.yes rfl rfl rfl rfl) (hI _) ?_
      refine Gy (V_move rfl rfl) ?_
      refine Gy (V_seql rfl rfl rfl) ?_
      refine Gv (V_pick_t rfl rfl rfl) ?_
      refine Ga ?_
      refine Ga ?_
      refine G_end (X_then (G_ret ?_))
      refine G_leaveS (.nil _) (by exact (.cons (.tmp rfl) (.cons (.tmp rfl) (.nil)))) rfl ?_ ?_
      · exact hE1
      exact ⟨(by assumption), rfl⟩
    · refine Gm ?_
      refine Gv (V_extract rfl rfl rfl) ?_
      refine Gv (V_extract rfl rfl rfl) ?_
      refine Ga ?_
      refine Ga ?_
      refine G_end (X_then (G_seq (G_region ?_)))
      refine Gm ?_
      refine Gm ?_
      refine Gv (V_eqIN rfl rfl rfl) ?_
      refine Gm ?_
      refine Gn ?_
      refine Gn ?_
      refine Gv (V_pick_f rfl rfl rfl) ?_
      refine Gm ?_
      refine Gn ?_
      refine Gn ?_
      refine Gv (V_pick_f rfl rfl rfl) ?_
      refine Gm ?_
      refine Gn ?_
      refine Gn ?_
      refine Gn ?_
      refine Gn ?_
      refine Gv (V_pick_f rfl rfl rfl) ?_
      refine Ga ?_
      refine Ga ?_
      refine G_end (X_then (G_ret ?_))
      refine G_leaveS (.nil _) (by exact (.cons (.tmp rfl) (.cons (.tmp rfl) (.nil)))) rfl ?_ ?_
      · exact hE1
      exact ⟨(by assumption), rfl⟩
theorem Snumber_call' (s : List UInt8) (hs : s.length ≤ 1000) (hT : LaidS E) (h : goodN s = true) : CallS Tryz.prog 30 #[.string (S s)] E L (fun r E' L' => r = .tuple #[.int .i64 (valD s : Nat), .bool true] ∧ L' = L) := by
  refine CallS.mono (Snumber_call E L s hs hT) ?_
  rintro r E' L' _ ⟨⟨n, rfl, hn⟩, rfl⟩
  exact ⟨by rw [hn h, h], rfl⟩
theorem Snumber_bad' (s : List UInt8) (hs : s.length ≤ 1000) (hT : LaidS E) (h : goodN s = false) : CallS Tryz.prog 30 #[.string (S s)] E L (fun r E' L' => (∃ n : Int, r = .tuple #[.int .i64 n, .bool false]) ∧ L' = L) := by
  refine CallS.mono (Snumber_call E L s hs hT) ?_
  rintro r E' L' _ ⟨⟨n, rfl, hn⟩, rfl⟩
  exact ⟨⟨n, by rw [h]⟩, rfl⟩
end
end Go.Proofs.YtaibabmladgldaaGreatDoor
set_option linter.unusedSimpArgs false
set_option linter.unusedVariables false
set_option maxHeartbeats 2000000
set_option maxRecDepth 20000
namespace Go.Proofs.YtaibabmladgldaaGreatDoor
open Go.RowKit
/-! stack.Parse. -/
theorem wordsM_snoc : ∀ {l : List (List UInt8)} {xs : List Spt} {w : List UInt8} {x : Spt}, wordsM l = some xs → wordM w = some x → wordsM (l ++ [w]) = some (xs ++ [x]) := by
  intro l
  induction l with
  | nil => intro xs w x h hw; cases h; simp [wordsM, hw]
  | cons y l ih =>
    intro xs w x h hw
    simp only [wordsM] at h
    split at h
    · rename_i z zs h1 h2
      cases h
      simp only [List.cons_append, wordsM, h1, ih h2 hw]
    · cases h
theorem wordsM_none : ∀ {l : List (List UInt8)} {w : List UInt8}, w ∈ l → wordM w = none → wordsM l = none := by
  intro l
  induction l with
  | nil => intro w h _; cases h
  | cons y l ih =>
    intro w h hw
    simp only [wordsM]
    rcases List.mem_cons.1 h with rfl | h
    · rw [hw]
    · rw [ih h hw]
      cases wordM y <;> rfl
theorem splitB_mem {c : UInt8} : ∀ {s w : List UInt8}, w ∈ splitB c s → w.length ≤ s.length := by
  intro s
  induction s with
  | nil => intro w h; simp [splitB] at h; simp [h]
  | cons b s ih =>
    intro w h
    unfold splitB at h
    split at h
    · rcases List.mem_cons.1 h with rfl | h
      · simp
      · have := ih h; simp; omega
    · split at h
      · rename_i h1; exact absurd h1 (splitB_ne c s)
      · rename_i p ps h1
        rcases List.mem_cons.1 h with rfl | h
        · have := ih (w := p) (by rw [h1]; exact .head _); simp; omega
        · have := ih (w := w) (by rw [h1]; exact .tail _ h); simp; omega
theorem cutB_snd (c : UInt8) (s : List UInt8) : (cutB c s).2.1.length ≤ s.length := by
  cases h : (cutB c s).2.2 with
  | true => have := cutB_lt h; omega
  | false => rw [(cutB_none h).2]; simp
section
variable (E : Env) (L : List Res)
theorem SParse_call (s : List UInt8) (hs : s.length ≤ 1000) (hT : LaidS E) : CallS Tryz.prog 8 #[.string (S s)] E L (fun r E' L' => (∃ a n' c', r = .tuple #[.slice a n' c', .int .i64 (parseM s).2] ∧ SlE E' 2 a n' (spC (parseM s).1) ∧ n' ≤ c' ∧ n' ≤ 1000) ∧ L' = L) := by
  have hnil : SlE E 2 none 0 (spC []) := SlE.nil
  have hsl : (splitB 32 s).length ≤ 1001 := by
    rw [splitB_len]
    have := List.count_le_length (a := (32 : UInt8)) (l := s)
    omega
  unfold parseM
  refine CallS.intro (l := [_]) _ Tryz.func8 rfl Tryz.ntmps8 rfl ?_
  by_cases hd : s = [45]
  · rw [if_pos hd]
    refine G_seq (G_region ?_)
    (refine G_alloc rfl rfl rfl (.none rfl) ?_; intro b2)
    (refine G_alloc rfl rfl rfl (.none rfl) ?_; intro b3)
    refine G_end (X_then (G_seq (G_seq (G_region ?_))))
    refine Gm ?_
    refine Gv (V_seql rfl rfl rfl) ?_
    refine G_end (X_then ?_)
    refine G_cond_t rfl (decide_eq_true (by omega)) ?_
    refine G_seq (G_region ?_)
    refine G_store1 rfl rfl rfl rfl rfl rfl (.none rfl) (.tail _ (.head _ _ _)) ?_
    refine G_store1 rfl rfl rfl rfl rfl rfl (.none rfl) (.head _ _ _) ?_
    refine G_end (X_then (G_ret (X_then_ret ?_)))
    refine G_leaveS (.drop _ (.drop _ (.nil _))) (by exact (.cons (.cell1 rfl (Cell.own1 (.tail _ (.head _)))) (.cons (.cell1 rfl (Cell.own1 (.head _))) (.nil)))) rfl ?_ ?_
    · exact (.refl _)
    exact ⟨⟨_, ⟨_, ⟨_, ⟨rfl, ⟨(by assumption), ⟨(by omega), (by omega)⟩⟩⟩⟩⟩⟩, rfl⟩
  rw [if_neg hd]
  refine G_seq (G_region ?_)
  (refine G_alloc rfl rfl rfl (.none rfl) ?_; intro b2)
  (refine G_alloc rfl rfl rfl (.none rfl) ?_; intro b3)
  refine G_end (X_then (G_seq (G_seq (G_region ?_))))
  refine Gm ?_
  refine Gv (V_seql rfl rfl rfl) ?_
  refine G_end (X_then ?_)
  refine G_cond_f rfl (decide_eq_false (by omega)) ?_
  refine G_skip (X_then (G_seq (G_region ?_)))
  (refine G_alloc rfl rfl rfl (.none rfl) ?_; intro b4)
  refine G_end (X_then (G_seq (G_seq (G_region ?_))))
  refine Gm ?_
  refine G_call (k := 28) (.mk rfl rfl rfl rfl) rfl rfl (.none rfl) (SplitSeq_call _ _ _ _) ?_
  rintro r1 E2 L3 hE4 ⟨z5, ⟨z6, ⟨z7, ⟨rfl, ⟨rfl, rfl⟩⟩⟩⟩⟩
  replace hT := hT.mono hE4
  replace hnil := hnil.mono hE4
  refine G_end (X_then (G_block ?_))
  refine G.nilSl 52 2 ?_
  refine G.front (.tail _ (.tail _ (.tail _ (.head _ _)))) ?_
  refine G.front (.tail _ (.tail _ (.tail _ (.head _ _)))) ?_
  refine G.front (.tail _ (.tail _ (.tail _ (.head _ _)))) ?_
  refine G_rangeI (σ := Env × Option Addr × Nat × List Spt × Int) (enc := fun x : List UInt8 => [Value.string (S x)]) rfl (iter_split _ _ _ 32 s (by omega) E) (fun v => v.1)
    (fun v => .sl 52 2 v.2.1 v.2.2.2.1.length v.2.2.1 (spC v.2.2.2.1) :: .blk b4 (.cells #[.slice v.2.1 v.2.2.2.1.length v.2.2.1] 23 (0, 0)) :: .blk b3 (.cells #[.int .i64 v.2.2.2.2] 24 (0, 0)) :: .blk b2 (.cells #[.slice none 0 0] 23 (0, 0)) :: L)
    (fun pre v => v.2.2.2.2 = 0 ∧ wordsM pre = some v.2.2.2.1) (fun q pre v => q = .ret ∧ v.2.2.2.2 = 3 ∧ wordsM (splitB 32 s) = none) (E, none, 0, [], 0) ⟨rfl, rfl⟩ rfl (.refl _) rfl (fun _ => rfl) ?_ ?_ ?_
  · rintro y D tm fn M pre w ⟨E1, a, ca, xs, e⟩ hpre ⟨rfl, hw⟩ hE
    simp only at hw hE
    have hwm : w ∈ splitB 32 s := hpre.subset (by simp)
    have hwl := splitB_mem hwm
    have h1l := cutB_le 58 w
    have h2l := cutB_snd 58 w
    have hxl := wordsM_len hw
    have hpl := hpre.length_le
    rw [List.length_append, List.length_singleton] at hpl
    have hT1 := hT.mono hE
    simp only [List.cons_append]
    cases g1 : goodN (cutB 58 w).1 with
    | false =>
      have hbad := wordsM_none hwm (by simp [wordM, g1])
      cases g2 : goodN (cutB 58 w).2.1 with
      | false =>
        refine G_region ?_
        refine Ga ?_
        refine G_end (X_then ?_)
        refine G_begin (.head _ _ _) ?_
        refine G_block (G_seq (G_region ?_))
        refine Gm ?_
        refine G_callv (k := 29) (.mk rfl rfl rfl rfl) rfl rfl (.none rfl) (Cut1_call _ _ _ _ (by omega)) ?_
        refine Gm ?_
        refine Gv (V_extract rfl rfl rfl) ?_
        refine Gv (V_extract rfl rfl rfl) ?_
        refine Gv (V_extract rfl rfl rfl) ?_
        refine Ga ?_
        refine Ga ?_
        refine Ga ?_
        refine G_end (X_then (G_seq (G_region ?_)))
        refine Gm ?_
        refine G_call (k := 30) (.mk rfl rfl rfl rfl) rfl rfl (.none rfl) (Snumber_bad' _ _ _ (by omega) (by assumption) (by assumption)) ?_
        rintro r1 E2 L3 hE5 ⟨⟨z8, rfl⟩, rfl⟩
        replace hT1 := hT1.mono hE5
        refine Gm ?_
        refine Gv (V_extract rfl rfl rfl) ?_
        refine Gv (V_extract rfl rfl rfl) ?_
        refine Ga ?_
        refine Ga ?_
        refine G_end (X_then (G_seq (G_region ?_)))
        refine Gm ?_
        refine G_call (k := 30) (.mk rfl rfl rfl rfl) rfl rfl (.none rfl) (Snumber_bad' _ _ _ (by omega) (by assumption) (by assumption)) ?_
        rintro r9 E10 L11 hE12 ⟨⟨z13, rfl⟩, rfl⟩
        replace hT1 := hT1.mono hE12
        refine Gm ?_
        refine Gv (V_extract rfl rfl rfl) ?_
        refine Gv (V_extract rfl rfl rfl) ?_
        refine Ga ?_
        refine Ga ?_
        refine G_end (X_then (G_seq (G_seq (G_region ?_))))
        refine Gm ?_
        refine Gv (V_not rfl rfl) ?_
        refine Gm ?_
        refine G.bool_t 36 rfl (by kernel_rfl) ?_
        refine Gn ?_
        refine Gn ?_
        refine Gv (V_pick_t rfl rfl rfl) ?_
        refine G_end (X_then ?_)
        refine G_cond_t rfl rfl ?_
        refine G_seq (G_region ?_)
        refine G_store1 rfl rfl rfl rfl rfl rfl (.none rfl) (.tail _ (.tail _ (.tail _ (.tail _ (.tail _ (.head _ _ _)))))) ?_
        refine G_store1 rfl rfl rfl rfl rfl rfl (.none rfl) (.tail _ (.tail _ (.tail _ (.tail _ (.head _ _ _))))) ?_
        refine G_end (X_then (G_ret (X_then_ret (X_block_ret ?_))))
        exact G_rRet (_, a, ca, xs, 3) ⟨rfl, rfl, hbad⟩ rfl (by repeat (first | assumption | refine Env.Le.trans (by assumption) ?_)) rfl
      | true =>
        refine G_region ?_
        refine Ga ?_
        refine G_end (X_then ?_)
        refine G_begin (.head _ _ _) ?_
        refine G_block (G_seq (G_region ?_))
        refine Gm ?_
        refine G_callv (k := 29) (.mk rfl rfl rfl rfl) rfl rfl (.none rfl) (Cut1_call _ _ _ _ (by omega)) ?_
        refine Gm ?_
        refine Gv (V_extract rfl rfl rfl) ?_
        refine Gv (V_extract rfl rfl rfl) ?_
        refine Gv (V_extract rfl rfl rfl) ?_
        refine Ga ?_
        refine Ga ?_
        refine Ga ?_
        refine G_end (X_then (G_seq (G_region ?_)))
        refine Gm ?_
        refine G_call (k := 30) (.mk rfl rfl rfl rfl) rfl rfl (.none rfl) (Snumber_bad' _ _ _ (by omega) (by assumption) (by assumption)) ?_
        rintro r1 E2 L3 hE5 ⟨⟨z8, rfl⟩, rfl⟩
        replace hT1 := hT1.mono hE5
        refine Gm ?_
        refine Gv (V_extract rfl rfl rfl) ?_
        refine Gv (V_extract rfl rfl rfl) ?_
        refine Ga ?_
        refine Ga ?_
        refine G_end (X_then (G_seq (G_region ?_)))
        refine Gm ?_
        refine G_call (k := 30) (.mk rfl rfl rfl rfl) rfl rfl (.none rfl) (Snumber_call' _ _ _ (by omega) (by assumption) (by assumption)) ?_
        rintro r9 E10 L11 hE12 ⟨rfl, rfl⟩
        replace hT1 := hT1.mono hE12
        refine Gm ?_
        refine Gv (V_extract rfl rfl rfl) ?_
        refine Gv (V_extract rfl rfl rfl) ?_
        refine Ga ?_
        refine Ga ?_
        refine G_end (X_then (G_seq (G_seq (G_region ?_))))
        refine Gm ?_
        refine Gv (V_not rfl rfl) ?_
        refine Gm ?_
        refine G.bool_t 36 rfl (by kernel_rfl) ?_
        refine Gn ?_
        refine Gn ?_
        refine Gv (V_pick_t rfl rfl rfl) ?_
        refine G_end (X_then ?_)
        refine G_cond_t rfl rfl ?_
        refine G_seq (G_region ?_)
        refine G_store1 rfl rfl rfl rfl rfl rfl (.none rfl) (.tail _ (.tail _ (.tail _ (.tail _ (.tail _ (.head _ _ _)))))) ?_
        refine G_store1 rfl rfl rfl rfl rfl rfl (.none rfl) (.tail _ (.tail _ (.tail _ (.tail _ (.head _ _ _))))) ?_
        refine G_end (X_then (G_ret (X_then_ret (X_block_ret ?_))))
        exact G_rRet (_, a, ca, xs, 3) ⟨rfl, rfl, hbad⟩ rfl (by repeat (first | assumption | refine Env.Le.trans (by assumption) ?_)) rfl
    | true =>
      cases g2 : goodN (cutB 58 w).2.1 with
      | false =>
        have hbad := wordsM_none hwm (by simp [wordM, g1, g2])
        refine G_region ?_
        refine Ga ?_
        refine G_end (X_then ?_)
        refine G_begin (.head _ _ _) ?_
        refine G_block (G_seq (G_region ?_))
        refine Gm ?_
        refine G_callv (k := 29) (.mk rfl rfl rfl rfl) rfl rfl (.none rfl) (Cut1_call _ _ _ _ (by omega)) ?_
        refine Gm ?_
        refine Gv (V_extract rfl rfl rfl) ?_
        refine Gv (V_extract rfl rfl rfl) ?_
        refine Gv (V_extract rfl rfl rfl) ?_
        refine Ga ?_
        refine Ga ?_
        refine Ga ?_
        refine G_end (X_then (G_seq (G_region ?_)))
        refine Gm ?_
        refine G_call (k := 30) (.mk rfl rfl rfl rfl) rfl rfl (.none rfl) (Snumber_call' _ _ _ (by omega) (by assumption) (by assumption)) ?_
        rintro r1 E2 L3 hE5 ⟨rfl, rfl⟩
        replace hT1 := hT1.mono hE5
        refine Gm ?_
        refine Gv (V_extract rfl rfl rfl) ?_
        refine Gv (V_extract rfl rfl rfl) ?_
        refine Ga ?_
        refine Ga ?_
        refine G_end (X_then (G_seq (G_region ?_)))
        refine Gm ?_
        refine G_call (k := 30) (.mk rfl rfl rfl rfl) rfl rfl (.none rfl) (Snumber_bad' _ _ _ (by omega) (by assumption) (by assumption)) ?_
        rintro r6 E7 L8 hE9 ⟨⟨z10, rfl⟩, rfl⟩
        replace hT1 := hT1.mono hE9
        refine Gm ?_
        refine Gv (V_extract rfl rfl rfl) ?_
        refine Gv (V_extract rfl rfl rfl) ?_
        refine Ga ?_
        refine Ga ?_
        refine G_end (X_then (G_seq (G_seq (G_region ?_))))
        refine Gm ?_
        refine Gv (V_not rfl rfl) ?_
        refine Gm ?_
        refine G.bool_f 36 rfl (by kernel_rfl) ?_
        refine Gy (V_move rfl rfl) ?_
        refine Gy (V_not rfl rfl) ?_
        refine Gv (V_pick_f rfl rfl rfl) ?_
        refine G_end (X_then ?_)
        refine G_cond_t rfl (by kernel_rfl) ?_
        refine G_seq (G_region ?_)
        refine G_store1 rfl rfl rfl rfl rfl rfl (.none rfl) (.tail _ (.tail _ (.tail _ (.tail _ (.tail _ (.head _ _ _)))))) ?_
        refine G_store1 rfl rfl rfl rfl rfl rfl (.none rfl) (.tail _ (.tail _ (.tail _ (.tail _ (.head _ _ _))))) ?_
        refine G_end (X_then (G_ret (X_then_ret (X_block_ret ?_))))
        exact G_rRet (_, a, ca, xs, 3) ⟨rfl, rfl, hbad⟩ rfl (by repeat (first | assumption | refine Env.Le.trans (by assumption) ?_)) rfl
      | true =>
        have hgood : wordM w = some (spv (cutB 58 w).1 (cutB 58 w).2.1) := by simp [wordM, g1, g2]
        have v1 := (goodN_dec g1).2
        have v2 := (goodN_dec g2).2
        have hw2 := wordsM_snoc hw hgood
        have hsp : spC xs ++ [.int .i64 (valD (cutB 58 w).1 : Nat), .int .i64 (valD (cutB 58 w).2.1 : Nat)] = spC (xs ++ [spv (cutB 58 w).1 (cutB 58 w).2.1]) := by rw [spC_append]; rfl
        have hxl2 : (xs ++ [spv (cutB 58 w).1 (cutB 58 w).2.1]).length = xs.length + 1 := by simp
        refine G_region ?_
        refine Ga ?_
        refine G_end (X_then ?_)
        refine G_begin (.head _ _ _) ?_
        refine G_block (G_seq (G_region ?_))
        refine Gm ?_
        refine G_callv (k := 29) (.mk rfl rfl rfl rfl) rfl rfl (.none rfl) (Cut1_call _ _ _ _ (by omega)) ?_
        refine Gm ?_
        refine Gv (V_extract rfl rfl rfl) ?_
        refine Gv (V_extract rfl rfl rfl) ?_
        refine Gv (V_extract rfl rfl rfl) ?_
        refine Ga ?_
        refine Ga ?_
        refine Ga ?_
        refine G_end (X_then (G_seq (G_region ?_)))
        refine Gm ?_
        refine G_call (k := 30) (.mk rfl rfl rfl rfl) rfl rfl (.none rfl) (Snumber_call' _ _ _ (by omega) (by assumption) (by assumption)) ?_
        rintro r1 E2 L3 hE5 ⟨rfl, rfl⟩
        replace hT1 := hT1.mono hE5
        refine Gm ?_
        refine Gv (V_extract rfl rfl rfl) ?_
        refine Gv (V_extract rfl rfl rfl) ?_
        refine Ga ?_
        refine Ga ?_
        refine G_end (X_then (G_seq (G_region ?_)))
        refine Gm ?_
        refine G_call (k := 30) (.mk rfl rfl rfl rfl) rfl rfl (.none rfl) (Snumber_call' _ _ _ (by omega) (by assumption) (by assumption)) ?_
        rintro r6 E7 L8 hE9 ⟨rfl, rfl⟩
        replace hT1 := hT1.mono hE9
        refine Gm ?_
        refine Gv (V_extract rfl rfl rfl) ?_
        refine Gv (V_extract rfl rfl rfl) ?_
        refine Ga ?_
        refine Ga ?_
        refine G_end (X_then (G_seq (G_seq (G_region ?_))))
        refine Gm ?_
        refine Gv (V_not rfl rfl) ?_
        refine Gm ?_
        refine G.bool_f 36 rfl (by kernel_rfl) ?_
        refine Gy (V_move rfl rfl) ?_
        refine Gy (V_not rfl rfl) ?_
        refine Gv (V_pick_f rfl rfl rfl) ?_
        refine G_end (X_then ?_)
        refine G_cond_f rfl (by kernel_rfl) ?_
        refine G_skip (X_then (G_region ?_))
        refine Gv (V_load rfl rfl (Cell.own1 (.tail _ (.tail _ (.tail _ (.head _)))))) ?_
        refine Gm ?_
        refine Gm ?_
        refine Gv (V_build rfl rfl (by simp [fillV, setLs, setL, Value.cells]; rfl)) ?_
        (refine G_lit rfl rfl (by decide) (by simp [fillS, zeros, setLs, setL, Value.cells, List.range, List.range.loop]; rfl) rfl rfl (.none rfl) ?_; intro b44)
        (refine G_append rfl rfl rfl (Rd.lit (.head _) rfl) (by simp [Value.oneCell']) (by omega) (by omega) rfl rfl (.none rfl) (fun _ _ => (.tail _ (.tail _ (.tail _ (.head _ _ _))))) ?_; intro a45 c45; refine G.rm (.head _ _) ?_)
        refine G_store1 rfl rfl rfl rfl rfl rfl (.none rfl) (.tail _ (.tail _ (.tail _ (.head _ _ _)))) ?_
        refine G_end (X_block ?_)
        rw [hsp, ← hxl2]
        exact G_rEnd (_, a45, c45, xs ++ [spv (cutB 58 w).1 (cutB 58 w).2.1], 0) ⟨rfl, hw2⟩ rfl (by repeat (first | assumption | refine Env.Le.trans (by assumption) ?_)) rfl
  · rintro D ⟨E1, a, ca, xs, e⟩ ⟨rfl, hw⟩ hE
    simp only at hw hE ⊢
    replace hnil := hnil.mono hE
    rw [hw]
    have hxl := wordsM_len hw
    simp only
    by_cases h64 : 64 < xs.length
    · rw [if_pos h64]
      refine X_block (X_then (G_seq (G_seq (G_region ?_))))
      refine Gv (V_load rfl rfl (Cell.own1 (.tail _ (.tail _ (.head _))))) ?_
      refine Gv (V_lenS rfl rfl) ?_
      refine Gv (V_gtr rfl rfl rfl) ?_
      refine G_end (X_then ?_)
      refine G_cond_t rfl (decide_eq_true (by omega)) ?_
      refine G_seq (G_region ?_)
      refine G_store1 rfl rfl rfl rfl rfl rfl (.none rfl) (.tail _ (.tail _ (.tail _ (.tail _ (.head _ _ _))))) ?_
      refine G_store1 rfl rfl rfl rfl rfl rfl (.none rfl) (.tail _ (.tail _ (.tail _ (.head _ _ _)))) ?_
      refine G_end (X_then (G_ret (X_then_ret ?_)))
      refine G_leave_ms [D] ?_
      refine G_leaveS (.drop _ (.drop _ (.drop _ (.drop _ (.nil _))))) (by exact (.cons (.cell1 rfl (Cell.own1 (.tail _ (.tail _ (.tail _ (.head _)))))) (.cons (.cell1 rfl (Cell.own1 (.tail _ (.tail _ (.head _))))) (.nil)))) rfl ?_ ?_
      · exact hE
      exact ⟨⟨_, ⟨_, ⟨_, ⟨rfl, ⟨(by assumption), ⟨(by omega), (by omega)⟩⟩⟩⟩⟩⟩, rfl⟩
    · rw [if_neg h64]
      refine G.freezeSl (.tail _ (.head _ _)) ?_
      intro E2 hE2 hs3 hca
      refine X_block (X_then (G_seq (G_seq (G_region ?_))))
      refine Gv (V_load rfl rfl (Cell.own1 (.tail _ (.head _)))) ?_
      refine Gv (V_lenS rfl rfl) ?_
      refine Gv (V_gtr rfl rfl rfl) ?_
      refine G_end (X_then ?_)
      refine G_cond_f rfl (decide_eq_false (by omega)) ?_
      refine G_skip (X_then (G_seq (G_region ?_)))
      refine Gv (V_load rfl rfl (Cell.own1 (.tail _ (.head _)))) ?_
      refine G_store1 rfl rfl rfl rfl rfl rfl (.none rfl) (.tail _ (.tail _ (.tail _ (.head _ _ _)))) ?_
      refine G_store1 rfl rfl rfl rfl rfl rfl (.none rfl) (.tail _ (.tail _ (.head _ _ _))) ?_
      refine G_end (X_then (G_ret ?_))
      refine G_leave_ms [D] ?_
      refine G_leaveS (.drop _ (.drop _ (.drop _ (.nil _)))) (by exact (.cons (.cell1 rfl (Cell.own1 (.tail _ (.tail _ (.head _))))) (.cons (.cell1 rfl (Cell.own1 (.tail _ (.head _)))) (.nil)))) rfl ?_ ?_
      · exact (hE.trans hE2)
      exact ⟨⟨_, ⟨_, ⟨_, ⟨rfl, ⟨(by assumption), ⟨(by assumption), (by omega)⟩⟩⟩⟩⟩⟩, rfl⟩
  · rintro D q pre ⟨E1, a, ca, xs, e⟩ hpre ⟨rfl, rfl, hn⟩ hE
    simp only at hE hn ⊢
    replace hnil := hnil.mono hE
    rw [hn]
    simp only
    refine G_ret (X_block_ret (X_then_ret ?_))
    refine G_leave_ms [D] ?_
    refine G_leaveS (.drop _ (.drop _ (.drop _ (.drop _ (.nil _))))) (by exact (.cons (.cell1 rfl (Cell.own1 (.tail _ (.tail _ (.tail _ (.head _)))))) (.cons (.cell1 rfl (Cell.own1 (.tail _ (.tail _ (.head _))))) (.nil)))) rfl ?_ ?_
    · exact hE
    exact ⟨⟨_, ⟨_, ⟨_, ⟨rfl, ⟨(by assumption), ⟨(by omega), (by omega)⟩⟩⟩⟩⟩⟩, rfl⟩
end
end Go.Proofs.YtaibabmladgldaaGreatDoor
set_option linter.unusedSimpArgs false
set_option linter.unusedVariables false
set_option maxHeartbeats 2000000
set_option maxRecDepth 20000
namespace Go.Proofs.YtaibabmladgldaaGreatDoor
open Go.RowKit
/-! The law's calls on the chapter's examples. -/
section
variable (E : Env) (L : List Res)
theorem kpush1 (gv : Value) (hg : GrE E gv shG) : CallS Tryz.prog 11 #[gv, .slice none 0 0, .int .i64 0] E L (fun r E' L' => ∃ a n' c', r = .tuple #[.slice a n' c', .int .i64 0] ∧ SlE E' 2 a n' (spC [(0, 0)]) ∧ n' ≤ 1000 ∧ L' = L) := by
  have hs : SlE E 2 none 0 (spC []) := SlE.nil
  have hc : 0 ≤ 0 := Nat.le_refl _
  have hp : pushM shG ([]) 0 = ([(0, 0)], 0) := by decide +kernel
  refine CallS.mono (SPush_call E L gv shG hg shG_light none 0 0 ([]) hs (by omega) hc 0) ?_
  rintro r E' L' _ ⟨⟨a, n', c', h1, h2, _, h4⟩, h5⟩
  rw [hp] at h1 h2
  exact ⟨a, n', c', h1, h2, h4, h5⟩
theorem kpush2 (gv : Value) (hg : GrE E gv shG) : CallS Tryz.prog 11 #[gv, .slice none 0 0, .int .i64 2] E L (fun r E' L' => ∃ a n' c', r = .tuple #[.slice a n' c', .int .i64 11] ∧ SlE E' 2 a n' (spC []) ∧ n' ≤ 1000 ∧ L' = L) := by
  have hs : SlE E 2 none 0 (spC []) := SlE.nil
  have hc : 0 ≤ 0 := Nat.le_refl _
  have hp : pushM shG ([]) 2 = ([], 11) := by decide +kernel
  refine CallS.mono (SPush_call E L gv shG hg shG_light none 0 0 ([]) hs (by omega) hc 2) ?_
  rintro r E' L' _ ⟨⟨a, n', c', h1, h2, _, h4⟩, h5⟩
  rw [hp] at h1 h2
  exact ⟨a, n', c', h1, h2, h4, h5⟩
theorem kpush3 (gv : Value) (hg : GrE E gv shG) (p : Option Addr) (n c : Nat) (hs : SlE E 2 p n (spC (prs [0, 0]))) (hc : n ≤ c) : CallS Tryz.prog 11 #[gv, .slice p n c, .int .i64 2] E L (fun r E' L' => ∃ a n' c', r = .tuple #[.slice a n' c', .int .i64 11] ∧ SlE E' 2 a n' (spC []) ∧ n' ≤ 1000 ∧ L' = L) := by
  have hn := hs.nSp
  have hl : (prs [0, 0]).length = 1 := rfl
  have hp : pushM shG (prs [0, 0]) 2 = ([], 11) := by decide +kernel
  refine CallS.mono (SPush_call E L gv shG hg shG_light p n c (prs [0, 0]) hs (by omega) hc 2) ?_
  rintro r E' L' _ ⟨⟨a, n', c', h1, h2, _, h4⟩, h5⟩
  rw [hp] at h1 h2
  exact ⟨a, n', c', h1, h2, h4, h5⟩
theorem kmove1 (gv : Value) (hg : GrE E gv shG) (p : Option Addr) (n c : Nat) (hs : SlE E 2 p n (spC (prs [0, 0]))) (hc : n ≤ c) : CallS Tryz.prog 14 #[gv, .slice p n c] E L (fun r E' L' => ∃ a n' c', r = .tuple #[.slice a n' c', .int .i64 0] ∧ SlE E' 2 a n' (spC [(0, 1)]) ∧ n' ≤ 1000 ∧ L' = L) := by
  have hn := hs.nSp
  have hl : (prs [0, 0]).length = 1 := rfl
  have hp : moveM shG (prs [0, 0]) = ([(0, 1)], 0) := by decide +kernel
  refine CallS.mono (SMove_call E L gv shG hg shG_light p n c (prs [0, 0]) hs (by omega) hc) ?_
  rintro r E' L' _ ⟨⟨a, n', c', h1, h2, _, h4⟩, h5⟩
  rw [hp] at h1 h2
  exact ⟨a, n', c', h1, h2, h4, h5⟩
theorem kmove2 (gv : Value) (hg : GrE E gv shG) (p : Option Addr) (n c : Nat) (hs : SlE E 2 p n (spC (prs [0, 1]))) (hc : n ≤ c) : CallS Tryz.prog 14 #[gv, .slice p n c] E L (fun r E' L' => ∃ a n' c', r = .tuple #[.slice a n' c', .int .i64 10] ∧ SlE E' 2 a n' (spC []) ∧ n' ≤ 1000 ∧ L' = L) := by
  have hn := hs.nSp
  have hl : (prs [0, 1]).length = 1 := rfl
  have hp : moveM shG (prs [0, 1]) = ([], 10) := by decide +kernel
  refine CallS.mono (SMove_call E L gv shG hg shG_light p n c (prs [0, 1]) hs (by omega) hc) ?_
  rintro r E' L' _ ⟨⟨a, n', c', h1, h2, _, h4⟩, h5⟩
  rw [hp] at h1 h2
  exact ⟨a, n', c', h1, h2, h4, h5⟩
theorem kpop1 (gv : Value) (hg : GrE E gv shG) (p : Option Addr) (n c : Nat) (hs : SlE E 2 p n (spC (prs [0, 2, 2, 2]))) (hc : n ≤ c) : CallS Tryz.prog 15 #[gv, .slice p n c] E L (fun r E' L' => ∃ a n' c', r = .tuple #[.slice a n' c', .int .i64 0] ∧ SlE E' 2 a n' (spC [(0, 2)]) ∧ n' ≤ 1000 ∧ L' = L) := by
  have hn := hs.nSp
  have hl : (prs [0, 2, 2, 2]).length = 2 := rfl
  have hp : popM shG (prs [0, 2, 2, 2]) = ([(0, 2)], 0) := by decide +kernel
  refine CallS.mono (SPop_call E L gv shG hg shG_light p n c (prs [0, 2, 2, 2]) hs (by omega) hc) ?_
  rintro r E' L' _ ⟨⟨a, n', c', h1, h2, _, h4⟩, h5⟩
  rw [hp] at h1 h2
  exact ⟨a, n', c', h1, h2, h4, h5⟩
theorem kpop2 (gv : Value) (hg : GrE E gv shG) (p : Option Addr) (n c : Nat) (hs : SlE E 2 p n (spC (prs [0, 2]))) (hc : n ≤ c) : CallS Tryz.prog 15 #[gv, .slice p n c] E L (fun r E' L' => ∃ a c', r = .tuple #[.slice a 0 c', .int .i64 0] ∧ SlE E' 2 a 0 (spC []) ∧ L' = L) := by
  have hn := hs.nSp
  have hl : (prs [0, 2]).length = 1 := rfl
  have hp : popM shG (prs [0, 2]) = ([], 0) := by decide +kernel
  refine CallS.mono (SPop_call E L gv shG hg shG_light p n c (prs [0, 2]) hs (by omega) hc) ?_
  rintro r E' L' _ ⟨⟨a, n', c', h1, h2, _, h4⟩, h5⟩
  rw [hp] at h1 h2
  have h0 : n' = 0 := h2.nSp
  subst h0
  exact ⟨a, c', h1, h2, h5⟩
theorem kpop3 (gv : Value) (hg : GrE E gv shG) (p : Option Addr) (n c : Nat) (hs : SlE E 2 p n (spC (prs [0, 1]))) (hc : n ≤ c) : CallS Tryz.prog 15 #[gv, .slice p n c] E L (fun r E' L' => ∃ a n' c', r = .tuple #[.slice a n' c', .int .i64 10] ∧ SlE E' 2 a n' (spC []) ∧ n' ≤ 1000 ∧ L' = L) := by
  have hn := hs.nSp
  have hl : (prs [0, 1]).length = 1 := rfl
  have hp : popM shG (prs [0, 1]) = ([], 10) := by decide +kernel
  refine CallS.mono (SPop_call E L gv shG hg shG_light p n c (prs [0, 1]) hs (by omega) hc) ?_
  rintro r E' L' _ ⟨⟨a, n', c', h1, h2, _, h4⟩, h5⟩
  rw [hp] at h1 h2
  exact ⟨a, n', c', h1, h2, h4, h5⟩
theorem krest (gv : Value) (hg : GrE E gv shG) (p : Option Addr) (n c : Nat) (hs : SlE E 2 p n (spC (prs [0, 2, 2, 1]))) (hc : n ≤ c) : CallS Tryz.prog 16 #[gv, .slice p n c] E L (fun r E' L' => ∃ a n' c', r = .tuple #[.slice a n' c', .int .i64 0] ∧ SlE E' 1 a n' (i64s [16]) ∧ n' ≤ 1000 ∧ L' = L) := by
  have hn := hs.nSp
  have hl : (prs [0, 2, 2, 1]).length = 2 := rfl
  have hp : restM shG (prs [0, 2, 2, 1]) = ([16], 0) := by decide +kernel
  refine CallS.mono (SRest_call E L gv shG hg shG_light p n c (prs [0, 2, 2, 1]) hs (by omega)) ?_
  rintro r E' L' _ ⟨⟨a, n', c', h1, h2, _, h4⟩, h5⟩
  rw [hp] at h1 h2
  exact ⟨a, n', c', h1, h2, h4, h5⟩
theorem kpath (gv : Value) (hg : GrE E gv shG) (p : Option Addr) (n c : Nat) (hs : SlE E 2 p n (spC (prs [0, 2, 2, 1]))) (hc : n ≤ c) : CallS Tryz.prog 17 #[gv, .slice p n c] E L (fun r E' L' => ∃ a n' c', r = .tuple #[.slice a n' c', .int .i64 0] ∧ SlE E' 1 a n' (i64s [16, 17]) ∧ n' ≤ 1000 ∧ L' = L) := by
  have hn := hs.nSp
  have hl : (prs [0, 2, 2, 1]).length = 2 := rfl
  have hp : pathM shG (prs [0, 2, 2, 1]) = ([16, 17], 0) := by decide +kernel
  refine CallS.mono (SPath_call E L gv shG hg shG_light p n c (prs [0, 2, 2, 1]) hs (by omega)) ?_
  rintro r E' L' _ ⟨⟨a, n', c', h1, h2, _, h4⟩, h5⟩
  rw [hp] at h1 h2
  exact ⟨a, n', c', h1, h2, h4, h5⟩
theorem kparse1 (hT : LaidS E) : CallS Tryz.prog 8 #[.string (S [48, 58, 48, 50])] E L (fun r E' L' => ∃ a n' c', r = .tuple #[.slice a n' c', .int .i64 3] ∧ n' ≤ 1000 ∧ L' = L) := by
  have hp : parseM [48, 58, 48, 50] = ([], 3) := by decide +kernel
  refine CallS.mono (SParse_call E L [48, 58, 48, 50] (by decide) hT) ?_
  rintro r E' L' _ ⟨⟨a, n', c', h1, h2, _, h4⟩, h5⟩
  rw [hp] at h1
  exact ⟨a, n', c', h1, h4, h5⟩
theorem kparse2 (hT : LaidS E) : CallS Tryz.prog 8 #[.string (S [])] E L (fun r E' L' => ∃ a n' c', r = .tuple #[.slice a n' c', .int .i64 3] ∧ n' ≤ 1000 ∧ L' = L) := by
  have hp : parseM [] = ([], 3) := by decide +kernel
  refine CallS.mono (SParse_call E L [] (by decide) hT) ?_
  rintro r E' L' _ ⟨⟨a, n', c', h1, h2, _, h4⟩, h5⟩
  rw [hp] at h1
  exact ⟨a, n', c', h1, h4, h5⟩
theorem of_call' (p : Option Addr) (n c : Nat) (xs : List Int) (hx : SlE E 1 p n (i64s xs)) (hn : n ≤ 1000) :
    CallS Tryz.prog 13 #[.slice p n c] E L (fun r E' L' => ∃ a k c', r = .slice a k c' ∧ SlE E' 2 a k (spC (prs xs)) ∧ k ≤ c' ∧ k ≤ 1000 ∧ L' = L) := by
  refine CallS.mono (of_call E L p n c xs hx hn) ?_
  rintro r E' L' _ ⟨a, k, c', h1, h2, h3, h4⟩
  refine ⟨a, k, c', h1, h2, h3, ?_, h4⟩
  have := h2.nSp
  have := prs_len xs
  have := hx.nI
  omega
theorem kawaits : CallS Tryz.prog 18 #[.int .i64 0, .int .i64 0, .slice none 0 0] E L (fun r E' L' => r = .bool true ∧ L' = L) :=
  awaits25_call E L 0 0 none 0 0 [] SlE.nil (by omega) (by decide +kernel)
end
end Go.Proofs.YtaibabmladgldaaGreatDoor
