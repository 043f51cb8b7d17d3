/-
  Rules and contracts, packed: J2, Sep25, Sep27, Sep28, L1, L2, L3, L4, J3, J4, J5.
-/
import Derived.Lib.Builder
import Derived.Lib.AppendStr
import Derived.Lib.UnsafeStr
import Derived.Lib.Bytealg
import Derived.Laws.Externs
import Derived.Lib.ConvBytes
import Derived.Laws.Runes
import Derived.Test.YtpkingbclcalkaaDoorQ3
set_option maxHeartbeats 1000000
set_option linter.unusedSimpArgs false
set_option linter.unusedVariables false
set_option maxHeartbeats 2000000
set_option maxRecDepth 20000
namespace Go.Proofs.YtpkingbclcalkaaDoor
open Go.RowKit
abbrev wFeed : List UInt8 := [102, 101, 101, 100]
abbrev wFinish : List UInt8 := [102, 105, 110, 105, 115, 104]
abbrev wDrain : List UInt8 := [100, 114, 97, 105, 110]
abbrev wSave : List UInt8 := [115, 97, 118, 101]
abbrev wRestore : List UInt8 := [114, 101, 115, 116, 111, 114, 101]
abbrev names6 : List (List UInt8) := [[], wFeed, wFinish, wDrain, wSave, wRestore]
def nameM (k : Int) : List UInt8 := names6.getD k.toNat []
/-- The kind of a name, and the error. -/
def kindM (s : List UInt8) : Int × Int := if s = wFeed then (1, 0) else if s = wFinish then (2, 0) else if s = wDrain then (3, 0) else if s = wSave then (4, 0) else if s = wRestore then (5, 0) else (0, 11)
theorem kindM_at {s : List UInt8} {i : Nat} (h0 : 0 < i) (h6 : i < 6) (h : names6[i] = s) : kindM s = ((i : Int), 0) := by
  subst h
  have : i = 1 ∨ i = 2 ∨ i = 3 ∨ i = 4 ∨ i = 5 := by omega
  rcases this with rfl | rfl | rfl | rfl | rfl <;> rfl
theorem kindM_none {s : List UInt8} (h : ∀ j, 0 < j → (hj : j < 6) → names6[j] ≠ s) : kindM s = (0, 11) := by
  have h1 : s ≠ wFeed := (h 1 (by omega) (by omega)).symm
  have h2 : s ≠ wFinish := (h 2 (by omega) (by omega)).symm
  have h3 : s ≠ wDrain := (h 3 (by omega) (by omega)).symm
  have h4 : s ≠ wSave := (h 4 (by omega) (by omega)).symm
  have h5 : s ≠ wRestore := (h 5 (by omega) (by omega)).symm
  rw [kindM, if_neg h1, if_neg h2, if_neg h3, if_neg h4, if_neg h5]
theorem kindM_err (s : List UInt8) : (kindM s).2 = 0 ∨ (kindM s).2 = 11 := by
  unfold kindM
  repeat' split
  all_goals first | exact .inl rfl | exact .inr rfl
theorem kindM_ok {s : List UInt8} (h : (kindM s).2 = 0) : 1 ≤ (kindM s).1 ∧ (kindM s).1 ≤ 5 ∧ nameM (kindM s).1 = s := by
  unfold kindM at h ⊢
  repeat' split
  all_goals first | exact ⟨by decide, by decide, by rename_i e; rw [e]; rfl⟩ | (simp_all; done)
theorem kindM_name {k : Int} (h1 : 1 ≤ k) (h5 : k ≤ 5) : kindM (nameM k) = (k, 0) := by
  have : k = 1 ∨ k = 2 ∨ k = 3 ∨ k = 4 ∨ k = 5 := by omega
  rcases this with rfl | rfl | rfl | rfl | rfl <;> rfl
section
variable (E : Env) (L : List Res)
theorem names_call : CallV Tryd.prog 42 #[] E L (.agg #[.string (S []), .string (S wFeed), .string (S wFinish), .string (S wDrain), .string (S wSave), .string (S wRestore)]) := by
  refine CallS.toV (CallS.intro (l := []) _ Tryd.func42 rfl Tryd.ntmps42 rfl ?_)
  refine G_seq (G_region ?_)
  (refine G_alloc rfl rfl rfl (.none rfl) ?_; intro b0)
  refine G_end (X_then (G_seq (G_region ?_)))
  refine G_val (V_buildArr rfl rfl (by simp [fillS, setLs, setL, Value.cells]; rfl)) rfl rfl (.none rfl) ?_
  refine G_storeA rfl rfl rfl rfl (by simp [Value.oneCell']) rfl (.none rfl) (.head _ _ _) rfl ?_
  refine G_end (X_then (G_ret ?_))
  refine G_leaveS (.drop _ (.nil _)) (by exact (.cons (.cellA rfl (Cells.own (.head _)) rfl) (.nil))) rfl ?_ ?_
  · exact (.refl _)
  exact ⟨(by kernel_rfl), rfl⟩
theorem namesR_call : CallS Tryd.prog 43 #[] E L (fun r E' L' => ∃ b, r = .slice (some ⟨b, 0, none⟩) 6 6 ∧ SlE E' 1 (some ⟨b, 0, none⟩) 6 (strs names6) ∧ L' = L) := by
  refine CallS.intro (l := []) _ Tryd.func43 rfl Tryd.ntmps43 rfl ?_
  refine G_seq (G_region ?_)
  refine G_val (V_assign rfl rfl) rfl rfl (.none rfl) ?_
  refine G_end (X_then (G_seq (G_region ?_)))
  (refine G_lit rfl rfl (by decide) (by simp [fillS, zeros, setLs, setL, Value.cells, List.range, List.range.loop]; rfl) rfl rfl (.none rfl) ?_; intro b1)
  refine G_val (V_assign rfl rfl) rfl rfl (.none rfl) ?_
  refine G_end (X_then (G_ret ?_))
  refine G.freeze (.head _ _) ?_
  intro E1 hE1 hok
  have hs : SlE E1 1 (some ⟨b1, 0, none⟩) 6 (strs names6) := SlE.lit hok rfl
  refine G_leaveS (.nil _) (by exact (.cons (.tmp rfl) (.nil))) rfl ?_ ?_
  · exact hE1
  exact ⟨_, ⟨rfl, ⟨(by assumption), rfl⟩⟩⟩
theorem Name_call (k : Int) : CallV Tryd.prog 16 #[.int .i64 k] E L (.tuple #[.string (S (if 1 ≤ k ∧ k ≤ 5 then nameM k else [])), .int .i64 (if 1 ≤ k ∧ k ≤ 5 then 0 else 11)]) := by
  refine CallS.toV (CallS.intro (l := [_]) _ Tryd.func16 rfl Tryd.ntmps16 rfl ?_)
  by_cases h : 1 ≤ k ∧ k ≤ 5
  · have hx : [Value.string (S []), .string (S wFeed), .string (S wFinish), .string (S wDrain), .string (S wSave), .string (S wRestore)][k.toNat]? = some (.string (S (nameM k))) := by
      have : k = 1 ∨ k = 2 ∨ k = 3 ∨ k = 4 ∨ k = 5 := by omega
      rcases this with rfl | rfl | rfl | rfl | rfl <;> rfl
    refine G_seq (G_region ?_)
    refine G_val (V_assign rfl rfl) rfl rfl (.none rfl) ?_
    refine G_val (V_assign rfl rfl) rfl rfl (.none rfl) ?_
    refine G_end (X_then (G_seq (G_seq (G_region ?_))))
    refine G_val (V_move rfl rfl) rfl rfl (.none rfl) ?_
    refine G_val (V_leq rfl rfl rfl) rfl rfl (.none rfl) ?_
    refine G_val (V_move rfl rfl) rfl rfl (.none rfl) ?_
    refine G.bool_f 6 rfl (decide_eq_false (by omega)) ?_
    refine G_val (V_move rfl rfl) rfl rfl (.yes rfl rfl rfl rfl) ?_
    refine G_val (V_geq rfl rfl rfl) rfl rfl (.yes rfl rfl rfl rfl) ?_
    refine G_val (V_pick_f rfl rfl rfl) rfl rfl (.none rfl) ?_
    refine G_end (X_then ?_)
    refine G_cond_f rfl (decide_eq_false (by omega)) ?_
    refine G_skip (X_then (G_seq (G_region ?_)))
    refine G_callv (k := 42) (.mk rfl rfl rfl rfl) rfl rfl (.none rfl) (names_call _ _) ?_
    refine G_val (V_move rfl rfl) rfl rfl (.none rfl) ?_
    refine G_val (V_idxArr rfl rfl rfl (by omega) (by omega) (by assumption)) rfl rfl (.none rfl) ?_
    refine G_val (V_assign rfl rfl) rfl rfl (.none rfl) ?_
    refine G_val (V_assign rfl rfl) rfl rfl (.none rfl) ?_
    refine G_end (X_then (G_ret ?_))
    refine G_leaveS (.nil _) (by exact (.cons (.tmp rfl) (.cons (.tmp rfl) (.nil)))) rfl ?_ ?_
    · exact (.refl _)
    exact ⟨(by (simp (discharger := omega) only [resVal, if_pos, if_neg]; first | done | rfl)), (by rfl)⟩
  · refine G_seq ?_
    refine G_region ?_
    refine G_val (V_assign rfl rfl) rfl rfl (.none rfl) ?_
    refine G_val (V_assign rfl rfl) rfl rfl (.none rfl) ?_
    refine G_end (X_then (G_seq (G_seq (G_region ?_))))
    refine G_val (V_move rfl rfl) rfl rfl (.none rfl) ?_
    refine G_val (V_leq rfl rfl rfl) rfl rfl (.none rfl) ?_
    refine G_val (V_move rfl rfl) rfl rfl (.none rfl) ?_
    apply G_joinOr 3 6 9 rfl
    · intro H1
      dsimp only [List.take]
      simp only [Bool.and_eq_true, Bool.or_eq_true, Bool.not_eq_true', Bool.not_eq_false', Bool.and_eq_false_iff, Bool.or_eq_false_iff, Bool.not_not, decide_eq_true_eq, decide_eq_false_iff_not, ne_eq, Decidable.not_not, Bool.decide_eq_true] at H1
      refine G_stay (.no rfl rfl rfl rfl) rfl rfl ?_
      refine G_stay (.no rfl rfl rfl rfl) rfl rfl ?_
      refine G_val (V_pick_t rfl rfl rfl) rfl rfl (.none rfl) ?_
      refine G_end ?_
      exact JQ_end 3 rfl rfl (by kernel_rfl)
    · intro H2
      dsimp only [List.take]
      simp only [Bool.and_eq_true, Bool.or_eq_true, Bool.not_eq_true', Bool.not_eq_false', Bool.and_eq_false_iff, Bool.or_eq_false_iff, Bool.not_not, decide_eq_true_eq, decide_eq_false_iff_not, ne_eq, Decidable.not_not, Bool.decide_eq_true] at H2
      refine G_val (V_move rfl rfl) rfl rfl (.yes rfl rfl rfl rfl) ?_
      refine G_val (V_geq rfl rfl rfl) rfl rfl (.yes rfl rfl rfl rfl) ?_
      refine G_val (V_pick_f rfl rfl rfl) rfl rfl (.none rfl) ?_
      refine G_end ?_
      exact JQ_end 3 rfl rfl (by kernel_rfl)
    dsimp only [List.drop]
    refine G_end (X_then ?_)
    refine G_cond rfl (fun H3 => ?_) (fun H3 => ?_)
    · simp only [Bool.and_eq_true, Bool.or_eq_true, Bool.not_eq_true', Bool.not_eq_false', Bool.and_eq_false_iff, Bool.or_eq_false_iff, Bool.not_not, decide_eq_true_eq, decide_eq_false_iff_not, ne_eq, Decidable.not_not, Bool.decide_eq_true] at H3
      refine G_seq (G_region ?_)
      refine G_val (V_assign rfl rfl) rfl rfl (.none rfl) ?_
      refine G_val (V_assign rfl rfl) rfl rfl (.none rfl) ?_
      refine G_end (X_then (G_ret (X_then_ret ?_)))
      refine G_leaveS (.nil _) (by exact (.cons (.tmp rfl) (.cons (.tmp rfl) (.nil)))) rfl ?_ ?_
      · exact (.refl _)
      exact ⟨(by (simp (discharger := omega) only [resVal, if_pos, if_neg]; first | done | rfl)), (by rfl)⟩
    simp only [Bool.and_eq_true, Bool.or_eq_true, Bool.not_eq_true', Bool.not_eq_false', Bool.and_eq_false_iff, Bool.or_eq_false_iff, Bool.not_not, decide_eq_true_eq, decide_eq_false_iff_not, ne_eq, Decidable.not_not, Bool.decide_eq_true] at H3
    (exfalso; omega)
theorem NameR_call (k : Int) : CallV Tryd.prog 17 #[.int .i64 k] E L (.tuple #[.string (S (if 1 ≤ k ∧ k ≤ 5 then nameM k else [])), .int .i64 (if 1 ≤ k ∧ k ≤ 5 then 0 else 11)]) := by
  refine CallS.toV (CallS.intro (l := [_]) _ Tryd.func17 rfl Tryd.ntmps17 rfl ?_)
  by_cases h : 1 ≤ k ∧ k ≤ 5
  · have hx : (strs names6)[k.toNat]? = some (.string (S (nameM k))) := by
      have : k = 1 ∨ k = 2 ∨ k = 3 ∨ k = 4 ∨ k = 5 := by omega
      rcases this with rfl | rfl | rfl | rfl | rfl <;> rfl
    refine G_seq (G_region ?_)
    refine G_val (V_assign rfl rfl) rfl rfl (.none rfl) ?_
    refine G_val (V_assign rfl rfl) rfl rfl (.none rfl) ?_
    refine G_end (X_then (G_seq (G_seq (G_region ?_))))
    refine G_val (V_move rfl rfl) rfl rfl (.none rfl) ?_
    refine G_val (V_lss rfl rfl rfl) rfl rfl (.none rfl) ?_
    refine G_val (V_move rfl rfl) rfl rfl (.none rfl) ?_
    refine G.bool_f 6 rfl (decide_eq_false (by omega)) ?_
    refine G_val (V_move rfl rfl) rfl rfl (.yes rfl rfl rfl rfl) ?_
    refine G_val (V_gtr rfl rfl rfl) rfl rfl (.yes rfl rfl rfl rfl) ?_
    refine G_val (V_pick_f rfl rfl rfl) rfl rfl (.none rfl) ?_
    refine G_end (X_then ?_)
    refine G_cond_f rfl (decide_eq_false (by omega)) ?_
    refine G_skip (X_then (G_seq (G_region ?_)))
    refine G_call (k := 43) (.mk rfl rfl rfl rfl) rfl rfl (.none rfl) (namesR_call _ _) ?_
    rintro r1 E2 L3 hE4 ⟨z5, ⟨rfl, ⟨Z6, rfl⟩⟩⟩
    refine G_val (V_move rfl rfl) rfl rfl (.none rfl) ?_
    refine G_val (V_idxAddr rfl rfl rfl (SlE.rd (by assumption)) (by omega) (by omega)) rfl rfl (.none rfl) ?_
    refine G_val (V_loadS rfl rfl (SlE.rd (by assumption)) (by assumption) (by simp)) rfl rfl (.none rfl) ?_
    refine G_val (V_assign rfl rfl) rfl rfl (.none rfl) ?_
    refine G_val (V_assign rfl rfl) rfl rfl (.none rfl) ?_
    refine G_end (X_then (G_ret ?_))
    refine G_leaveS (.nil _) (by exact (.cons (.tmp rfl) (.cons (.tmp rfl) (.nil)))) rfl ?_ ?_
    · exact hE4
    exact ⟨(by (simp (discharger := omega) only [resVal, if_pos, if_neg]; first | done | rfl)), (by rfl)⟩
  · refine G_seq ?_
    refine G_region ?_
    refine G_val (V_assign rfl rfl) rfl rfl (.none rfl) ?_
    refine G_val (V_assign rfl rfl) rfl rfl (.none rfl) ?_
    refine G_end (X_then (G_seq (G_seq (G_region ?_))))
    refine G_val (V_move rfl rfl) rfl rfl (.none rfl) ?_
    refine G_val (V_lss rfl rfl rfl) rfl rfl (.none rfl) ?_
    refine G_val (V_move rfl rfl) rfl rfl (.none rfl) ?_
    apply G_joinOr 3 6 9 rfl
    · intro H1
      dsimp only [List.take]
      simp only [Bool.and_eq_true, Bool.or_eq_true, Bool.not_eq_true', Bool.not_eq_false', Bool.and_eq_false_iff, Bool.or_eq_false_iff, Bool.not_not, decide_eq_true_eq, decide_eq_false_iff_not, ne_eq, Decidable.not_not, Bool.decide_eq_true] at H1
      refine G_stay (.no rfl rfl rfl rfl) rfl rfl ?_
      refine G_stay (.no rfl rfl rfl rfl) rfl rfl ?_
      refine G_val (V_pick_t rfl rfl rfl) rfl rfl (.none rfl) ?_
      refine G_end ?_
      exact JQ_end 3 rfl rfl (by kernel_rfl)
    · intro H2
      dsimp only [List.take]
      simp only [Bool.and_eq_true, Bool.or_eq_true, Bool.not_eq_true', Bool.not_eq_false', Bool.and_eq_false_iff, Bool.or_eq_false_iff, Bool.not_not, decide_eq_true_eq, decide_eq_false_iff_not, ne_eq, Decidable.not_not, Bool.decide_eq_true] at H2
      refine G_val (V_move rfl rfl) rfl rfl (.yes rfl rfl rfl rfl) ?_
      refine G_val (V_gtr rfl rfl rfl) rfl rfl (.yes rfl rfl rfl rfl) ?_
      refine G_val (V_pick_f rfl rfl rfl) rfl rfl (.none rfl) ?_
      refine G_end ?_
      exact JQ_end 3 rfl rfl (by kernel_rfl)
    dsimp only [List.drop]
    refine G_end (X_then ?_)
    refine G_cond rfl (fun H3 => ?_) (fun H3 => ?_)
    · simp only [Bool.and_eq_true, Bool.or_eq_true, Bool.not_eq_true', Bool.not_eq_false', Bool.and_eq_false_iff, Bool.or_eq_false_iff, Bool.not_not, decide_eq_true_eq, decide_eq_false_iff_not, ne_eq, Decidable.not_not, Bool.decide_eq_true] at H3
      refine G_seq (G_region ?_)
      refine G_val (V_assign rfl rfl) rfl rfl (.none rfl) ?_
      refine G_val (V_assign rfl rfl) rfl rfl (.none rfl) ?_
      refine G_end (X_then (G_ret (X_then_ret ?_)))
      refine G_leaveS (.nil _) (by exact (.cons (.tmp rfl) (.cons (.tmp rfl) (.nil)))) rfl ?_ ?_
      · exact (.refl _)
      exact ⟨(by (simp (discharger := omega) only [resVal, if_pos, if_neg]; first | done | rfl)), (by rfl)⟩
    simp only [Bool.and_eq_true, Bool.or_eq_true, Bool.not_eq_true', Bool.not_eq_false', Bool.and_eq_false_iff, Bool.or_eq_false_iff, Bool.not_not, decide_eq_true_eq, decide_eq_false_iff_not, ne_eq, Decidable.not_not, Bool.decide_eq_true] at H3
    (exfalso; omega)
theorem Kind_call (s : List UInt8) : CallV Tryd.prog 18 #[.string (S s)] E L (.tuple #[.int .i64 (kindM s).1, .int .i64 (kindM s).2]) := by
  refine CallS.toV (CallS.intro (l := [_]) _ Tryd.func18 rfl Tryd.ntmps18 rfl ?_)
  refine G_seq (G_region ?_)
  refine G_val (V_assign rfl rfl) rfl rfl (.none rfl) ?_
  refine G_val (V_assign rfl rfl) rfl rfl (.none rfl) ?_
  refine G_end (X_then (G_seq (G_seq (G_region ?_))))
  refine G_callv (k := 42) (.mk rfl rfl rfl rfl) rfl rfl (.none rfl) (names_call _ _) ?_
  refine G_val (V_move rfl rfl) rfl rfl (.none rfl) ?_
  refine G_end (X_then (G_block ?_))
  refine G_loop (α := Nat) (fun i => [(0, .string (S s)), (6, .agg #[.string (S []), .string (S wFeed), .string (S wFinish), .string (S wDrain), .string (S wSave), .string (S wRestore)]), (7, .int .i64 i)]) (fun _ => E) (fun _ => L)
    (fun i => i ≤ 6 ∧ ∀ j, 0 < j → j < i → (hj : j < 6) → names6[j] ≠ s) (fun i => 6 - i) 0 ⟨Nat.zero_le _, fun j _ h => by omega⟩ ⟨rfl, rfl, rfl, trivial⟩ rfl rfl ?_
  rintro i ⟨hi, hno⟩
  by_cases hlt : i < 6
  · have hx : [Value.string (S []), .string (S wFeed), .string (S wFinish), .string (S wDrain), .string (S wSave), .string (S wRestore)][(i : Int).toNat]? = some (.string (S names6[i])) := by
      have : i = 0 ∨ i = 1 ∨ i = 2 ∨ i = 3 ∨ i = 4 ∨ i = 5 := by omega
      rcases this with rfl | rfl | rfl | rfl | rfl | rfl <;> rfl
    by_cases h0 : 0 < i
    · by_cases he : names6[i] = s
      · have hk := kindM_at h0 hlt he
        rw [hk]
        refine G_seq (G_region ?_)
        refine G_val (V_lss rfl rfl rfl) rfl rfl (.none rfl) ?_
        refine G_end (X_then (G_seq ?_))
        refine G_cond_t rfl (decide_eq_true (by omega)) ?_
        refine G_skip (X_then (G_seq (G_block (G_seq (G_region ?_)))))
        refine G_val (V_move rfl rfl) rfl rfl (.none rfl) ?_
        refine G_val (V_idxArr rfl rfl rfl (by omega) (by omega) (by assumption)) rfl rfl (.none rfl) ?_
        refine G_val (V_assign rfl rfl) rfl rfl (.none rfl) ?_
        refine G_val (V_assign rfl rfl) rfl rfl (.none rfl) ?_
        refine G_end (X_then (G_seq (G_region ?_)))
        refine G_val (V_move rfl rfl) rfl rfl (.none rfl) ?_
        refine G_val (V_gtr rfl rfl rfl) rfl rfl (.none rfl) ?_
        refine G_val (V_move rfl rfl) rfl rfl (.none rfl) ?_
        refine G.bool_t 13 rfl (decide_eq_true (by omega)) ?_
        refine G_val (V_move rfl rfl) rfl rfl (.yes rfl rfl rfl rfl) ?_
        refine G_val (V_move rfl rfl) rfl rfl (.yes rfl rfl rfl rfl) ?_
        refine G_val (V_seql rfl rfl rfl) rfl rfl (.yes rfl rfl rfl rfl) ?_
        refine G_val (V_pick_t rfl rfl rfl) rfl rfl (.none rfl) ?_
        refine G_end (X_then ?_)
        refine G_cond_t rfl (decide_eq_true (by omega)) ?_
        refine G_seq (G_region ?_)
        refine G_val (V_move rfl rfl) rfl rfl (.none rfl) ?_
        refine G_val (V_assign rfl rfl) rfl rfl (.none rfl) ?_
        refine G_val (V_assign rfl rfl) rfl rfl (.none rfl) ?_
        refine G_end (X_then (G_ret (X_block_ret (X_then_ret (X_then_ret (X_block_ret (X_then_ret ?_)))))))
        refine G_leaveS (.nil _) (by exact (.cons (.tmp rfl) (.cons (.tmp rfl) (.nil)))) rfl ?_ ?_
        · exact (.refl _)
        exact ⟨rfl, rfl⟩
      · refine G_seq ?_
        refine G_region ?_
        refine G_val (V_lss rfl rfl rfl) rfl rfl (.none rfl) ?_
        refine G_end (X_then (G_seq ?_))
        refine G_cond_t rfl (decide_eq_true (by omega)) ?_
        refine G_skip (X_then (G_seq (G_block (G_seq (G_region ?_)))))
        refine G_val (V_move rfl rfl) rfl rfl (.none rfl) ?_
        refine G_val (V_idxArr rfl rfl rfl (by omega) (by omega) (by assumption)) rfl rfl (.none rfl) ?_
        refine G_val (V_assign rfl rfl) rfl rfl (.none rfl) ?_
        refine G_val (V_assign rfl rfl) rfl rfl (.none rfl) ?_
        refine G_end (X_then (G_seq (G_region ?_)))
        refine G_val (V_move rfl rfl) rfl rfl (.none rfl) ?_
        refine G_val (V_gtr rfl rfl rfl) rfl rfl (.none rfl) ?_
        refine G_val (V_move rfl rfl) rfl rfl (.none rfl) ?_
        refine G.bool_t 13 rfl (decide_eq_true (by omega)) ?_
        refine G_val (V_move rfl rfl) rfl rfl (.yes rfl rfl rfl rfl) ?_
        refine G_val (V_move rfl rfl) rfl rfl (.yes rfl rfl rfl rfl) ?_
        refine G_val (V_seql rfl rfl rfl) rfl rfl (.yes rfl rfl rfl rfl) ?_
        refine G_val (V_pick_t rfl rfl rfl) rfl rfl (.none rfl) ?_
        refine G_end (X_then ?_)
        refine G_cond_f rfl (decide_eq_false (by omega)) ?_
        refine G_skip (X_block (X_then (G_region ?_)))
        refine G_val (V_add_i64 rfl rfl rfl (by omega) (by omega)) rfl rfl (.none rfl) ?_
        refine G_val (V_move rfl rfl) rfl rfl (.none rfl) ?_
        refine G_end (X_then ?_)
        exact G_again (i + 1) ⟨hlt, fun j h1 h2 h3 => by
          by_cases e : j = i
          · subst e; exact he
          · exact hno j h1 (by omega) h3⟩ (by omega) ⟨rfl, rfl, rfl, trivial⟩ rfl rfl
    · refine G_seq ?_
      refine G_region ?_
      refine G_val (V_lss rfl rfl rfl) rfl rfl (.none rfl) ?_
      refine G_end (X_then (G_seq ?_))
      refine G_cond_t rfl (decide_eq_true (by omega)) ?_
      refine G_skip (X_then (G_seq (G_block (G_seq (G_region ?_)))))
      refine G_val (V_move rfl rfl) rfl rfl (.none rfl) ?_
      refine G_val (V_idxArr rfl rfl rfl (by omega) (by omega) (by assumption)) rfl rfl (.none rfl) ?_
      refine G_val (V_assign rfl rfl) rfl rfl (.none rfl) ?_
      refine G_val (V_assign rfl rfl) rfl rfl (.none rfl) ?_
      refine G_end (X_then (G_seq (G_region ?_)))
      refine G_val (V_move rfl rfl) rfl rfl (.none rfl) ?_
      refine G_val (V_gtr rfl rfl rfl) rfl rfl (.none rfl) ?_
      refine G_val (V_move rfl rfl) rfl rfl (.none rfl) ?_
      refine G.bool_f 13 rfl (decide_eq_false (by omega)) ?_
      refine G_stay (.no rfl rfl rfl rfl) rfl rfl ?_
      refine G_stay (.no rfl rfl rfl rfl) rfl rfl ?_
      refine G_stay (.no rfl rfl rfl rfl) rfl rfl ?_
      refine G_val (V_pick_f rfl rfl rfl) rfl rfl (.none rfl) ?_
      refine G_end (X_then ?_)
      refine G_cond_f rfl rfl ?_
      refine G_skip (X_block (X_then (G_region ?_)))
      refine G_val (V_add_i64 rfl rfl rfl (by omega) (by omega)) rfl rfl (.none rfl) ?_
      refine G_val (V_move rfl rfl) rfl rfl (.none rfl) ?_
      refine G_end (X_then ?_)
      exact G_again (i + 1) ⟨hlt, fun j h1 h2 h3 => by omega⟩ (by omega) ⟨rfl, rfl, rfl, trivial⟩ rfl rfl
  · have hk := kindM_none (s := s) fun j h1 h2 => hno j h1 (by omega) h2
    rw [hk]
    refine G_seq (G_region ?_)
    refine G_val (V_lss rfl rfl rfl) rfl rfl (.none rfl) ?_
    refine G_end (X_then (G_seq ?_))
    refine G_cond_f rfl (decide_eq_false (by omega)) ?_
    refine G_exit (X_then_exit (X_then_exit (X_block_hit (X_then (G_seq (G_region ?_))))))
    refine G_val (V_assign rfl rfl) rfl rfl (.none rfl) ?_
    refine G_val (V_assign rfl rfl) rfl rfl (.none rfl) ?_
    refine G_end (X_then (G_ret ?_))
    refine G_leaveS (.nil _) (by exact (.cons (.tmp rfl) (.cons (.tmp rfl) (.nil)))) rfl ?_ ?_
    · exact (.refl _)
    exact ⟨(by kernel_rfl), rfl⟩
theorem KindR_call (s : List UInt8) : CallV Tryd.prog 19 #[.string (S s)] E L (.tuple #[.int .i64 (kindM s).1, .int .i64 (kindM s).2]) := by
  refine CallS.toV (CallS.intro (l := [_]) _ Tryd.func19 rfl Tryd.ntmps19 rfl ?_)
  refine G_seq (G_region ?_)
  refine G_val (V_assign rfl rfl) rfl rfl (.none rfl) ?_
  refine G_val (V_assign rfl rfl) rfl rfl (.none rfl) ?_
  refine G_end (X_then (G_seq (G_region ?_)))
  refine G_call (k := 43) (.mk rfl rfl rfl rfl) rfl rfl (.none rfl) (namesR_call _ _) ?_
  rintro r1 E2 L3 hE4 ⟨z5, ⟨rfl, ⟨Z6, rfl⟩⟩⟩
  refine G_val (V_assign rfl rfl) rfl rfl (.none rfl) ?_
  refine G_end (X_then (G_seq (G_seq (G_region ?_))))
  refine G_val (V_assign rfl rfl) rfl rfl (.none rfl) ?_
  refine G_end (X_then (G_block ?_))
  refine G_loop (α := Nat) (fun i => [(0, .string (S s)), (4, .slice (some ⟨z5, 0, none⟩) 6 6), (5, .int .i64 i)]) (fun _ => E2) (fun _ => L3)
    (fun i => 1 ≤ i ∧ i ≤ 6 ∧ ∀ j, 0 < j → j < i → (hj : j < 6) → names6[j] ≠ s) (fun i => 6 - i) 1 ⟨Nat.le_refl _, by omega, fun j _ h => by omega⟩ ⟨rfl, rfl, rfl, trivial⟩ rfl rfl ?_
  rintro i ⟨hi0, hi, hno⟩
  by_cases hlt : i < 6
  · have hx : (strs names6)[(i : Int).toNat]? = some (.string (S names6[i])) := strs_get (List.getElem?_eq_getElem hlt)
    by_cases he : names6[i] = s
    · have hk := kindM_at (by omega) hlt he
      rw [hk]
      refine G_seq (G_seq (G_region ?_))
      refine G_val (V_move rfl rfl) rfl rfl (.none rfl) ?_
      refine G_val (V_leq rfl rfl rfl) rfl rfl (.none rfl) ?_
      refine G_end (X_then ?_)
      refine G_cond_t rfl (decide_eq_true (by omega)) ?_
      refine G_skip (X_then (G_seq (G_block (G_seq (G_region ?_)))))
      refine G_val (V_move rfl rfl) rfl rfl (.none rfl) ?_
      refine G_val (V_move rfl rfl) rfl rfl (.none rfl) ?_
      refine G_val (V_idxAddr rfl rfl rfl (SlE.rd (by assumption)) (by omega) (by omega)) rfl rfl (.none rfl) ?_
      refine G_val (V_loadS rfl rfl (SlE.rd (by assumption)) (by assumption) (by simp)) rfl rfl (.none rfl) ?_
      refine G_val (V_move rfl rfl) rfl rfl (.none rfl) ?_
      refine G_val (V_seql rfl rfl rfl) rfl rfl (.none rfl) ?_
      refine G_end (X_then ?_)
      refine G_cond_t rfl (decide_eq_true (by omega)) ?_
      refine G_seq (G_region ?_)
      refine G_val (V_move rfl rfl) rfl rfl (.none rfl) ?_
      refine G_val (V_assign rfl rfl) rfl rfl (.none rfl) ?_
      refine G_val (V_assign rfl rfl) rfl rfl (.none rfl) ?_
      refine G_end (X_then (G_ret (X_block_ret (X_then_ret (X_then_ret (X_block_ret (X_then_ret ?_)))))))
      refine G_leaveS (.nil _) (by exact (.cons (.tmp rfl) (.cons (.tmp rfl) (.nil)))) rfl ?_ ?_
      · exact hE4
      exact ⟨rfl, rfl⟩
    · refine G_seq ?_
      refine G_seq (G_region ?_)
      refine G_val (V_move rfl rfl) rfl rfl (.none rfl) ?_
      refine G_val (V_leq rfl rfl rfl) rfl rfl (.none rfl) ?_
      refine G_end (X_then ?_)
      refine G_cond_t rfl (decide_eq_true (by omega)) ?_
      refine G_skip (X_then (G_seq (G_block (G_seq (G_region ?_)))))
      refine G_val (V_move rfl rfl) rfl rfl (.none rfl) ?_
      refine G_val (V_move rfl rfl) rfl rfl (.none rfl) ?_
      refine G_val (V_idxAddr rfl rfl rfl (SlE.rd (by assumption)) (by omega) (by omega)) rfl rfl (.none rfl) ?_
      refine G_val (V_loadS rfl rfl (SlE.rd (by assumption)) (by assumption) (by simp)) rfl rfl (.none rfl) ?_
      refine G_val (V_move rfl rfl) rfl rfl (.none rfl) ?_
      refine G_val (V_seql rfl rfl rfl) rfl rfl (.none rfl) ?_
      refine G_end (X_then ?_)
      refine G_cond_f rfl (decide_eq_false (by omega)) ?_
      refine G_skip (X_block (X_then (G_region ?_)))
      refine G_val (V_move rfl rfl) rfl rfl (.none rfl) ?_
      refine G_val (V_add_i64 rfl rfl rfl (by omega) (by omega)) rfl rfl (.none rfl) ?_
      refine G_val (V_assign rfl rfl) rfl rfl (.none rfl) ?_
      refine G_end (X_then ?_)
      exact G_again (i + 1) ⟨by omega, hlt, fun j h1 h2 h3 => by
        by_cases e : j = i
        · subst e; exact he
        · exact hno j h1 (by omega) h3⟩ (by omega) ⟨rfl, rfl, rfl, trivial⟩ rfl rfl
  · have hk := kindM_none (s := s) fun j h1 h2 => hno j h1 (by omega) h2
    rw [hk]
    refine G_seq (G_seq (G_region ?_))
    refine G_val (V_move rfl rfl) rfl rfl (.none rfl) ?_
    refine G_val (V_leq rfl rfl rfl) rfl rfl (.none rfl) ?_
    refine G_end (X_then ?_)
    refine G_cond_f rfl (decide_eq_false (by omega)) ?_
    refine G_exit (X_then_exit (X_then_exit (X_block_hit (X_then (G_seq (G_region ?_))))))
    refine G_val (V_assign rfl rfl) rfl rfl (.none rfl) ?_
    refine G_val (V_assign rfl rfl) rfl rfl (.none rfl) ?_
    refine G_end (X_then (G_ret ?_))
    refine G_leaveS (.nil _) (by exact (.cons (.tmp rfl) (.cons (.tmp rfl) (.nil)))) rfl ?_ ?_
    · exact hE4
    exact ⟨(by kernel_rfl), rfl⟩
end
end Go.Proofs.YtpkingbclcalkaaDoor
namespace Go.Proofs.YtpkingbclcalkaaDoor
open Go.RowKit
section
variable {n : Nat} {ds : List Deferred} {fs : List (Nat × Value)} {E : Env} {L : List Res} {X : Act → World → Prop}
end
section
variable {P : Program} {ro : Option Nat} {n : Nat} {ds : List Deferred} {fs : List (Nat × Value)} {E : Env} {L L' : List Res} {ops : Array Oper} {o : Oper}
variable {T : Act → Fam → Prop} {π : List (Nat × Nat)} {i : Nat} {js : List (Env × List Res)}
end
section
variable {P : Program} {ro : Option Nat} {n : Nat} {ds : List Deferred} {fs : List (Nat × Value)} {E : Env} {L : List Res} {ops : Array Oper} {T : Act → Fam → Prop} {π : List (Nat × Nat)} {i : Nat} {o : Oper} {J : World → Prop}
end
end Go.Proofs.YtpkingbclcalkaaDoor
namespace Go.Proofs.YtpkingbclcalkaaDoor
open Go.RowKit

/-- Two pieces as one. -/
def Res.both (r1 r2 : Res) : Res := ⟨r1.ids ++ r2.ids, fun h => r1.ok h ∧ r2.ok h, fun h h' e ⟨k1, k2⟩ =>
  ⟨r1.loc h h' (fun b hb => e b (List.mem_append.2 (.inl hb))) k1, r2.loc h h' (fun b hb => e b (List.mem_append.2 (.inr hb))) k2⟩⟩
theorem St.both {E : Env} {L : List Res} {r1 r2 : Res} {w : World} : St E (.both r1 r2 :: L) w ↔ St E (r1 :: r2 :: L) w := by
  constructor <;> intro h <;> refine ⟨h.env, fun r hr => ?_, ?_, fun b hb => ?_, h.os, h.out, h.tape⟩
  · rcases List.mem_cons.1 hr with rfl | hr
    · exact (h.own (.both r r2) (.head _)).1
    · rcases List.mem_cons.1 hr with rfl | hr
      · exact (h.own (.both r1 r) (.head _)).2
      · exact h.own r (.tail _ hr)
  · have := h.nodup
    simpa [Res.both] using this
  · refine h.apart b ?_
    simpa [Res.both] using hb
  · rcases List.mem_cons.1 hr with rfl | hr
    · exact ⟨h.own r1 (.head _), h.own r2 (.tail _ (.head _))⟩
    · exact h.own r (.tail _ (.tail _ hr))
  · have := h.nodup
    simpa [Res.both] using this
  · refine h.apart b ?_
    simpa [Res.both] using hb

section rules
variable {P : Program} {ro : Option Nat} {n : Nat} {ds : List Deferred} {fs : List (Nat × Value)} {E : Env} {L : List Res} {ops : Array Oper} {Q : Exit → Act → World → Prop} {rest : List Oper} {o : Oper}
theorem G.both {X : Act → World → Prop} {r1 r2 : Res} (h : G n ds fs E (.both r1 r2 :: L) X) : G n ds fs E (r1 :: r2 :: L) X := fun a w ha hw => h a w ha (St.both.2 hw)
theorem CallS.both {k : FuncId} {args : Array Value} {r1 r2 : Res} {Post : Value → Env → List Res → Prop} (h : CallS P k args E (r1 :: r2 :: L) Post) : CallS P k args E (.both r1 r2 :: L) Post := fun w hw => h w (St.both.1 hw)
theorem CallV.both {k : FuncId} {args : Array Value} {r1 r2 : Res} {v : Value} (h : CallV P k args E (r1 :: r2 :: L) v) : CallV P k args E (.both r1 r2 :: L) v := fun w hw => (h w (St.both.1 hw)).mono fun _ _ ⟨h1, h2⟩ => ⟨h1, St.both.2 h2⟩

/-! ### A string's bytes appended -/
theorem run_append_str {w : World} {t u ty e : TypeId} {z : Value} {bytes : Nat} (ht : P.underlying t = some (.slice e)) (hu : P.underlying u = some .string) (hi : Inf P e z 1 bytes) (hz : z = .int .u8 0)
    {a : Option Addr} {k cap : Nat} {xs : List Value} (hok : slOk e 1 a k cap xs (fun b => w.heap[b]?)) (s : List UInt8) (hby : bytes = 1) (hb : k + s.length ≤ 140737488355328) :
    ∃ a' c' w', (Builtin.append_ #[t, u] ty #[.slice a k cap, .string (S s)]).run P w = .ok (.slice a' (k + s.length) c') w' ∧ slOk e 1 a' (k + s.length) c' (xs ++ u8s s) (fun b => w'.heap[b]?) ∧
      w.heap.size ≤ w'.heap.size ∧ w'.os = w.os ∧ w'.output = w.output ∧ w'.tape = w.tape ∧ (∀ b, some b ≠ a.map (·.block) → b < w.heap.size → w'.heap[b]? = w.heap[b]?) ∧
      (∀ p', a' = some p' → (some p'.block = a.map (·.block)) ∨ w.heap.size = p'.block) ∧ (a = none → s = [] → a' = none) := by
  obtain ⟨i, hi1, hi2, hs1, rfl, hi5⟩ := hi.inf
  subst hz
  have hsz : (S s).size = s.length := rfl
  have hsc : Lib.strCells (S s) = u8s s := rfl
  have h63 : k + s.length ≤ maxLen := by simp only [maxLen]; omega
  have hlen : (xs ++ u8s s).length = (k + s.length) * 1 := by rw [List.length_append, hok.1, u8s, List.length_map]; omega
  have hul : (u8s s).length = s.length := List.length_map _
  have fresh : ∀ old, old < k + s.length → slOk e 1 (some ⟨w.heap.size, 0, none⟩) (k + s.length) (grownCap w (k + s.length) old e) (xs ++ u8s s)
      (fun b => (w.drew.alloc (.cells (xs.toArray ++ (u8s s).toArray ++ Builtin.zeroCells (Value.int .u8 0).cells (grownCap w (k + s.length) old e - (k + s.length))) e)).heap[b]?) := fun old _ => by
    have hge := grownCap_ge w (k + s.length) old e
    refine ⟨hlen, .inr ⟨w.heap.size, _, rfl, World.alloc_heap_new w.drew _, hge, grownCap_le_maxLen w (k + s.length) old e h63, ?_, ?_⟩⟩
    · have hz1 : (Value.int IntKind.u8 0).cells.size = 1 := rfl
      have := hok.1
      simp only [Array.size_append, List.size_toArray, size_zeroCells, hz1, hul]
      omega
    · simp only [Array.toList_append, List.append_assoc]
      rw [← List.append_assoc, ← hlen]
      exact List.take_left
  have keep : ∀ (o : Obj) (b : Nat), b < w.heap.size → (w.drew.alloc o).heap[b]? = w.heap[b]? := fun o b hb => Below.heap_alloc w.drew o b hb
  rcases hok.2 with ⟨rfl, rfl, rfl⟩ | ⟨g, cur, rfl, hg, hnc, hcm, hcs, htake⟩
  · have hx : xs = [] := List.eq_nil_of_length_eq_zero (by simpa using hok.1)
    subst hx
    by_cases hm : s.length = 0
    · have hn : s = [] := List.eq_nil_of_length_eq_zero hm
      subst hn
      refine ⟨none, 0, w, ?_, ⟨by simp [u8s], .inl ⟨rfl, rfl, rfl⟩⟩, Nat.le_refl _, rfl, rfl, rfl, fun _ _ _ => rfl, (fun p' h => by cases h), fun _ _ => rfl⟩
      have hf := Lib.run_firstCells_string (P := P) w 1 (S [])
      have h0 : (S []).size = 0 := rfl
      rw [h0] at hf
      simp [Builtin.append_, run_underlying ht, run_underlying hu, sizeOf, typeInfo, hi1, hs1, Builtin.lenOf, h0, hf, List.length_nil]
    · have hr := run_append_nil_string (P := P) w t u ty e i (.int .u8 0) ht hu hi1 hi2 (S s) (by rw [hsz]; omega) (by rw [hsz]; omega) (by rw [hby, hsz]; omega)
      have hf := fresh 0 (by omega)
      simp only [Nat.zero_add, List.nil_append, Array.empty_append] at hf ⊢
      have e1 : ((S s).data.map fun b => Value.int .u8 b.toNat) = (u8s s).toArray := by
        apply Array.ext'
        simp [u8s, S]
      rw [e1, hsz] at hr
      exact ⟨_, _, _, hr, hf, by simp, rfl, rfl, rfl, fun b _ hb => keep _ b hb, (fun p' h => by cases h; exact .inr rfl), fun _ h => absurd (by rw [h]; rfl) hm⟩
  · by_cases hroom : k + s.length ≤ cap
    · have hr := Lib.run_append_room_string (P := P) w t u ty e i ht hu hi1 hs1 g k cap cur hg (S s) (by rw [hsz]; omega) (by rw [hsz]; omega)
      rw [hsz, hsc] at hr
      refine ⟨_, _, _, hr, ⟨hlen, .inr ⟨g, _, rfl, setRow_heap w g cur _ e _ hg, hroom, hcm, ?_, ?_⟩⟩, by simp, rfl, rfl, rfl, fun b hne _ => setRow_other w g b _ (fun e => hne (by simp [e])), (fun p' h => by cases h; exact .inl rfl), fun h => by cases h⟩
      · simp only [List.size_toArray, List.length_append, List.length_take, List.length_drop, Array.length_toList, hul]
        omega
      · have ht' : cur.toList.take k = xs := by simpa using htake
        rw [ht', ← hlen]
        exact List.take_left
    · have holds : ∀ j u, xs[j]? = some u → w.cell? ((⟨g, 0, none⟩ : Addr).add j) = some u := hok.owns.cells (g := g) rfl
      have hr := Lib.run_append_grow_string (P := P) w t u ty e i (.int .u8 0) ht hu hi1 hi2 ⟨g, 0, none⟩ k cap xs (by rw [hs1]; exact hok.1) holds (S s) (by rw [hsz]; omega) (by rw [hsz]; omega) (by rw [hby, hsz]; exact growslice_fits (by omega) (by omega))
      rw [hsz, hsc] at hr
      exact ⟨_, _, _, hr, fresh cap (by omega), by simp, rfl, rfl, rfl, fun b _ hb => keep _ b hb, (fun p' h => by cases h; exact .inr rfl), fun h => by cases h⟩

/-- 'append(b, s...)', b bytes of the call's own, s a string. -/
theorem G_appendStr {s x : Operand} {t u e : TypeId} {d : Nat} {sz' szu : Nat} {ag' agu : Bool} [ht : Ty P t (.slice e) sz' ag'] [hu : Ty P u .string szu agu] [hi : Inf P e (.int .u8 0) 1 1] {a : Option Addr} {k cap : Nat} {xs : List Value} {l : List UInt8} {L' : Option Addr → Nat → List Res}
    (ho : o.op = .call { callee := .builtin .append, args := #[s, x], argTypes := #[t, u] }) (hs : ev fs s = some (.slice a k cap)) (hx : ev fs x = some (.string (S l)))
    (hb : k + l.length ≤ 140737488355328) (hd : o.dst = some d) (hn : Nat.blt d n = true) (hg : Goes ops fs o)
    (up : ∀ a' c', Upd L (.sl e 1 a k cap xs) (.sl e 1 a' (k + l.length) c' (xs ++ u8s l)) (L' a' c'))
    (h : ∀ a' c', (a = none → l = [] → a' = none) → G n ds ((d, .slice a' (k + l.length) c') :: fs) E (L' a' c') (wpListIn (Wd ro) 0 P ops Q rest)) : G n ds fs E L (wpListIn (Wd ro) 0 P ops Q (o :: rest)) :=
  G_any hg (by rw [ho]; intro c h; cases h) fun a0 w ha hw => by
    have hok : slOk e 1 a k cap xs (fun b => w.heap[b]?) := hw.own _ (up none 0).mem
    obtain ⟨a', c', w', hrun, hok', hsz, hos, hout, htape, hkeep, hnew, hnil⟩ := run_append_str (ty := o.type) ht.und hu.und hi rfl hok l rfl hb
    have e1 : (execOp a0.eval o).run P w = .ok (.value (.slice a' (k + l.length) c')) w' := by
      simp [execOp, ho, resolve, invoke, builtin, ha.eval hs, ha.eval hx, hrun, Result.andThen]
    rw [e1]
    simp only [Oper.uponIn_value, hd]
    refine h a' c' hnil _ _ (ha.put hn _) (hw.update (up a' c') hsz (fun b hb' hlt => hkeep b (fun he => hb' ?_) hlt) hok' (fun b hb' => ?_) ?_ hos hout htape)
    · cases a with
      | none => simp at he
      | some p => simp at he; subst he; simp [Res.sl]
    · cases a' with
      | none => simp [Res.sl] at hb'
      | some p' =>
        simp [Res.sl] at hb'
        subst hb'
        have hlt : p'.block < w'.heap.size := by
          rcases hok'.2 with ⟨h, _⟩ | ⟨g, cur, h, hg', _⟩
          · cases h
          · cases h; exact (Array.getElem?_eq_some_iff.1 hg').1
        rcases hnew _ rfl with h' | h'
        · left
          cases a with
          | none => simp at h'
          | some p => simp at h'; exact ⟨by simp [Res.sl, h'], hlt⟩
        · exact .inr ⟨by omega, hlt⟩
    · cases a' <;> simp [Res.sl]

/-! ### Entries without a body -/
theorem V_extern {k : FuncId} {fn : Func} {e : Array Value → Sem Value} {args : Array Value} {v : Value} (hf : P.funcs[k]? = some fn) (hname : (fn.name == "runtime.NumGoroutine") = false) (hb : fn.body.isNone = true) (hn : Extern.findNext fn = none) (he : Extern.find fn = some e)
    (hrun : ∀ w, (e args).run P w = .ok v w) (ht : Goesto fs o k args) : Val P o fs E L v := by
  obtain ⟨f, xs, ts, vs, cap, ho, hfv, hx, rfl⟩ := ht
  refine ⟨(by rw [ho]; intro c h; cases h), fun n ds a w ha _ => ?_⟩
  have e1 := evs_args ha hx
  simp only [Array.toArray_toList] at e1
  have e2 := ha.eval hfv
  simp only [execOp, ho, resolve, e2, Deferred.ofValue, e1]
  simp [invoke, run_callFunc_extern hf hname hb hn he, hrun, Result.andThen]
/-- The first place of a byte. -/
def idxB (s : List UInt8) (c : UInt8) : Int := Lib.indexByte s c

/-! ### Pointers -/
theorem V_peqN {t u te : TypeId} {sz : Nat} {ag : Bool} [ht : Ty P t (.pointer te) sz ag] {x y : Operand} {p : Option Addr} (ho : o.op = .binOp .eql t x y u) (hx : ev fs x = some (.pointer p)) (hy : ev fs y = some (.pointer none)) : Val P o fs E L (.bool p.isNone) :=
  V_bin ho hx hy fun w => ⟨by simp [eqGuard], by
    have h : ∀ d : Nat, (Op.equalIn (d + 1) t (.pointer p) (.pointer none)).run P w = .ok p.isNone w := fun d => by
      cases p <;> simp [Op.equalIn, ht.run, sameAddr]
    simp only [binOp]
    simp [Op.equal, Op.maxDepth, h 9999]⟩
theorem V_pneqS {t u te : TypeId} {sz sz2 : Nat} {ag : Bool} {z : Value} {bytes : Nat} [ht : Ty P t (.pointer te) sz ag] [hi : Inf P te z sz2 bytes] {x y : Operand} {p : Addr} (ho : o.op = .binOp .neq t x y u) (hx : ev fs x = some (.pointer (some p))) (hy : ev fs y = some (.pointer (some p))) : Val P o fs E L (.bool false) := by
  obtain ⟨i, hi1, _⟩ := hi.inf
  exact V_bin ho hx hy fun w => ⟨by simp [eqGuard], Lib.run_neq_ptr_same w p ht.und hi1⟩
theorem V_toUnsafe {src dst te : TypeId} {sz sz' sz2 : Nat} {ag ag' : Bool} {z : Value} {bytes : Nat} [hs : Ty P src (.pointer te) sz ag] [hd : Ty P dst .unsafePointer sz' ag'] [hi : Inf P te z sz2 bytes] {x : Operand} {b off : Nat} {cs : Array Value} {T : TypeId} {fz : Nat × Nat}
    (ho : o.op = .convert src dst x) (hx : ev fs x = some (.pointer (some ⟨b, off, none⟩))) (hm : Res.blk b (.cells cs T fz) ∈ L) (hoff : off < cs.size) (h0 : sz2 ≠ 0) : Val P o fs E L (.pointer (some ⟨b, off, none⟩)) := by
  obtain ⟨i, hi1, _, hi3, _⟩ := hi.inf
  refine ⟨(by rw [ho]; intro c h; cases h), fun n ds a w ha hw => ?_⟩
  have hb : w.heap[b]? = some (.cells cs T fz) := hw.own _ hm
  have := Lib.run_to_unsafe (P := P) w (src := src) (dst := dst) (e := T) (cells := cs.size) ⟨b, off, none⟩ hs.und hd.und hi1 (by omega) (by simp [World.shape?, hb]) hoff
  simp [execOp, ho, ha.eval hx, Result.andThen, this]
theorem V_fromUnsafe {src dst te : TypeId} {sz sz' sz2 : Nat} {ag ag' : Bool} {z : Value} {bytes : Nat} [hs : Ty P src .unsafePointer sz ag] [hd : Ty P dst (.pointer te) sz' ag'] [hi : Inf P te z sz2 bytes] {x : Operand} {b off : Nat} {cs : Array Value} {T : TypeId} {fz : Nat × Nat}
    (ho : o.op = .convert src dst x) (hx : ev fs x = some (.pointer (some ⟨b, off, none⟩))) (hm : Res.blk b (.cells cs T fz) ∈ L) (hl : liesAt P P.depth T (cs.size / P.cellsOf T) off te 1 = true) : Val P o fs E L (.pointer (some ⟨b, off, none⟩)) := by
  obtain ⟨i, hi1, _⟩ := hi.inf
  refine ⟨(by rw [ho]; intro c h; cases h), fun n ds a w ha hw => ?_⟩
  have hb : w.heap[b]? = some (.cells cs T fz) := hw.own _ hm
  have := Lib.run_from_unsafe (P := P) w (src := src) (dst := dst) (e := T) (cells := cs.size) ⟨b, off, none⟩ hs.und hd.und hi1 (by simp [World.shape?, hb]) hl
  simp [execOp, ho, ha.eval hx, Result.andThen, this]
end rules
end Go.Proofs.YtpkingbclcalkaaDoor
namespace Go.Proofs.YtpkingbclcalkaaDoor
open Go.RowKit

section rules
variable {P : Program} {ro : Option Nat} {n : Nat} {ds : List Deferred} {fs : List (Nat × Value)} {E : Env} {L : List Res} {ops : Array Oper} {Q : Exit → Act → World → Prop} {rest : List Oper} {o : Oper}
/-- '[]byte(s)', shut at once. -/
theorem G_s2b {src dst e : TypeId} {sz sz' sze : Nat} {ag ag' age : Bool} [hs : Ty P src .string sz ag] [ht : Ty P dst (.slice e) sz' ag'] [he : Ty P e (.int .u8) sze age] {x : Operand} {l : List UInt8} {d : Nat}
    (ho : o.op = .convert src dst x) (hx : ev fs x = some (.string (S l))) (hd : o.dst = some d) (hn : Nat.blt d n = true) (hg : Goes ops fs o)
    (h : ∀ b c E', E.Le E' → SlE E' 1 (some ⟨b, 0, none⟩) l.length (u8s l) → G n ds ((d, .slice (some ⟨b, 0, none⟩) l.length c) :: fs) E' L (wpListIn (Wd ro) 0 P ops Q rest)) : G n ds fs E L (wpListIn (Wd ro) 0 P ops Q (o :: rest)) :=
  G_any hg (by rw [ho]; intro c h; cases h) fun a w ha hw => by
    have hrun := Lib.run_convert_string_bytes (P := P) w src dst e (S l) hs.und ht.und he.und
    have e1 : (execOp a.eval o).run P w = .ok (.value (.slice (some ⟨w.heap.size, 0, none⟩) l.length (grownCap w l.length 0 e))) (Lib.bytesWorld w e (S l)) := by
      simp [execOp, ho, ha.eval hx, Result.andThen, hrun, S_size]
    rw [e1]
    simp only [Oper.uponIn_value, hd]
    have hnew := Lib.bytesWorld_at_new w e (S l)
    have hE : E.heap w.heap.size = none := by
      cases hE : E.heap w.heap.size with
      | none => rfl
      | some o' => have := (Array.getElem?_eq_some_iff.1 (hw.env _ _ hE)).1; omega
    have hlt : ∀ b, b ∈ L.flatMap Res.ids → b < w.heap.size := fun b hb => (hw.apart b hb).2
    have hst : St E (.blk w.heap.size (.cells (Lib.bytesCells w e (S l)) e ((Lib.bytesCells w e (S l)).size, (Lib.bytesCells w e (S l)).size + 1)) :: L) (Lib.bytesWorld w e (S l)) := by
      refine ⟨fun b o' hb => ?_, fun r hr => ?_, ?_, fun b hb => ?_, hw.os, hw.out, hw.tape⟩
      · have h1 := hw.env b o' hb
        have h2 := (Array.getElem?_eq_some_iff.1 h1).1
        rw [Lib.bytesWorld_at_old w e _ b h2]; exact h1
      · rcases List.mem_cons.1 hr with rfl | hr
        · exact hnew
        · exact r.loc _ _ (fun b hb => (Lib.bytesWorld_at_old w e _ b (hlt b (List.mem_flatMap.2 ⟨r, hr, hb⟩))).symm) (hw.own r hr)
      · simp only [List.flatMap_cons, Res.blk, List.singleton_append, List.nodup_cons]
        exact ⟨fun hm => by have := hlt _ hm; omega, hw.nodup⟩
      · simp only [List.flatMap_cons, Res.blk, List.singleton_append, List.mem_cons] at hb
        have hsz := Lib.bytesWorld_size w e (S l)
        rcases hb with rfl | hb
        · exact ⟨hE, by omega⟩
        · exact ⟨(hw.apart b hb).1, by have := hlt b hb; omega⟩
    refine h _ _ _ (Env.blk_le hE) ?_ _ _ (ha.put hn _) ((St.shut hE).1 hst)
    have hul : (u8s l).length = l.length := List.length_map _
    have hcl : Lib.bytesCells w e (S l) = (u8s l).toArray ++ Array.replicate (grownCap w l.length 0 e - l.length) (.int .u8 0) := by
      unfold Lib.bytesCells
      congr 1
      apply Array.ext'
      simp [u8s, S]
    refine SlE.pre (l := u8s l) (r := List.replicate (grownCap w l.length 0 e - l.length) (.int .u8 0)) (T := e) (fz := ((Lib.bytesCells w e (S l)).size, (Lib.bytesCells w e (S l)).size + 1)) ?_ (by rw [hul, Nat.mul_one])
    show (E.blk _ _).heap w.heap.size = some _
    simp only [Env.blk, if_true]
    rw [hcl]
    simp

theorem wrap_i32 {a : Int} (h0 : -2147483648 ≤ a) (h1 : a ≤ 2147483647) : IntKind.i32.wrap a = a := by
  refine wrap_in ?_ ?_ <;> simp only [IntKind.min, IntKind.max, IntKind.signed, IntKind.bits] <;> simp <;> omega
theorem V_conv_i32 {t u : TypeId} {x : Operand} {a : Int} {k' : IntKind} {d : TypeDesc} {sz sz' : Nat} {ag ag' : Bool} [Ty P t d sz ag] [Ty P u (.int .i32) sz' ag'] (ho : o.op = .convert t u x) (hx : ev fs x = some (.int k' a)) (h0 : -2147483648 ≤ a) (h1 : a ≤ 2147483647) : Val P o fs E L (.int .i32 a) := by
  have := V_conv (P := P) (E := E) (L := L) (k' := .i32) ho hx
  rwa [wrap_i32 h0 h1] at this
/-- 'string(rune(x))' of a plain byte. -/
theorem V_r2s {src dst : TypeId} {d : TypeDesc} {sz sz' : Nat} {ag ag' : Bool} [hs : Ty P src d sz ag] [ht : Ty P dst .string sz' ag'] {x : Operand} {k : IntKind} {z : Int} (ho : o.op = .convert src dst x) (hx : ev fs x = some (.int k z)) (h0 : 0 ≤ z) (h1 : z < 128) : Val P o fs E L (.string (S [UInt8.ofNat z.toNat])) :=
  ⟨(by rw [ho]; intro c h; cases h), fun n ds a w ha _ => by
    have e := run_convert_int_string (P := P) w src dst k z (by rw [hs.und]; rfl) ht.und
    have hv : Utf8.valid z = true := by
      unfold Utf8.valid
      simp
      omega
    have e2 : Utf8.encode z = S [UInt8.ofNat z.toNat] := by
      unfold Utf8.encode
      simp only [hv, if_true]
      rw [if_pos (by omega)]
      rfl
    rw [e2] at e
    simp [execOp, ho, ha.eval hx, Result.andThen, e]⟩

/-! ### unsafe.SliceData, unsafe.String -/
theorem V_sliceData {x : Operand} {ts : Array TypeId} {a : Option Addr} {m c : Nat} (ho : o.op = .call { callee := .builtin .unsafeSliceData, args := #[x], argTypes := ts }) (hx : ev fs x = some (.slice a m c)) (hc : a = none ∨ c ≠ 0) : Val P o fs E L (.pointer a) :=
  ⟨(by rw [ho]; intro c h; cases h), fun n ds a0 w ha _ => by
    have e : (Builtin.unsafeSliceData_ ts o.type #[.slice a m c]).run P w = .ok (.pointer a) w := by
      cases a with
      | none => rfl
      | some p => exact Lib.run_unsafeSliceData_row _ _ _ _ _ _ (hc.resolve_left (fun h => by cases h))
    simp [execOp, ho, resolve, invoke, builtin, ha.eval hx, Result.andThen, e]⟩
/-- unsafe.String over bytes of the call's own: they are given away. -/
theorem G_unsafeString {x y : Operand} {pt it e : TypeId} {d szp : Nat} {agp : Bool} [hp : Ty P pt (.pointer e) szp agp] {a : Option Addr} {c : Nat} {l : List UInt8} {L' : List Res}
    (ho : o.op = .call { callee := .builtin .unsafeString, args := #[x, y], argTypes := #[pt, it] }) (hx : ev fs x = some (.pointer a)) (hy : ev fs y = some (.int .i64 l.length)) (hl : l.length ≤ 9223372036854775807) (hce : P.cellsOf e = 1)
    (hd : o.dst = some d) (hn : Nat.blt d n = true) (hg : Goes ops fs o) (hdel : Del L (.sl e 1 a l.length c (u8s l)) L')
    (h : G n ds ((d, .string (S l)) :: fs) E L' (wpListIn (Wd ro) 0 P ops Q rest)) : G n ds fs E L (wpListIn (Wd ro) 0 P ops Q (o :: rest)) :=
  G_any hg (by rw [ho]; intro c h; cases h) fun a0 w ha hw => by
    have hw1 := hw.perm hdel.perm
    have hok : slOk e 1 a l.length c (u8s l) (fun b => w.heap[b]?) := hw1.own _ (.head _)
    have fin : ∀ w', (Builtin.unsafeString_ #[pt, it] o.type #[.pointer a, .int .i64 l.length]).run P w = .ok (.string (S l)) w' → St E L' w' → o.uponIn (Wd ro) 0 P a0 (wpListIn (Wd ro) 0 P ops Q rest) Q ((execOp a0.eval o).run P w) := fun w' hrun hw' => by
      have e1 : (execOp a0.eval o).run P w = .ok (.value (.string (S l))) w' := by
        simp [execOp, ho, resolve, invoke, builtin, ha.eval hx, ha.eval hy, hrun, Result.andThen]
      rw [e1]
      simp only [Oper.uponIn_value, hd]
      exact h _ _ (ha.put hn _) hw'
    by_cases h0 : l = []
    · subst h0
      exact fin w (Lib.run_unsafeString_none (P := P) w pt it o.type a) hw1.drop
    · rcases hok.2 with ⟨_, _, h1⟩ | ⟨g, cur, rfl, hgb, hnc, hcm, hcs, htake⟩
      · exact absurd (List.eq_nil_of_length_eq_zero h1) h0
      · have hcell := hok.owns.cells (g := g) rfl
        have hus := Lib.run_unsafeString_row (P := P) w pt it o.type e hp.und hce g cur.size (by simp [World.shape?, hgb]) l h0 (by omega) hl (fun j x hx => hcell j (.int .u8 x.toNat) (by simp [u8s, hx]))
        refine fin _ hus ?_
        refine St.drop (r := .blk g (.cells cur e (0, 0 + l.length))) (hw1.update (r := .sl e 1 (some ⟨g, 0, none⟩) l.length c (u8s l)) (.head _ _ _) ?_ (fun b hb _ => ?_) ?_ (fun b hb => ?_) (by simp [Res.blk]) ?_ ?_ ?_)
        · unfold World.freeze; split <;> simp
        · have : b ≠ g := fun e => hb (by subst e; simp [Res.sl])
          unfold World.freeze
          split
          · rfl
          · simp [Array.getElem?_modify, Ne.symm this]
        · show (w.freeze ⟨g, 0, none⟩ l.length).heap[g]? = _
          unfold World.freeze
          rw [if_neg (by simpa using h0)]
          simp only [Array.getElem?_modify, if_true]
          have hgb' : w.heap[g]? = some (.cells cur e (0, 0)) := hgb
          rw [hgb']
          rfl
        · simp only [Res.blk, List.mem_singleton] at hb
          subst hb
          refine .inl ⟨by simp [Res.sl], ?_⟩
          have hlt := (Array.getElem?_eq_some_iff.1 hgb).1
          unfold World.freeze
          split <;> simpa using hlt
        · unfold World.freeze; split <;> rfl
        · unfold World.freeze; split <;> rfl
        · unfold World.freeze; split <;> rfl
end rules
end Go.Proofs.YtpkingbclcalkaaDoor
set_option linter.unusedSimpArgs false
set_option linter.unusedVariables false
set_option maxHeartbeats 2000000
set_option maxRecDepth 20000
namespace Go.Proofs.YtpkingbclcalkaaDoor
open Go.RowKit

/-- What a strings.Builder holds: whether it was used, its buffer's place and room, its bytes. -/
structure Bld where
  used : Bool
  a : Option Addr
  c : Nat
  xs : List UInt8
  nil' : xs = [] → a = none
def Bld.new : Bld := ⟨false, none, 0, [], fun _ => rfl⟩
def Bld.obj (b : Nat) (u : Bool) (a : Option Addr) (n c : Nat) : Obj := .cells #[.pointer (if u then some ⟨b, 0, none⟩ else none), .slice a n c] 55 (0, 0)
/-- A strings.Builder of the call's own. -/
def Res.bld (b : Nat) (s : Bld) : Res := .both (.blk b (Bld.obj b s.used s.a s.xs.length s.c)) (.sl 5 1 s.a s.xs.length s.c (u8s s.xs))

section
variable {n : Nat} {ds : List Deferred} {fs : List (Nat × Value)} (E : Env) (L : List Res)
theorem G.bldNew {E : Env} {L : List Res} {X : Act → World → Prop} {b : Nat} (h : G n ds fs E (.bld b Bld.new :: L) X) : G n ds fs E (.blk b (.cells #[.pointer none, .slice none 0 0] 55 (0, 0)) :: L) X := by
  refine G.nilSl 5 1 ?_
  refine G.front (.tail _ (.head _ _)) ?_
  exact G.both h

theorem NoEscape_val {fs : List (Nat × Value)} {E : Env} {L : List Res} {o : Oper} {p : Option Addr} (ht : Goesto fs o 57 #[.pointer p]) : Val Tryd.prog o fs E L (.pointer p) :=
  V_extern Tryd.func57 (by kernel_rfl) (by kernel_rfl) (by kernel_rfl) (e := Extern.AbiNoEscape.same) (by kernel_rfl) (fun w => Lib.run_noEscape w (.pointer p)) ht

theorem copyCheck_call (b : Nat) (u : Bool) (a : Option Addr) (k c : Nat) :
    CallS Tryd.prog 48 #[.pointer (some ⟨b, 0, none⟩)] E (.blk b (Bld.obj b u a k c) :: L) (fun r E' L' => r = .tuple #[] ∧ E' = E ∧ L' = .blk b (Bld.obj b true a k c) :: L) := by
  refine CallS.intro (l := [_]) _ Tryd.func48 rfl Tryd.ntmps48 rfl ?_
  cases u with
  | true =>
    simp only [Bld.obj, if_true]
    refine G_seq (G_region ?_)
    refine G_val (V_move rfl rfl) rfl rfl (.none rfl) ?_
    refine G_val (V_nilCheck rfl rfl) rfl rfl (.none rfl) ?_
    refine G_val (V_fieldAddr rfl rfl (by decide)) rfl rfl (.none rfl) ?_
    refine G_val (V_load rfl rfl (Cell.own (.head _) rfl)) rfl rfl (.none rfl) ?_
    refine G_val (V_peqN rfl rfl rfl) rfl rfl (.none rfl) ?_
    refine G_end (X_then ?_)
    refine G_cond_f rfl (by simp [*]; done) ?_
    refine G_seq (G_region ?_)
    refine G_val (V_move rfl rfl) rfl rfl (.none rfl) ?_
    refine G_val (V_nilCheck rfl rfl) rfl rfl (.none rfl) ?_
    refine G_val (V_fieldAddr rfl rfl (by decide)) rfl rfl (.none rfl) ?_
    refine G_val (V_load rfl rfl (Cell.own (.head _) rfl)) rfl rfl (.none rfl) ?_
    refine G_val (V_move rfl rfl) rfl rfl (.none rfl) ?_
    refine G_val (V_pneqS rfl rfl rfl) rfl rfl (.none rfl) ?_
    refine G_end (X_then ?_)
    refine G_cond_f rfl rfl ?_
    refine G_skip ?_
    refine G_leaveS_n (.keep _ (.nil _)) (by exact (.nil)) rfl ?_ ?_
    · exact (.refl _)
    exact ⟨(by kernel_rfl), ⟨rfl, rfl⟩⟩
  | false =>
    simp only [Bld.obj, if_true, Bool.false_eq_true, if_false]
    refine G_seq (G_region ?_)
    refine G_val (V_move rfl rfl) rfl rfl (.none rfl) ?_
    refine G_val (V_nilCheck rfl rfl) rfl rfl (.none rfl) ?_
    refine G_val (V_fieldAddr rfl rfl (by decide)) rfl rfl (.none rfl) ?_
    refine G_val (V_load rfl rfl (Cell.own (.head _) rfl)) rfl rfl (.none rfl) ?_
    refine G_val (V_peqN rfl rfl rfl) rfl rfl (.none rfl) ?_
    refine G_end (X_then ?_)
    refine G_cond_t rfl (by kernel_rfl) ?_
    refine G_region ?_
    refine G_val (V_move rfl rfl) rfl rfl (.none rfl) ?_
    refine G_val (V_move rfl rfl) rfl rfl (.none rfl) ?_
    refine G_val (V_toUnsafe rfl rfl (.head _) (Nat.le_of_ble_eq_true rfl) (by decide)) rfl rfl (.none rfl) ?_
    refine G_val (NoEscape_val (.mk rfl rfl rfl rfl)) rfl rfl (.none rfl) ?_
    refine G_val (V_fromUnsafe rfl rfl (.head _) (by kernel_rfl)) rfl rfl (.none rfl) ?_
    refine G_val (V_nilCheck rfl rfl) rfl rfl (.none rfl) ?_
    refine G_val (V_fieldAddr rfl rfl (by decide)) rfl rfl (.none rfl) ?_
    refine G_storeAt rfl rfl rfl rfl rfl rfl (.none rfl) (.head _ _ _) (Nat.le_of_ble_eq_true rfl) (by simp only [putAll, Nat.zero_add, Nat.reduceAdd, List.setIfInBounds_toArray, List.set_cons_succ, List.set_cons_zero]; rfl) ?_
    refine G_end ?_
    refine G_leaveS_n (.keep _ (.nil _)) (by exact (.nil)) rfl ?_ ?_
    · exact (.refl _)
    exact ⟨(by kernel_rfl), ⟨rfl, rfl⟩⟩
theorem IndexByteString_val {fs : List (Nat × Value)} {E : Env} {L : List Res} {o : Oper} {s : List UInt8} {c : Nat} (ht : Goesto fs o 73 #[.string (S s), .int .u8 c]) : Val Tryd.prog o fs E L (.int .i64 (idxB s c.toUInt8)) :=
  V_extern Tryd.func73 (by kernel_rfl) (by kernel_rfl) (by kernel_rfl) (e := Extern.BytealgIndexByte.indexByte) (by kernel_rfl) (fun w => Lib.run_indexByteString (P := Tryd.prog) (S s) c w) ht
end
end Go.Proofs.YtpkingbclcalkaaDoor
set_option linter.unusedSimpArgs false
set_option linter.unusedVariables false
set_option maxHeartbeats 2000000
set_option maxRecDepth 20000
namespace Go.Proofs.YtpkingbclcalkaaDoor
open Go.RowKit
theorem u8s_app (a b : List UInt8) : u8s (a ++ b) = u8s a ++ u8s b := List.map_append
theorem u8s_len (a : List UInt8) : (u8s a).length = a.length := List.length_map _

section
variable (E : Env) (L : List Res)
theorem WriteString_parts (b : Nat) (u : Bool) (a : Option Addr) (c : Nat) (xs x : List UInt8) (h : xs.length + x.length ≤ 140737488355328) :
    CallS Tryd.prog 34 #[.pointer (some ⟨b, 0, none⟩), .string (S x)] E (.blk b (Bld.obj b u a xs.length c) :: .sl 5 1 a xs.length c (u8s xs) :: L)
      (fun r E' L' => ∃ a' c', r = .tuple #[.int .i64 x.length, .nilIface] ∧ E' = E ∧ (a = none → x = [] → a' = none) ∧ L' = .blk b (Bld.obj b true a' (xs.length + x.length) c') :: .sl 5 1 a' (xs.length + x.length) c' (u8s xs ++ u8s x) :: L) := by
  refine CallS.intro (l := [_, _]) _ Tryd.func34 rfl Tryd.ntmps34 rfl ?_
  refine G_seq (G_region ?_)
  refine G_val (V_assign rfl rfl) rfl rfl (.none rfl) ?_
  refine G_val (V_assign rfl rfl) rfl rfl (.none rfl) ?_
  refine G_end (X_then (G_seq (G_region ?_)))
  refine G_val (V_move rfl rfl) rfl rfl (.none rfl) ?_
  refine G_call (k := 48) (.mk rfl rfl rfl rfl) rfl rfl (.none rfl) (copyCheck_call _ _ _ _ _ _ _) ?_
  rintro r1 E2 L3 hE4 ⟨rfl, ⟨rfl, rfl⟩⟩
  refine G_end (X_then (G_seq (G_region ?_)))
  refine G_val (V_move rfl rfl) rfl rfl (.none rfl) ?_
  refine G_val (V_move rfl rfl) rfl rfl (.none rfl) ?_
  refine G_val (V_nilCheck rfl rfl) rfl rfl (.none rfl) ?_
  refine G_val (V_fieldAddr rfl rfl (by decide)) rfl rfl (.none rfl) ?_
  refine G_val (V_load rfl rfl (Cell.own (.head _) rfl)) rfl rfl (.none rfl) ?_
  refine G_val (V_move rfl rfl) rfl rfl (.none rfl) ?_
  (refine G_appendStr rfl rfl rfl (by omega) rfl rfl (.none rfl) (fun _ _ => (.tail _ (.head _ _ _))) ?_; intro a14 c14 ha14)
  refine G_val (V_nilCheck rfl rfl) rfl rfl (.none rfl) ?_
  refine G_val (V_fieldAddr rfl rfl (by decide)) rfl rfl (.none rfl) ?_
  refine G_storeAt rfl rfl rfl rfl rfl rfl (.none rfl) (.head _ _ _) (Nat.le_of_ble_eq_true rfl) (by simp only [putAll, Nat.zero_add, Nat.reduceAdd, List.setIfInBounds_toArray, List.set_cons_succ, List.set_cons_zero]; rfl) ?_
  refine G_end (X_then (G_seq (G_region ?_)))
  refine G_val (V_move rfl rfl) rfl rfl (.none rfl) ?_
  refine G_val (V_len rfl rfl) rfl rfl (.none rfl) ?_
  refine G_val (V_assign rfl rfl) rfl rfl (.none rfl) ?_
  refine G_val (V_assign rfl rfl) rfl rfl (.none rfl) ?_
  refine G_end (X_then (G_ret ?_))
  refine G_leaveS (.keep _ (.keep _ (.nil _))) (by exact (.cons (.tmp rfl) (.cons (.tmp rfl) (.nil)))) rfl ?_ ?_
  · exact (.refl _)
  exact ⟨_, ⟨_, ⟨rfl, ⟨rfl, ⟨(by assumption), rfl⟩⟩⟩⟩⟩
theorem WriteString_call (b : Nat) (s : Bld) (x : List UInt8) (h : s.xs.length + x.length ≤ 140737488355328) :
    CallS Tryd.prog 34 #[.pointer (some ⟨b, 0, none⟩), .string (S x)] E (.bld b s :: L) (fun r E' L' => ∃ t, r = .tuple #[.int .i64 x.length, .nilIface] ∧ E' = E ∧ t.xs = s.xs ++ x ∧ t.xs.length = s.xs.length + x.length ∧ L' = .bld b t :: L) := fun w hw =>
  (WriteString_parts E L b s.used s.a s.c s.xs x h w (St.both.1 hw)).mono fun e w' ⟨r, E', L', he, hE, hs, a', c', hr, hE', hn, hL⟩ => by
    subst hL
    refine ⟨r, E', _, he, hE, St.both.2 hs, ⟨true, a', c', s.xs ++ x, fun h0 => ?_⟩, hr, hE', rfl, List.length_append, ?_⟩
    · obtain ⟨h1, h2⟩ := List.append_eq_nil_iff.1 h0
      exact hn (s.nil' h1) h2
    · simp only [Res.bld, List.length_append, u8s_app, Bld.obj, if_true]
theorem WriteByte_parts (b : Nat) (u : Bool) (a : Option Addr) (c : Nat) (xs : List UInt8) (x : Nat) (hx : x < 256) (h : xs.length + 1 ≤ 140737488355328) :
    CallS Tryd.prog 56 #[.pointer (some ⟨b, 0, none⟩), .int .u8 x] E (.blk b (Bld.obj b u a xs.length c) :: .sl 5 1 a xs.length c (u8s xs) :: L)
      (fun r E' L' => ∃ a' c', r = .nilIface ∧ E' = E ∧ L' = .blk b (Bld.obj b true a' (xs.length + 1) c') :: .sl 5 1 a' (xs.length + 1) c' (u8s xs ++ [.int .u8 x]) :: L) := by
  refine CallS.intro (l := [_, _]) _ Tryd.func56 rfl Tryd.ntmps56 rfl ?_
  refine G_seq (G_region ?_)
  refine G_val (V_assign rfl rfl) rfl rfl (.none rfl) ?_
  refine G_end (X_then (G_seq (G_region ?_)))
  refine G_val (V_move rfl rfl) rfl rfl (.none rfl) ?_
  refine G_call (k := 48) (.mk rfl rfl rfl rfl) rfl rfl (.none rfl) (copyCheck_call _ _ _ _ _ _ _) ?_
  rintro r1 E2 L3 hE4 ⟨rfl, ⟨rfl, rfl⟩⟩
  refine G_end (X_then (G_seq (G_region ?_)))
  refine G_val (V_move rfl rfl) rfl rfl (.none rfl) ?_
  refine G_val (V_move rfl rfl) rfl rfl (.none rfl) ?_
  refine G_val (V_nilCheck rfl rfl) rfl rfl (.none rfl) ?_
  refine G_val (V_fieldAddr rfl rfl (by decide)) rfl rfl (.none rfl) ?_
  refine G_val (V_load rfl rfl (Cell.own (.head _) rfl)) rfl rfl (.none rfl) ?_
  refine G_val (V_move rfl rfl) rfl rfl (.none rfl) ?_
  (refine G_lit1 rfl rfl rfl rfl rfl (.none rfl) ?_; intro b13)
  (refine G_append rfl rfl rfl (Rd.lit (.head _) rfl) (by simp [Value.oneCell']) (by omega) (by omega) rfl rfl (.none rfl) (fun _ _ => (.tail _ (.tail _ (.head _ _ _)))) ?_; intro a14 c14; refine G.rm (.head _ _) ?_)
  refine G_val (V_nilCheck rfl rfl) rfl rfl (.none rfl) ?_
  refine G_val (V_fieldAddr rfl rfl (by decide)) rfl rfl (.none rfl) ?_
  refine G_storeAt rfl rfl rfl rfl rfl rfl (.none rfl) (.head _ _ _) (Nat.le_of_ble_eq_true rfl) (by simp only [putAll, Nat.zero_add, Nat.reduceAdd, List.setIfInBounds_toArray, List.set_cons_succ, List.set_cons_zero]; rfl) ?_
  refine G_end (X_then (G_seq (G_region ?_)))
  refine G_val (V_assign rfl rfl) rfl rfl (.none rfl) ?_
  refine G_end (X_then (G_ret ?_))
  refine G_leaveS (.keep _ (.keep _ (.nil _))) (by exact (.cons (.tmp rfl) (.nil))) rfl ?_ ?_
  · exact (.refl _)
  exact ⟨_, ⟨_, ⟨(by kernel_rfl), ⟨rfl, rfl⟩⟩⟩⟩
theorem WriteByte_call (b : Nat) (s : Bld) (x : Nat) (hx : x < 256) (h : s.xs.length + 1 ≤ 140737488355328) :
    CallS Tryd.prog 56 #[.pointer (some ⟨b, 0, none⟩), .int .u8 x] E (.bld b s :: L) (fun r E' L' => ∃ t, r = .nilIface ∧ E' = E ∧ t.xs = s.xs ++ [x.toUInt8] ∧ t.xs.length = s.xs.length + 1 ∧ L' = .bld b t :: L) := fun w hw =>
  (WriteByte_parts E L b s.used s.a s.c s.xs x hx h w (St.both.1 hw)).mono fun e w' ⟨r, E', L', he, hE, hs, a', c', hr, hE', hL⟩ => by
    subst hL
    refine ⟨r, E', _, he, hE, St.both.2 hs, ⟨true, a', c', s.xs ++ [x.toUInt8], fun h0 => by simp at h0⟩, hr, hE', rfl, by simp, ?_⟩
    have e : x.toUInt8.toNat = x := by simp [Nat.toUInt8, UInt8.toNat_ofNat']; omega
    have e2 : u8s [x.toUInt8] = [.int .u8 x] := by simp only [u8s, List.map_cons, List.map_nil, e]
    simp only [Res.bld, List.length_append, u8s_app, Bld.obj, if_true, List.length_singleton, e2]
theorem BLen_call (b : Nat) (s : Bld) (h : s.xs.length ≤ 9223372036854775807) : CallV Tryd.prog 35 #[.pointer (some ⟨b, 0, none⟩)] E (.bld b s :: L) (.int .i64 s.xs.length) := by
  refine CallV.both ?_
  refine CallS.toV (CallS.intro (l := [_]) _ Tryd.func35 rfl Tryd.ntmps35 rfl ?_)
  simp only [Bld.obj]
  refine G_seq (G_region ?_)
  refine G_val (V_assign rfl rfl) rfl rfl (.none rfl) ?_
  refine G_end (X_then (G_seq (G_region ?_)))
  refine G_val (V_move rfl rfl) rfl rfl (.none rfl) ?_
  refine G_val (V_nilCheck rfl rfl) rfl rfl (.none rfl) ?_
  refine G_val (V_fieldAddr rfl rfl (by decide)) rfl rfl (.none rfl) ?_
  refine G_val (V_load rfl rfl (Cell.own (.head _) rfl)) rfl rfl (.none rfl) ?_
  refine G_val (V_lenS rfl rfl) rfl rfl (.none rfl) ?_
  refine G_val (V_assign rfl rfl) rfl rfl (.none rfl) ?_
  refine G_end (X_then (G_ret ?_))
  refine G_leaveS (.keep _ (.keep _ (.nil _))) (by exact (.cons (.tmp rfl) (.nil))) rfl ?_ ?_
  · exact (.refl _)
  exact ⟨rfl, rfl⟩
theorem BString_parts (b : Nat) (u : Bool) (a : Option Addr) (c : Nat) (xs : List UInt8) (h : xs.length ≤ 9223372036854775807) (hc : a = none ∨ c ≠ 0) :
    CallS Tryd.prog 36 #[.pointer (some ⟨b, 0, none⟩)] E (.blk b (Bld.obj b u a xs.length c) :: .sl 5 1 a xs.length c (u8s xs) :: L)
      (fun r E' L' => r = .string (S xs) ∧ E' = E ∧ L' = L) := by
  refine CallS.intro (l := [_]) _ Tryd.func36 rfl Tryd.ntmps36 rfl ?_
  simp only [Bld.obj]
  refine G_seq (G_region ?_)
  refine G_val (V_assign rfl rfl) rfl rfl (.none rfl) ?_
  refine G_end (X_then (G_seq ?_))
  refine G_drawT 10 mixed (by kernel_rfl) ?_; dsimp only [List.take, List.drop]
  refine Q_val (V_move rfl rfl) rfl rfl (.none rfl) ?_
  refine Q_val (V_nilCheck rfl rfl) rfl rfl (.none rfl) ?_
  refine Q_val (V_fieldAddr rfl rfl (by decide)) rfl rfl (.none rfl) ?_
  refine Q_val (V_load rfl rfl (Cell.own (.head _) rfl)) rfl rfl (.none rfl) ?_
  refine Q_val (V_sliceData rfl rfl (by assumption)) rfl rfl (.none rfl) ?_
  refine Q_val (V_move rfl rfl) rfl rfl (.none rfl) ?_
  refine Q_val (V_nilCheck rfl rfl) rfl rfl (.none rfl) ?_
  refine Q_val (V_fieldAddr rfl rfl (by decide)) rfl rfl (.none rfl) ?_
  refine Q_val (V_load rfl rfl (Cell.own (.head _) rfl)) rfl rfl (.none rfl) ?_
  refine Q_val (V_lenS rfl rfl) rfl rfl (.none rfl) ?_
  refine Q_endT ?_
  refine G_unsafeString rfl rfl rfl h (by kernel_rfl) rfl rfl (.none rfl) (.tail _ (.head _ _)) ?_
  refine G_val (V_assign rfl rfl) rfl rfl (.none rfl) ?_
  refine G_end (X_then (G_ret ?_))
  refine G_leaveS (.drop _ (.nil _)) (by exact (.cons (.tmp rfl) (.nil))) rfl ?_ ?_
  · exact (.refl _)
  exact ⟨rfl, ⟨rfl, rfl⟩⟩
theorem BString_call (b : Nat) (s : Bld) (h : s.xs.length ≤ 9223372036854775807) :
    CallS Tryd.prog 36 #[.pointer (some ⟨b, 0, none⟩)] E (.bld b s :: L) (fun r E' L' => r = .string (S s.xs) ∧ E' = E ∧ L' = L) := fun w hw => by
  have hc : s.a = none ∨ s.c ≠ 0 := by
    by_cases hx : s.xs = []
    · exact .inl (s.nil' hx)
    · have hok : slOk _ 1 s.a s.xs.length s.c (u8s s.xs) _ := (hw.own _ (.head _)).2
      rcases hok.2 with ⟨h1, _⟩ | ⟨_, _, _, _, h1, _⟩
      · exact .inl h1
      · have : 0 < s.xs.length := List.length_pos_iff.2 hx
        exact .inr (by omega)
  exact BString_parts E L b s.used s.a s.c s.xs h hc w (St.both.1 hw)
end
end Go.Proofs.YtpkingbclcalkaaDoor
set_option linter.unusedSimpArgs false
set_option linter.unusedVariables false
set_option maxHeartbeats 2000000
set_option maxRecDepth 20000
namespace Go.Proofs.YtpkingbclcalkaaDoor
open Go.RowKit
/-- A string cut at the first byte c. -/
def cutB (c : UInt8) : List UInt8 → List UInt8 × List UInt8 × Bool
  | [] => ([], [], false)
  | b :: l => if b = c then ([], l, true) else (b :: (cutB c l).1, (cutB c l).2.1, (cutB c l).2.2)
theorem cutB_found {c : UInt8} : ∀ {s : List UInt8}, (cutB c s).2.2 = true → s = (cutB c s).1 ++ c :: (cutB c s).2.1 := by
  intro s
  induction s with
  | nil => intro h; cases h
  | cons b l ih =>
    intro h
    unfold cutB at h ⊢
    split
    · rename_i e; subst e; rfl
    · rename_i e
      rw [if_neg e] at h
      exact congrArg (b :: ·) (ih h)
theorem cutB_none {c : UInt8} : ∀ {s : List UInt8}, (cutB c s).2.2 = false → (cutB c s).1 = s ∧ (cutB c s).2.1 = [] := by
  intro s
  induction s with
  | nil => intro _; exact ⟨rfl, rfl⟩
  | cons b l ih =>
    intro h
    unfold cutB at h ⊢
    split
    · rename_i e; rw [if_pos e] at h; cases h
    · rename_i e
      rw [if_neg e] at h
      exact ⟨congrArg (b :: ·) (ih h).1, (ih h).2⟩
theorem cutB_notin (c : UInt8) : ∀ (s : List UInt8), c ∉ (cutB c s).1 := by
  intro s
  induction s with
  | nil => intro h; cases h
  | cons b l ih =>
    unfold cutB
    split
    · intro h; cases h
    · rename_i e
      intro h
      rcases List.mem_cons.1 h with h | h
      · exact e h.symm
      · exact ih h
theorem cutB_app {c : UInt8} : ∀ {a : List UInt8} {r : List UInt8}, c ∉ a → cutB c (a ++ c :: r) = (a, r, true) := by
  intro a
  induction a with
  | nil => intro r _; simp [cutB]
  | cons b l ih =>
    intro r h
    have h1 : ¬ b = c := fun e => h (e ▸ .head _)
    rw [List.cons_append, cutB, if_neg h1, ih (fun h2 => h (.tail _ h2))]
theorem cutB_all {c : UInt8} : ∀ {a : List UInt8}, c ∉ a → cutB c a = (a, [], false) := by
  intro a
  induction a with
  | nil => intro _; rfl
  | cons b l ih =>
    intro h
    have h1 : ¬ b = c := fun e => h (e ▸ .head _)
    rw [cutB, if_neg h1, ih (fun h2 => h (.tail _ h2))]
theorem idxB_eq (c : UInt8) : ∀ (s : List UInt8), idxB s c = if (cutB c s).2.2 = true then ((cutB c s).1.length : Int) else -1 := by
  intro s
  induction s with
  | nil => rfl
  | cons b l ih =>
    unfold idxB Lib.indexByte cutB
    unfold idxB at ih
    by_cases e : b = c
    · simp [e]
    · have e2 : (b == c) = false := by simpa using e
      rw [if_neg e, e2]
      simp only [Bool.false_eq_true, if_false]
      rw [ih]
      cases h : (cutB c l).2.2 with
      | true =>
        have e3 : (((cutB c l).1.length : Int) == -1) = false := by rw [beq_eq_false_iff_ne]; omega
        simp only [if_true, e3, Bool.false_eq_true, if_false, List.length_cons]
        omega
      | false => simp
theorem cutB_le (c : UInt8) (s : List UInt8) : (cutB c s).1.length ≤ s.length := by
  cases h : (cutB c s).2.2 with
  | true => have := congrArg List.length (cutB_found h); simp at this; omega
  | false => rw [(cutB_none h).1]; exact Nat.le_refl _
theorem cutB_lt {c : UInt8} {s : List UInt8} (h : (cutB c s).2.2 = true) : s.length = (cutB c s).1.length + 1 + (cutB c s).2.1.length := by
  have := congrArg List.length (cutB_found h); simp at this; omega
theorem cutB_take (c : UInt8) (s : List UInt8) : s.take (cutB c s).1.length = (cutB c s).1 := by
  cases h : (cutB c s).2.2 with
  | true =>
    have := cutB_found h
    generalize (cutB c s).1 = x at *
    rw [this, List.take_left]
  | false => rw [(cutB_none h).1, List.take_length]
theorem cutB_drop {c : UInt8} {s : List UInt8} (h : (cutB c s).2.2 = true) : s.drop ((cutB c s).1.length + 1) = (cutB c s).2.1 := by
  have := cutB_found h
  generalize (cutB c s).1 = x at *
  generalize (cutB c s).2.1 = y at *
  rw [this, ← List.drop_drop, List.drop_left]
  rfl
section
variable (E : Env) (L : List Res)
theorem slIndexByte_call (s : List UInt8) (c : Nat) : CallV Tryd.prog 69 #[.string (S s), .int .u8 c] E L (.int .i64 (idxB s c.toUInt8)) := by
  refine CallS.toV (CallS.intro (l := [_, _]) _ Tryd.func69 rfl Tryd.ntmps69 rfl ?_)
  refine G_seq (G_region ?_)
  refine G_val (V_assign rfl rfl) rfl rfl (.none rfl) ?_
  refine G_end (X_then (G_seq (G_region ?_)))
  refine G_val (V_move rfl rfl) rfl rfl (.none rfl) ?_
  refine G_val (V_move rfl rfl) rfl rfl (.none rfl) ?_
  refine G_val (IndexByteString_val (.mk rfl rfl rfl rfl)) rfl rfl (.none rfl) ?_
  refine G_val (V_assign rfl rfl) rfl rfl (.none rfl) ?_
  refine G_end (X_then (G_ret ?_))
  refine G_leaveS (.nil _) (by exact (.cons (.tmp rfl) (.nil))) rfl ?_ ?_
  · exact (.refl _)
  exact ⟨rfl, rfl⟩
theorem u8_back (c : UInt8) : (c.toNat).toUInt8 = c := by simp [Nat.toUInt8, UInt8.ofNat_toNat]
theorem slIndex1_call (s : List UInt8) (c : UInt8) (hs : s.length ≤ 9223372036854775807) : CallV Tryd.prog 66 #[.string (S s), .string (S [c])] E L (.int .i64 (idxB s c)) := by
  refine CallS.toV (CallS.intro (l := [_, _]) _ Tryd.func66 rfl Tryd.ntmps66 rfl ?_)
  have hl : [c].length = 1 := rfl
  have h0 : [c][0]? = some c := rfl
  by_cases h : [c] = s
  · have e : idxB s c = 0 := by rw [← h]; simp [idxB, Lib.indexByte]
    rw [e]
    refine G_seq (G_region ?_)
    refine G_val (V_assign rfl rfl) rfl rfl (.none rfl) ?_
    refine G_end (X_then (G_seq (G_region ?_)))
    refine G_val (V_move rfl rfl) rfl rfl (.none rfl) ?_
    refine G_val (V_len rfl rfl) rfl rfl (.none rfl) ?_
    refine G_val (V_assign rfl rfl) rfl rfl (.none rfl) ?_
    refine G_end (X_then (G_seq (G_block (G_seq (G_region ?_)))))
    refine G_val (V_move rfl rfl) rfl rfl (.none rfl) ?_
    refine G_val (V_eql rfl rfl rfl) rfl rfl (.none rfl) ?_
    refine G_val (V_move rfl rfl) rfl rfl (.none rfl) ?_
    refine G.bool_f 19 rfl (decide_eq_false (by omega)) ?_
    refine G_val (V_move rfl rfl) rfl rfl (.yes rfl rfl rfl rfl) ?_
    refine G_val (V_move rfl rfl) rfl rfl (.yes rfl rfl rfl rfl) ?_
    refine G_val (V_seql rfl rfl rfl) rfl rfl (.yes rfl rfl rfl rfl) ?_
    refine G_val (V_pick_f rfl rfl rfl) rfl rfl (.none rfl) ?_
    refine G_val (V_assign rfl rfl) rfl rfl (.none rfl) ?_
    refine G_end (X_then ?_)
    refine G_cond_t rfl (decide_eq_true (by omega)) ?_
    refine G_seq (G_region ?_)
    refine G_val (V_assign rfl rfl) rfl rfl (.none rfl) ?_
    refine G_end (X_then (G_ret (X_block_ret (X_then_ret ?_))))
    refine G_leaveS (.nil _) (by exact (.cons (.tmp rfl) (.nil))) rfl ?_ ?_
    · exact (.refl _)
    exact ⟨(by kernel_rfl), rfl⟩
  · have hb := u8_back c
    refine G_seq (G_region ?_)
    refine G_val (V_assign rfl rfl) rfl rfl (.none rfl) ?_
    refine G_end (X_then (G_seq (G_region ?_)))
    refine G_val (V_move rfl rfl) rfl rfl (.none rfl) ?_
    refine G_val (V_len rfl rfl) rfl rfl (.none rfl) ?_
    refine G_val (V_assign rfl rfl) rfl rfl (.none rfl) ?_
    refine G_end (X_then (G_seq (G_block (G_seq (G_region ?_)))))
    refine G_val (V_move rfl rfl) rfl rfl (.none rfl) ?_
    refine G_val (V_eql rfl rfl rfl) rfl rfl (.none rfl) ?_
    refine G_val (V_move rfl rfl) rfl rfl (.none rfl) ?_
    refine G.bool_f 19 rfl (decide_eq_false (by omega)) ?_
    refine G_val (V_move rfl rfl) rfl rfl (.yes rfl rfl rfl rfl) ?_
    refine G_val (V_move rfl rfl) rfl rfl (.yes rfl rfl rfl rfl) ?_
    refine G_val (V_seql rfl rfl rfl) rfl rfl (.yes rfl rfl rfl rfl) ?_
    refine G_val (V_pick_f rfl rfl rfl) rfl rfl (.none rfl) ?_
    refine G_val (V_assign rfl rfl) rfl rfl (.none rfl) ?_
    refine G_end (X_then ?_)
    refine G_cond_f rfl (decide_eq_false (by omega)) ?_
    refine G_seq (G_region ?_)
    refine G_val (V_move rfl rfl) rfl rfl (.none rfl) ?_
    refine G_val (V_eql rfl rfl rfl) rfl rfl (.none rfl) ?_
    refine G_val (V_assign rfl rfl) rfl rfl (.none rfl) ?_
    refine G_end (X_then ?_)
    refine G_cond_t rfl (decide_eq_true (by omega)) ?_
    refine G_seq (G_region ?_)
    refine G_val (V_move rfl rfl) rfl rfl (.none rfl) ?_
    refine G_val (V_move rfl rfl) rfl rfl (.none rfl) ?_
    refine G_val (V_sidx rfl rfl rfl (by omega) (by assumption)) rfl rfl (.none rfl) ?_
    refine G_callv (k := 69) (.mk rfl rfl rfl rfl) rfl rfl (.none rfl) (slIndexByte_call _ _ _ _) ?_
    refine G_val (V_assign rfl rfl) rfl rfl (.none rfl) ?_
    refine G_end (X_then (G_ret (X_block_ret (X_then_ret ?_))))
    refine G_leaveS (.nil _) (by exact (.cons (.tmp rfl) (.nil))) rfl ?_ ?_
    · exact (.refl _)
    exact ⟨(by (simp [resVal, *]; done)), (by rfl)⟩
theorem Index1_call (s : List UInt8) (c : UInt8) (hs : s.length ≤ 9223372036854775807) : CallV Tryd.prog 65 #[.string (S s), .string (S [c])] E L (.int .i64 (idxB s c)) := by
  refine CallS.toV (CallS.intro (l := [_, _]) _ Tryd.func65 rfl Tryd.ntmps65 rfl ?_)
  refine G_seq (G_region ?_)
  refine G_val (V_assign rfl rfl) rfl rfl (.none rfl) ?_
  refine G_end (X_then (G_seq (G_region ?_)))
  refine G_val (V_move rfl rfl) rfl rfl (.none rfl) ?_
  refine G_val (V_move rfl rfl) rfl rfl (.none rfl) ?_
  refine G_callv (k := 66) (.mk rfl rfl rfl rfl) rfl rfl (.none rfl) (slIndex1_call _ _ _ _ (by assumption)) ?_
  refine G_val (V_assign rfl rfl) rfl rfl (.none rfl) ?_
  refine G_end (X_then (G_ret ?_))
  refine G_leaveS (.nil _) (by exact (.cons (.tmp rfl) (.nil))) rfl ?_ ?_
  · exact (.refl _)
  exact ⟨rfl, rfl⟩
theorem slCut1_call (s : List UInt8) (c : UInt8) (hs : s.length ≤ 9223372036854775807) : CallV Tryd.prog 60 #[.string (S s), .string (S [c])] E L (.tuple #[.string (S (cutB c s).1), .string (S (cutB c s).2.1), .bool (cutB c s).2.2]) := by
  refine CallS.toV (CallS.intro (l := [_, _]) _ Tryd.func60 rfl Tryd.ntmps60 rfl ?_)
  have hi := idxB_eq c s
  have hl : [c].length = 1 := rfl
  cases h : (cutB c s).2.2 with
  | true =>
    rw [h, if_pos rfl] at hi
    have hlt := cutB_lt h
    have e1 := cutB_take c s
    have e2 := cutB_drop h
    have e3 : (idxB s c).toNat = (cutB c s).1.length := by omega
    have e4 : (idxB s c + ([c].length : Int)).toNat = (cutB c s).1.length + 1 := by rw [hl]; omega
    refine G_seq (G_region ?_)
    refine G_val (V_assign rfl rfl) rfl rfl (.none rfl) ?_
    refine G_val (V_assign rfl rfl) rfl rfl (.none rfl) ?_
    refine G_val (V_assign rfl rfl) rfl rfl (.none rfl) ?_
    refine G_end (X_then (G_seq (G_seq (G_region ?_))))
    refine G_val (V_move rfl rfl) rfl rfl (.none rfl) ?_
    refine G_val (V_move rfl rfl) rfl rfl (.none rfl) ?_
    refine G_callv (k := 66) (.mk rfl rfl rfl rfl) rfl rfl (.none rfl) (slIndex1_call _ _ _ _ (by assumption)) ?_
    refine G_val (V_assign rfl rfl) rfl rfl (.none rfl) ?_
    refine G_end (X_then (G_seq (G_region ?_)))
    refine G_val (V_move rfl rfl) rfl rfl (.none rfl) ?_
    refine G_val (V_geq rfl rfl rfl) rfl rfl (.none rfl) ?_
    refine G_end (X_then ?_)
    refine G_cond_t rfl (decide_eq_true (by omega)) ?_
    refine G_seq ?_
    refine G_draw mixed (by kernel_rfl) ?_
    refine Q_val (V_move rfl rfl) rfl rfl (.none rfl) ?_
    refine Q_val (V_move rfl rfl) rfl rfl (.none rfl) ?_
    refine Q_val (V_front rfl rfl rfl (by omega) (by omega)) rfl rfl (.none rfl) ?_
    refine Q_val (V_move rfl rfl) rfl rfl (.none rfl) ?_
    refine Q_val (V_move rfl rfl) rfl rfl (.none rfl) ?_
    refine Q_val (V_move rfl rfl) rfl rfl (.none rfl) ?_
    refine Q_val (V_len rfl rfl) rfl rfl (.none rfl) ?_
    refine Q_val (V_add_i64 rfl rfl rfl (by omega) (by omega)) rfl rfl (.none rfl) ?_
    refine Q_val (V_back rfl rfl rfl (by omega) (by omega)) rfl rfl (.none rfl) ?_
    refine Q_val (V_assign rfl rfl) rfl rfl (.none rfl) ?_
    refine Q_val (V_assign rfl rfl) rfl rfl (.none rfl) ?_
    refine Q_val (V_assign rfl rfl) rfl rfl (.none rfl) ?_
    refine Q_end ?_
    refine X_then (G_ret (X_then_ret ?_))
    refine G_leaveS (.nil _) (by exact (.cons (.tmp rfl) (.cons (.tmp rfl) (.cons (.tmp rfl) (.nil))))) rfl ?_ ?_
    · exact (.refl _)
    exact ⟨(by (simp (discharger := omega) only [resVal, e3, e4, e1, e2, if_pos, if_neg]; first | done | rfl)), (by rfl)⟩
  | false =>
    rw [h, if_neg (by decide)] at hi
    rw [(cutB_none h).1, (cutB_none h).2]
    refine G_seq (G_region ?_)
    refine G_val (V_assign rfl rfl) rfl rfl (.none rfl) ?_
    refine G_val (V_assign rfl rfl) rfl rfl (.none rfl) ?_
    refine G_val (V_assign rfl rfl) rfl rfl (.none rfl) ?_
    refine G_end (X_then (G_seq (G_seq (G_region ?_))))
    refine G_val (V_move rfl rfl) rfl rfl (.none rfl) ?_
    refine G_val (V_move rfl rfl) rfl rfl (.none rfl) ?_
    refine G_callv (k := 66) (.mk rfl rfl rfl rfl) rfl rfl (.none rfl) (slIndex1_call _ _ _ _ (by assumption)) ?_
    refine G_val (V_assign rfl rfl) rfl rfl (.none rfl) ?_
    refine G_end (X_then (G_seq (G_region ?_)))
    refine G_val (V_move rfl rfl) rfl rfl (.none rfl) ?_
    refine G_val (V_geq rfl rfl rfl) rfl rfl (.none rfl) ?_
    refine G_end (X_then ?_)
    refine G_cond_f rfl (decide_eq_false (by omega)) ?_
    refine G_skip (X_then (G_seq (G_region ?_)))
    refine G_val (V_move rfl rfl) rfl rfl (.none rfl) ?_
    refine G_val (V_assign rfl rfl) rfl rfl (.none rfl) ?_
    refine G_val (V_assign rfl rfl) rfl rfl (.none rfl) ?_
    refine G_val (V_assign rfl rfl) rfl rfl (.none rfl) ?_
    refine G_end (X_then (G_ret ?_))
    refine G_leaveS (.nil _) (by exact (.cons (.tmp rfl) (.cons (.tmp rfl) (.cons (.tmp rfl) (.nil))))) rfl ?_ ?_
    · exact (.refl _)
    exact ⟨rfl, rfl⟩
theorem Cut1_call (s : List UInt8) (c : UInt8) (hs : s.length ≤ 9223372036854775807) : CallV Tryd.prog 51 #[.string (S s), .string (S [c])] E L (.tuple #[.string (S (cutB c s).1), .string (S (cutB c s).2.1), .bool (cutB c s).2.2]) := by
  refine CallS.toV (CallS.intro (l := [_, _]) _ Tryd.func51 rfl Tryd.ntmps51 rfl ?_)
  refine G_seq (G_region ?_)
  refine G_val (V_assign rfl rfl) rfl rfl (.none rfl) ?_
  refine G_val (V_assign rfl rfl) rfl rfl (.none rfl) ?_
  refine G_val (V_assign rfl rfl) rfl rfl (.none rfl) ?_
  refine G_end (X_then (G_seq (G_region ?_)))
  refine G_val (V_move rfl rfl) rfl rfl (.none rfl) ?_
  refine G_val (V_move rfl rfl) rfl rfl (.none rfl) ?_
  refine G_callv (k := 60) (.mk rfl rfl rfl rfl) rfl rfl (.none rfl) (slCut1_call _ _ _ _ (by assumption)) ?_
  refine G_val (V_extract rfl rfl rfl) rfl rfl (.none rfl) ?_
  refine G_val (V_extract rfl rfl rfl) rfl rfl (.none rfl) ?_
  refine G_val (V_extract rfl rfl rfl) rfl rfl (.none rfl) ?_
  refine G_val (V_assign rfl rfl) rfl rfl (.none rfl) ?_
  refine G_val (V_assign rfl rfl) rfl rfl (.none rfl) ?_
  refine G_val (V_assign rfl rfl) rfl rfl (.none rfl) ?_
  refine G_end (X_then (G_ret ?_))
  refine G_leaveS (.nil _) (by exact (.cons (.tmp rfl) (.cons (.tmp rfl) (.cons (.tmp rfl) (.nil))))) rfl ?_ ?_
  · exact (.refl _)
  exact ⟨rfl, rfl⟩
theorem IndexByte_call (s : List UInt8) (c : Nat) : CallV Tryd.prog 67 #[.string (S s), .int .u8 c] E L (.int .i64 (idxB s c.toUInt8)) := by
  refine CallS.toV (CallS.intro (l := [_, _]) _ Tryd.func67 rfl Tryd.ntmps67 rfl ?_)
  refine G_seq (G_region ?_)
  refine G_val (V_assign rfl rfl) rfl rfl (.none rfl) ?_
  refine G_end (X_then (G_seq (G_region ?_)))
  refine G_val (V_move rfl rfl) rfl rfl (.none rfl) ?_
  refine G_val (V_move rfl rfl) rfl rfl (.none rfl) ?_
  refine G_callv (k := 69) (.mk rfl rfl rfl rfl) rfl rfl (.none rfl) (slIndexByte_call _ _ _ _) ?_
  refine G_val (V_assign rfl rfl) rfl rfl (.none rfl) ?_
  refine G_end (X_then (G_ret ?_))
  refine G_leaveS (.nil _) (by exact (.cons (.tmp rfl) (.nil))) rfl ?_ ?_
  · exact (.refl _)
  exact ⟨rfl, rfl⟩
def sufB (s t : List UInt8) : Bool := decide (t.length ≤ s.length) && decide (s.drop (s.length - t.length) = t)
theorem slHasSuffix_call (s t : List UInt8) (hs : s.length ≤ 9223372036854775807) (ht : t.length ≤ 9223372036854775807) : CallV Tryd.prog 59 #[.string (S s), .string (S t)] E L (.bool (sufB s t)) := by
  refine CallS.toV (CallS.intro (l := [_, _]) _ Tryd.func59 rfl Tryd.ntmps59 rfl ?_)
  refine G_seq (G_region ?_)
  refine G_val (V_assign rfl rfl) rfl rfl (.none rfl) ?_
  refine G_end (X_then (G_seq (G_region ?_)))
  refine G_val (V_move rfl rfl) rfl rfl (.none rfl) ?_
  refine G_val (V_len rfl rfl) rfl rfl (.none rfl) ?_
  refine G_val (V_move rfl rfl) rfl rfl (.none rfl) ?_
  refine G_val (V_len rfl rfl) rfl rfl (.none rfl) ?_
  refine G_val (V_geq rfl rfl rfl) rfl rfl (.none rfl) ?_
  refine G_val (V_move rfl rfl) rfl rfl (.none rfl) ?_
  apply G_joinAnd 10 10 20 rfl
  · intro H1
    dsimp only [List.take]
    simp only [Bool.and_eq_true, Bool.or_eq_true, Bool.not_eq_true', Bool.not_eq_false', Bool.and_eq_false_iff, Bool.or_eq_false_iff, Bool.not_not, decide_eq_true_eq, decide_eq_false_iff_not, ne_eq, Decidable.not_not, Bool.decide_eq_true] at H1
    refine G_val (V_move rfl rfl) rfl rfl (.yes rfl rfl rfl rfl) ?_
    refine G_val (V_move rfl rfl) rfl rfl (.yes rfl rfl rfl rfl) ?_
    refine G_val (V_len rfl rfl) rfl rfl (.yes rfl rfl rfl rfl) ?_
    refine G_val (V_move rfl rfl) rfl rfl (.yes rfl rfl rfl rfl) ?_
    refine G_val (V_len rfl rfl) rfl rfl (.yes rfl rfl rfl rfl) ?_
    refine G_val (V_sub_i64 rfl rfl rfl (by omega) (by omega)) rfl rfl (.yes rfl rfl rfl rfl) ?_
    refine G_val (V_back rfl rfl rfl (by omega) (by omega)) rfl rfl (.yes rfl rfl rfl rfl) ?_
    refine G_val (V_move rfl rfl) rfl rfl (.yes rfl rfl rfl rfl) ?_
    refine G_val (V_seql rfl rfl rfl) rfl rfl (.yes rfl rfl rfl rfl) ?_
    refine G_val (V_pick_t rfl rfl rfl) rfl rfl (.none rfl) ?_
    refine G_end ?_
    exact JQ_end 10 rfl rfl (by kernel_rfl)
  · intro H2
    dsimp only [List.take]
    simp only [Bool.and_eq_true, Bool.or_eq_true, Bool.not_eq_true', Bool.not_eq_false', Bool.and_eq_false_iff, Bool.or_eq_false_iff, Bool.not_not, decide_eq_true_eq, decide_eq_false_iff_not, ne_eq, Decidable.not_not, Bool.decide_eq_true] at H2
    refine G_stay (.no rfl rfl rfl rfl) rfl rfl ?_
    refine G_stay (.no rfl rfl rfl rfl) rfl rfl ?_
    refine G_stay (.no rfl rfl rfl rfl) rfl rfl ?_
    refine G_stay (.no rfl rfl rfl rfl) rfl rfl ?_
    refine G_stay (.no rfl rfl rfl rfl) rfl rfl ?_
    refine G_stay (.no rfl rfl rfl rfl) rfl rfl ?_
    refine G_stay (.no rfl rfl rfl rfl) rfl rfl ?_
    refine G_stay (.no rfl rfl rfl rfl) rfl rfl ?_
    refine G_stay (.no rfl rfl rfl rfl) rfl rfl ?_
    refine G_val (V_pick_f rfl rfl rfl) rfl rfl (.none rfl) ?_
    refine G_end ?_
    exact JQ_end 10 rfl rfl (by kernel_rfl)
  dsimp only [List.drop]
  refine G_val (V_assign rfl rfl) rfl rfl (.none rfl) ?_
  refine G_end (X_then (G_ret ?_))
  refine G_leaveS (.nil _) (by exact (.cons (.tmp rfl) (.nil))) rfl ?_ ?_
  · exact (.refl _)
  exact ⟨(by (simp [resVal, sufB, *]; done)), (by rfl)⟩
end
end Go.Proofs.YtpkingbclcalkaaDoor
set_option linter.unusedSimpArgs false
set_option linter.unusedVariables false
set_option maxHeartbeats 2000000
set_option maxRecDepth 20000
namespace Go.Proofs.YtpkingbclcalkaaDoor
open Go.RowKit
/-- A string in pieces, each but the last one with its c at the end. -/
def splitA (c : UInt8) : List UInt8 → List (List UInt8)
  | [] => [[]]
  | b :: l => if b = c then [b] :: splitA c l else match splitA c l with
    | x :: r => (b :: x) :: r
    | [] => [[b]]
theorem splitA_cons (c b : UInt8) (l : List UInt8) : splitA c (b :: l) = if b = c then [b] :: splitA c l else match splitA c l with
    | x :: r => (b :: x) :: r
    | [] => [[b]] := rfl
theorem cutB_cons (c b : UInt8) (l : List UInt8) : cutB c (b :: l) = if b = c then ([], l, true) else (b :: (cutB c l).1, (cutB c l).2.1, (cutB c l).2.2) := rfl
theorem splitA_cut (c : UInt8) : ∀ s, splitA c s = if (cutB c s).2.2 = true then ((cutB c s).1 ++ [c]) :: splitA c (cutB c s).2.1 else [s] := by
  intro s
  induction s with
  | nil => rfl
  | cons b l ih =>
    rw [splitA_cons, cutB_cons]
    by_cases e : b = c
    · rw [if_pos e, if_pos e, e]; rfl
    · rw [if_neg e, if_neg e]
      simp only
      rw [ih]
      cases h : (cutB c l).2.2 with
      | true => simp
      | false => simp
theorem splitA_found {c : UInt8} {s : List UInt8} (h : (cutB c s).2.2 = true) : splitA c s = ((cutB c s).1 ++ [c]) :: splitA c (cutB c s).2.1 := by rw [splitA_cut, if_pos h]
theorem splitA_none {c : UInt8} {s : List UInt8} (h : (cutB c s).2.2 = false) : splitA c s = [s] := by rw [splitA_cut, if_neg (by rw [h]; decide)]

abbrev lblk (c1 c2 c3 : Nat) (c : UInt8) (s : List UInt8) (L : List Res) : List Res :=
  .blk c1 (.cells #[.string (S [c])] 9 (0, 0)) :: .blk c2 (.cells #[.string (S s)] 9 (0, 0)) :: .blk c3 (.cells #[.int .i64 1] 3 (0, 0)) :: L
theorem iter_lines (c1 c2 c3 : Nat) (c : UInt8) (s : List UInt8) (hs : s.length ≤ 1000000000000) (E : Env) :
    Iter Tryd.prog 63 #[.pointer (some ⟨c1, 0, none⟩), .pointer (some ⟨c2, 0, none⟩), .pointer (some ⟨c3, 0, none⟩)] (fun x : List UInt8 => [Value.string (S x)].toArray) (splitA c s) E (lblk c1 c2 c3 c s []) := by
  intro y E0 L0 Inv InvX hE0 h0 hy
  refine CallS.intro (L := lblk c1 c2 c3 c s L0) (l := [.func (.yield y) #[] #[], .pointer (some ⟨c1, 0, none⟩), .pointer (some ⟨c2, 0, none⟩), .pointer (some ⟨c3, 0, none⟩)]) _ Tryd.func63 rfl Tryd.ntmps63 rfl ?_
  have hc1 : [c].length = 1 := rfl
  refine G_seq (G_seq (G_region ?_))
  refine G_val (V_load rfl rfl (Cell.own1 (.head _))) rfl rfl (.none rfl) ?_
  refine G_val (V_len rfl rfl) rfl rfl (.none rfl) ?_
  refine G_val (V_eql rfl rfl rfl) rfl rfl (.none rfl) ?_
  refine G_end (X_then ?_)
  refine G_cond_f rfl (decide_eq_false (by omega)) ?_
  refine G_skip (X_then (G_seq (G_block ?_)))
  refine G_loop (α := List (List UInt8) × List UInt8 × Env × List Res) (fun _ => [(0, .func (.yield y) #[] #[]), (1, .pointer (some ⟨c1, 0, none⟩)), (2, .pointer (some ⟨c2, 0, none⟩)), (3, .pointer (some ⟨c3, 0, none⟩))]) (fun x => x.2.2.1) (fun x => lblk c1 c2 c3 c x.2.1 x.2.2.2)
    (fun x => E0.Le x.2.2.1 ∧ x.2.1.length ≤ s.length ∧ splitA c s = x.1 ++ splitA c x.2.1 ∧ Inv x.1 x.2.2.1 x.2.2.2) (fun x => x.2.1.length) ([], s, E0, L0)
    ⟨.refl _, Nat.le_refl _, rfl, h0⟩ ⟨rfl, rfl, rfl, rfl, trivial⟩ rfl rfl ?_
  rintro ⟨pre, r, E, L⟩ ⟨hE, hl, hv, hI⟩
  simp only at hE hl hv hI ⊢
  have hi := idxB_eq c r
  cases h : (cutB c r).2.2 with
  | true =>
    rw [h, if_pos rfl] at hi
    have hlt := cutB_lt h
    have hf := cutB_found h
    have e1 : r.take ((cutB c r).1.length + 1) = (cutB c r).1 ++ [c] := by
      generalize (cutB c r).1 = x at *
      generalize (cutB c r).2.1 = y at *
      rw [hf, List.append_cons]
      exact List.take_left' (by simp)
    have e2 := cutB_drop h
    have e3 : (idxB r c + 1).toNat = (cutB c r).1.length + 1 := by omega
    have e4 : (idxB r c + ([c].length : Int)).toNat = (cutB c r).1.length + 1 := by rw [hc1]; omega
    have hsp := splitA_found h
    rw [hsp] at hv
    have hpre : pre ++ [(cutB c r).1 ++ [c]] <+: splitA c s := by rw [hv]; exact ⟨splitA c (cutB c r).2.1, by simp⟩
    refine G_block (G_seq (G_region ?_))
    refine G_val (V_load rfl rfl (Cell.own1 (.tail _ (.head _)))) rfl rfl (.none rfl) ?_
    refine G_val (V_load rfl rfl (Cell.own1 (.head _))) rfl rfl (.none rfl) ?_
    refine G_callv (k := 65) (.mk rfl rfl rfl rfl) rfl rfl (.none rfl) (Index1_call _ _ _ _ (by omega)) ?_
    refine G_val (V_assign rfl rfl) rfl rfl (.none rfl) ?_
    refine G_end (X_then (G_seq (G_seq (G_region ?_))))
    refine G_val (V_move rfl rfl) rfl rfl (.none rfl) ?_
    refine G_val (V_lss rfl rfl rfl) rfl rfl (.none rfl) ?_
    refine G_end (X_then ?_)
    refine G_cond_f rfl (decide_eq_false (by omega)) ?_
    refine G_skip (X_then (G_seq (G_region ?_)))
    refine G_val (V_load rfl rfl (Cell.own1 (.tail _ (.head _)))) rfl rfl (.none rfl) ?_
    refine G_val (V_move rfl rfl) rfl rfl (.none rfl) ?_
    refine G_val (V_load rfl rfl (Cell.own1 (.tail _ (.tail _ (.head _))))) rfl rfl (.none rfl) ?_
    refine G_val (V_add_i64 rfl rfl rfl (by omega) (by omega)) rfl rfl (.none rfl) ?_
    refine G_val (V_front rfl rfl rfl (by omega) (by omega)) rfl rfl (.none rfl) ?_
    refine G_val (V_assign rfl rfl) rfl rfl (.none rfl) ?_
    refine G_end (X_then (G_seq (G_seq (G_region ?_))))
    refine G_val (V_move rfl rfl) rfl rfl (.none rfl) ?_
    refine G_val (V_move rfl rfl) rfl rfl (.none rfl) ?_
    rw [e3, e1]
    refine G_yield (.mk rfl rfl rfl rfl) rfl rfl (.none rfl) (hy pre _ E L (lblk c1 c2 c3 c r []) hE hpre hI) ?_
    rintro r2 E' L' hE' ⟨L3, rfl, (⟨rfl, hI'⟩ | ⟨rfl, hI'⟩)⟩
    · simp only [List.cons_append, List.nil_append]
      refine G_val (V_not rfl rfl) rfl rfl (.none rfl) ?_
      refine G_end (X_then ?_)
      refine G_cond_f rfl (by kernel_rfl) ?_
      refine G_skip (X_then (G_region ?_))
      refine G_val (V_load rfl rfl (Cell.own1 (.tail _ (.head _)))) rfl rfl (.none rfl) ?_
      refine G_val (V_move rfl rfl) rfl rfl (.none rfl) ?_
      refine G_val (V_load rfl rfl (Cell.own1 (.head _))) rfl rfl (.none rfl) ?_
      refine G_val (V_len rfl rfl) rfl rfl (.none rfl) ?_
      refine G_val (V_add_i64 rfl rfl rfl (by omega) (by omega)) rfl rfl (.none rfl) ?_
      refine G_val (V_back rfl rfl rfl (by omega) (by omega)) rfl rfl (.none rfl) ?_
      refine G_store1 rfl rfl rfl rfl rfl rfl (.none rfl) (.tail _ (.head _ _ _)) ?_
      refine G_end (X_block (X_then ?_))
      rw [e4, e2]
      exact G_again (pre ++ [(cutB c r).1 ++ [c]], (cutB c r).2.1, E', L3) ⟨hE.trans hE', by simp only; omega, by simp only; rw [hv]; simp, hI'⟩ (by simp only; omega) ⟨rfl, rfl, rfl, rfl, trivial⟩ rfl rfl
    · refine G_val (V_not rfl rfl) rfl rfl (.none rfl) ?_
      refine G_end (X_then ?_)
      refine G_cond_t rfl (by kernel_rfl) ?_
      refine G_ret (X_then_ret (X_block_ret (X_then_ret (X_block_ret (X_then_ret ?_)))))
      exact G_leave_n 0 .nil rfl (hE.trans hE') ⟨lblk c1 c2 c3 c r [], L3, rfl, .inr ⟨_, hpre, hI'⟩⟩
  | false =>
    rw [h, if_neg (by decide)] at hi
    have hsp := splitA_none h
    rw [hsp] at hv
    have hpre : pre ++ [r] <+: splitA c s := by rw [hv]; exact List.prefix_refl _
    refine G_block (G_seq (G_region ?_))
    refine G_val (V_load rfl rfl (Cell.own1 (.tail _ (.head _)))) rfl rfl (.none rfl) ?_
    refine G_val (V_load rfl rfl (Cell.own1 (.head _))) rfl rfl (.none rfl) ?_
    refine G_callv (k := 65) (.mk rfl rfl rfl rfl) rfl rfl (.none rfl) (Index1_call _ _ _ _ (by omega)) ?_
    refine G_val (V_assign rfl rfl) rfl rfl (.none rfl) ?_
    refine G_end (X_then (G_seq (G_seq (G_region ?_))))
    refine G_val (V_move rfl rfl) rfl rfl (.none rfl) ?_
    refine G_val (V_lss rfl rfl rfl) rfl rfl (.none rfl) ?_
    refine G_end (X_then ?_)
    refine G_cond_t rfl (decide_eq_true (by omega)) ?_
    refine G_exit (X_then_exit ?_)
    refine X_block_miss rfl ?_
    refine X_then_exit (X_block_hit (X_then (G_region ?_)))
    refine G_val (V_move rfl rfl) rfl rfl (.none rfl) ?_
    refine G_val (V_load rfl rfl (Cell.own1 (.tail _ (.head _)))) rfl rfl (.none rfl) ?_
    refine G_yield (.mk rfl rfl rfl rfl) rfl rfl (.none rfl) (hy pre _ E L (lblk c1 c2 c3 c r []) hE hpre hI) ?_
    rintro r2 E' L' hE' ⟨L3, rfl, (⟨rfl, hI'⟩ | ⟨rfl, hI'⟩)⟩
    · refine G_end ?_
      exact G_leave_n 0 .nil rfl (hE.trans hE') ⟨lblk c1 c2 c3 c r [], L3, rfl, .inl (by rw [hv]; exact hI')⟩
    · refine G_end ?_
      exact G_leave_n 0 .nil rfl (hE.trans hE') ⟨lblk c1 c2 c3 c r [], L3, rfl, .inr ⟨_, hpre, hI'⟩⟩
section
variable (E : Env) (L : List Res)
theorem splitSeq_call (s : List UInt8) (c : UInt8) : CallS Tryd.prog 58 #[.string (S s), .string (S [c]), .int .i64 1] E L (fun r E' L' => ∃ c1 c2 c3, r = .func (.func 63) #[] #[.pointer (some ⟨c1, 0, none⟩), .pointer (some ⟨c2, 0, none⟩), .pointer (some ⟨c3, 0, none⟩)] ∧ E = E' ∧ L' = lblk c1 c2 c3 c s L) := by
  refine CallS.intro (l := [_, _, _]) _ Tryd.func58 rfl Tryd.ntmps58 rfl ?_
  refine G_seq (G_region ?_)
  (refine G_box1 rfl rfl rfl rfl rfl (.none rfl) ?_; intro b3)
  (refine G_box1 rfl rfl rfl rfl rfl (.none rfl) ?_; intro b4)
  (refine G_box1 rfl rfl rfl rfl rfl (.none rfl) ?_; intro b5)
  refine G_val (V_assign rfl rfl) rfl rfl (.none rfl) ?_
  refine G_end (X_then (G_seq (G_region ?_)))
  refine G_val (V_makeFunc rfl rfl rfl) rfl rfl (.none rfl) ?_
  refine G_val (V_assign rfl rfl) rfl rfl (.none rfl) ?_
  refine G_end (X_then (G_ret ?_))
  refine G.front (.tail _ (.tail _ (.head _ _))) ?_
  refine G.front (.tail _ (.tail _ (.head _ _))) ?_
  refine G_leaveS (.keep _ (.keep _ (.keep _ (.nil _)))) (by exact (.cons (.tmp rfl) (.nil))) rfl ?_ ?_
  · exact (.refl _)
  exact ⟨_, ⟨_, ⟨_, ⟨rfl, ⟨rfl, rfl⟩⟩⟩⟩⟩
theorem SplitAfterSeq_call (s : List UInt8) (c : UInt8) : CallS Tryd.prog 49 #[.string (S s), .string (S [c])] E L (fun r E' L' => ∃ c1 c2 c3, r = .func (.func 63) #[] #[.pointer (some ⟨c1, 0, none⟩), .pointer (some ⟨c2, 0, none⟩), .pointer (some ⟨c3, 0, none⟩)] ∧ E = E' ∧ L' = lblk c1 c2 c3 c s L) := by
  refine CallS.intro (l := [_, _]) _ Tryd.func49 rfl Tryd.ntmps49 rfl ?_
  refine G_seq (G_region ?_)
  refine G_val (V_assign rfl rfl) rfl rfl (.none rfl) ?_
  refine G_end (X_then (G_seq (G_region ?_)))
  refine G_val (V_move rfl rfl) rfl rfl (.none rfl) ?_
  refine G_val (V_move rfl rfl) rfl rfl (.none rfl) ?_
  refine G_val (V_move rfl rfl) rfl rfl (.none rfl) ?_
  refine G_val (V_len rfl rfl) rfl rfl (.none rfl) ?_
  refine G_call (k := 58) (.mk rfl rfl rfl rfl) rfl rfl (.none rfl) (splitSeq_call _ _ _ _) ?_
  rintro r1 E2 L3 hE4 ⟨z5, ⟨z6, ⟨z7, ⟨rfl, ⟨rfl, rfl⟩⟩⟩⟩⟩
  refine G_val (V_assign rfl rfl) rfl rfl (.none rfl) ?_
  refine G_end (X_then (G_ret ?_))
  refine G_leaveS (.nil _) (by exact (.cons (.tmp rfl) (.nil))) rfl ?_ ?_
  · exact (.refl _)
  exact ⟨_, ⟨_, ⟨_, ⟨rfl, ⟨rfl, rfl⟩⟩⟩⟩⟩
end
end Go.Proofs.YtpkingbclcalkaaDoor
namespace Go.Proofs.YtpkingbclcalkaaDoor
open Go.RowKit
abbrev digs : List UInt8 := [48, 49, 50, 51, 52, 53, 54, 55, 56, 57, 97, 98, 99, 100, 101, 102]
def hx (n : Nat) : UInt8 := digs.getD n 0
theorem hx_get {n : Nat} (h : n < 16) : digs[n]? = some (hx n) := by
  rw [hx, List.getD_eq_getElem?_getD]
  have : n < digs.length := h
  rw [List.getElem?_eq_getElem this]; rfl
/-- Hexadecimal digits. -/
def hexM : List UInt8 → List UInt8
  | [] => []
  | b :: l => hx (b.toNat / 16) :: hx (b.toNat % 16) :: hexM l
theorem hexM_app (a b : List UInt8) : hexM (a ++ b) = hexM a ++ hexM b := by
  induction a with
  | nil => rfl
  | cons x a ih => simp [hexM, ih]
theorem hexM_len (l : List UInt8) : (hexM l).length = 2 * l.length := by
  induction l with
  | nil => rfl
  | cons x a ih => simp [hexM, ih]; omega
/-- The value of a hexadecimal digit; 31 if it is none. -/
def digM (c : UInt8) : Nat := if 48 ≤ c.toNat ∧ c.toNat ≤ 57 then c.toNat - 48 else if 97 ≤ c.toNat ∧ c.toNat ≤ 102 then c.toNat - 87 else 31
theorem digM_all : ∀ c : UInt8, (idxB digs c = if digM c < 16 then (digM c : Int) else -1) := by
  intro c
  obtain ⟨n, hn, rfl⟩ : ∃ n : Nat, n < 256 ∧ c = UInt8.ofNat n := ⟨c.toNat, c.toNat_lt, by simp⟩
  have : ((List.range 256).all fun n => decide (idxB digs (UInt8.ofNat n) = if digM (UInt8.ofNat n) < 16 then (digM (UInt8.ofNat n) : Int) else -1)) = true := by kernel_rfl
  exact of_decide_eq_true (List.all_eq_true.1 this n (List.mem_range.2 hn))
theorem digM_hx {n : Nat} (h : n < 16) : digM (hx n) = n := by
  have : ((List.range 16).all fun n => decide (digM (hx n) = n)) = true := by kernel_rfl
  exact of_decide_eq_true (List.all_eq_true.1 this n (List.mem_range.2 h))
theorem hx_digM {c : UInt8} (h : digM c < 16) : hx (digM c) = c := by
  obtain ⟨n, hn, rfl⟩ : ∃ n : Nat, n < 256 ∧ c = UInt8.ofNat n := ⟨c.toNat, c.toNat_lt, by simp⟩
  have : ((List.range 256).all fun n => decide (digM (UInt8.ofNat n) < 16 → hx (digM (UInt8.ofNat n)) = UInt8.ofNat n)) = true := by kernel_rfl
  exact of_decide_eq_true (List.all_eq_true.1 this n (List.mem_range.2 hn)) h
theorem digM_le (c : UInt8) : digM c < 16 ∨ digM c = 31 := by
  unfold digM
  split
  · left; omega
  · split
    · left; omega
    · exact .inr rfl
def byteM (h l : Nat) : UInt8 := UInt8.ofNat (16 * h + l)
/-- What hexadecimal digits write. -/
def unhexM : List UInt8 → Option (List UInt8)
  | [] => some []
  | [_] => none
  | a :: b :: r => if digM a < 16 ∧ digM b < 16 then (unhexM r).map (byteM (digM a) (digM b) :: ·) else none
theorem unhexM_hex : ∀ l : List UInt8, unhexM (hexM l) = some l := by
  intro l
  induction l with
  | nil => rfl
  | cons b l ih =>
    have hb := b.toNat_lt
    have h1 : b.toNat / 16 < 16 := by omega
    have h2 : b.toNat % 16 < 16 := by omega
    simp only [hexM, unhexM, digM_hx h1, digM_hx h2, h1, h2, and_self, if_true, ih, Option.map_some]
    congr 2
    simp only [byteM]
    rw [show 16 * (b.toNat / 16) + b.toNat % 16 = b.toNat by omega]
    simp
theorem byteM_split {h l : Nat} (hh : h < 16) (hl : l < 16) : (byteM h l).toNat / 16 = h ∧ (byteM h l).toNat % 16 = l := by
  have : (byteM h l).toNat = 16 * h + l := by
    simp only [byteM, UInt8.toNat_ofNat']
    omega
  omega
theorem hex_unhexM : ∀ (n : Nat) (s t : List UInt8), s.length ≤ n → unhexM s = some t → hexM t = s := by
  intro n
  induction n with
  | zero =>
    intro s t hs h
    have : s = [] := List.eq_nil_of_length_eq_zero (by omega)
    subst this
    simp only [unhexM, Option.some.injEq] at h
    subst h; rfl
  | succ n ih =>
    intro s t hs h
    match s, h with
    | [], h => simp only [unhexM, Option.some.injEq] at h; subst h; rfl
    | [a], h => cases h
    | a :: b :: r, h =>
      simp only [unhexM] at h
      split at h
      · rename_i hd
        rw [Option.map_eq_some_iff] at h
        obtain ⟨u, h1, rfl⟩ := h
        have := ih r u (by simp at hs; omega) h1
        obtain ⟨e1, e2⟩ := byteM_split hd.1 hd.2
        simp only [hexM, e1, e2, hx_digM hd.1, hx_digM hd.2, this]
      · cases h
theorem unhexM_len : ∀ (n : Nat) (s t : List UInt8), s.length ≤ n → unhexM s = some t → s.length = 2 * t.length := by
  intro n s t hs h
  rw [← hex_unhexM n s t hs h, hexM_len]
theorem unhexM_odd {s : List UInt8} (h : s.length % 2 ≠ 0) : unhexM s = none := by
  cases e : unhexM s with
  | none => rfl
  | some t => have := unhexM_len s.length s t (Nat.le_refl _) e; omega

/-! Numbers -/
def decM (n : Nat) : List UInt8 := if n < 10 then [UInt8.ofNat (48 + n)] else if n < 100 then [UInt8.ofNat (48 + n / 10), UInt8.ofNat (48 + n % 10)] else [UInt8.ofNat (48 + n / 100), UInt8.ofNat (48 + n / 10 % 10), UInt8.ofNat (48 + n % 10)]
def isD (c : UInt8) : Bool := decide (48 ≤ c.toNat) && decide (c.toNat ≤ 57)
/-- The number that digits write, 1000 if it is greater. -/
def accM (n : Nat) (l : List UInt8) : Nat := l.foldl (fun n c => min (10 * n + (c.toNat - 48)) 1000) n
def numM (s : List UInt8) : Int × Int :=
  if s = [] ∨ (s.head? = some 48 ∧ 1 < s.length) then (0, 3) else if s.all isD = false then (0, 3) else if 999 < accM 0 s then (0, 2) else ((accM 0 s : Nat), 0)
def feedM (s : List UInt8) : List UInt8 × Int :=
  if s = [45] then ([], 0) else match unhexM s with
    | none => ([], 3)
    | some t => if t = [] then ([], 3) else if 1000 < t.length then ([], 4) else (t, 0)
/-- The call of a line without its line feed, and the error. -/
def lineM (s : List UInt8) : Cl × Int :=
  if (kindM (cutB 32 s).1).2 ≠ 0 then (Cl.zero, (kindM (cutB 32 s).1).2)
  else if (kindM (cutB 32 s).1).1 ≠ 1 ∧ (kindM (cutB 32 s).1).1 ≠ 3 then (if (cutB 32 s).2.2 = true then (Cl.zero, 3) else (⟨(kindM (cutB 32 s).1).1, 0, []⟩, 0))
  else if (cutB 32 s).2.2 = false then (Cl.zero, 3)
  else if (kindM (cutB 32 s).1).1 = 1 then (if (feedM (cutB 32 s).2.1).2 ≠ 0 then (Cl.zero, (feedM (cutB 32 s).2.1).2) else (⟨1, 0, (feedM (cutB 32 s).2.1).1⟩, 0))
  else (if (numM (cutB 32 s).2.1).2 ≠ 0 then (Cl.zero, (numM (cutB 32 s).2.1).2) else (⟨3, (numM (cutB 32 s).2.1).1, []⟩, 0))
end Go.Proofs.YtpkingbclcalkaaDoor
set_option linter.unusedSimpArgs false
set_option linter.unusedVariables false
set_option maxHeartbeats 2000000
set_option maxRecDepth 20000
namespace Go.Proofs.YtpkingbclcalkaaDoor
open Go.RowKit
theorem u8s_get {l : List UInt8} {k : Nat} {b : UInt8} (h : l[k]? = some b) : (u8s l)[k]? = some (.int .u8 b.toNat) := by simp [u8s, h]
theorem shr4 (b : UInt8) : shrI .u8 (b.toNat : Int) 4 = ((b.toNat / 16 : Nat) : Int) := shrI_nat (k := .u8) (s := 4) (by decide)
theorem and15 (b : UInt8) : andI .u8 (b.toNat : Int) 15 = ((b.toNat % 16 : Nat) : Int) := by
  have hb := b.toNat_lt
  have := andI_nat (k := .u8) (n := b.toNat) (m := 15) (by simp [IntKind.max, IntKind.signed, IntKind.bits]; omega) (by decide)
  rw [show ((15 : Nat) : Int) = 15 from rfl] at this
  rw [this]
  congr 1
  exact Nat.and_two_pow_sub_one_eq_mod _ 4
theorem hx_lt (n : Nat) : (hx n).toNat < 256 := (hx n).toNat_lt
theorem hx_u8 (n : Nat) : ((hx n).toNat).toUInt8 = hx n := u8_back _
section
variable (E : Env) (L : List Res)
theorem hex_call (p : Option Addr) (c : Nat) (l : List UInt8) (hl : SlE E 1 p l.length (u8s l)) (hn : l.length ≤ 1000000) : CallS Tryd.prog 44 #[.slice p l.length c] E L (fun r E' L' => r = .string (S (hexM l)) ∧ E = E' ∧ L' = L) := by
  refine CallS.intro (l := [_]) _ Tryd.func44 rfl Tryd.ntmps44 rfl ?_
  refine G_seq (G_region ?_)
  refine G_val (V_assign rfl rfl) rfl rfl (.none rfl) ?_
  refine G_end (X_then (G_seq (G_region ?_)))
  (refine G_alloc rfl rfl rfl (.none rfl) ?_; intro b3)
  refine G_end (X_then (G_seq (G_seq (G_region ?_))))
  refine G_val (V_move rfl rfl) rfl rfl (.none rfl) ?_
  refine G_val (V_lenS rfl rfl) rfl rfl (.none rfl) ?_
  refine G_val (V_move rfl rfl) rfl rfl (.none rfl) ?_
  refine G_end (X_then (G_block ?_))
  refine G.bldNew ?_
  refine G_loop (α := Nat × Bld) (fun x => [(3, .pointer (some ⟨b3, 0, none⟩)), (6, .slice p l.length c), (7, .int .i64 l.length), (8, .int .i64 x.1)]) (fun _ => E) (fun x => .bld b3 x.2 :: L)
    (fun x => x.1 ≤ l.length ∧ x.2.xs = hexM (l.take x.1)) (fun x => l.length - x.1) (0, Bld.new) ⟨Nat.zero_le _, rfl⟩ ⟨rfl, rfl, rfl, rfl, trivial⟩ rfl rfl ?_
  rintro ⟨i, s⟩ ⟨hi, hs⟩
  simp only at hi hs ⊢
  have hsl := congrArg List.length hs
  rw [hexM_len, List.length_take] at hsl
  by_cases hlt : i < l.length
  · have hx0 := u8s_get (List.getElem?_eq_getElem hlt)
    have hb := l[i].toNat_lt
    have e1 := shr4 l[i]
    have e2 := and15 l[i]
    have g1 : digs[(shrI .u8 (l[i].toNat : Int) 4).toNat]? = some (hx (l[i].toNat / 16)) := by rw [e1]; exact hx_get (by omega)
    have g2 : digs[(andI .u8 (l[i].toNat : Int) 15).toNat]? = some (hx (l[i].toNat % 16)) := by rw [e2]; exact hx_get (by omega)
    have k1 := hx_lt (l[i].toNat / 16)
    have k2 := hx_lt (l[i].toNat % 16)
    refine G_seq (G_region ?_)
    refine G_val (V_lss rfl rfl rfl) rfl rfl (.none rfl) ?_
    refine G_end (X_then (G_seq ?_))
    refine G_cond_t rfl (decide_eq_true (by omega)) ?_
    refine G_skip (X_then (G_seq (G_block (G_seq (G_region ?_)))))
    refine G_val (V_idxAddr rfl rfl rfl (SlE.rd (by assumption)) (by omega) (by omega)) rfl rfl (.none rfl) ?_
    refine G_val (V_loadS rfl rfl (SlE.rd (by assumption)) (by assumption) (by simp)) rfl rfl (.none rfl) ?_
    refine G_val (V_assign rfl rfl) rfl rfl (.none rfl) ?_
    refine G_end (X_then (G_seq (G_region ?_)))
    refine G_val (V_move rfl rfl) rfl rfl (.none rfl) ?_
    refine G_val (V_shr rfl rfl rfl (by omega)) rfl rfl (.none rfl) ?_
    refine G_val (V_sidx rfl rfl rfl (by omega) (by assumption)) rfl rfl (.none rfl) ?_
    refine G_call (k := 56) (.mk rfl rfl rfl rfl) rfl rfl (.none rfl) (WriteByte_call _ _ _ _ _ (by assumption) (by omega)) ?_
    rintro r1 E2 L3 hE4 ⟨z5, ⟨rfl, ⟨rfl, ⟨Z6, ⟨Z7, rfl⟩⟩⟩⟩⟩
    replace hl := hl.mono hE4
    refine G_end (X_then (G_region ?_))
    refine G_val (V_move rfl rfl) rfl rfl (.none rfl) ?_
    refine G_val (V_and rfl rfl rfl) rfl rfl (.none rfl) ?_
    refine G_val (V_sidx rfl rfl rfl (by omega) (by assumption)) rfl rfl (.none rfl) ?_
    refine G_call (k := 56) (.mk rfl rfl rfl rfl) rfl rfl (.none rfl) (WriteByte_call _ _ _ _ _ (by assumption) (by omega)) ?_
    rintro r8 E9 L10 hE11 ⟨z12, ⟨rfl, ⟨rfl, ⟨Z13, ⟨Z14, rfl⟩⟩⟩⟩⟩
    replace hl := hl.mono hE11
    refine G_end (X_block (X_then (G_region ?_)))
    refine G_val (V_add_i64 rfl rfl rfl (by omega) (by omega)) rfl rfl (.none rfl) ?_
    refine G_val (V_move rfl rfl) rfl rfl (.none rfl) ?_
    refine G_end (X_then ?_)

    rw [hx_u8] at Z6 Z13
    refine G_again (i + 1, z12) ⟨hlt, ?_⟩ (by simp only; omega) ⟨rfl, rfl, rfl, rfl, trivial⟩ rfl rfl
    simp only
    rw [Z13, Z6, hs, List.take_succ_eq_append_getElem hlt, hexM_app]
    simp [hexM]
  · have e : l.take i = l := List.take_of_length_le (by omega)
    rw [e] at hs
    refine G_seq (G_region ?_)
    refine G_val (V_lss rfl rfl rfl) rfl rfl (.none rfl) ?_
    refine G_end (X_then (G_seq ?_))
    refine G_cond_f rfl (decide_eq_false (by omega)) ?_
    refine G_exit (X_then_exit (X_then_exit (X_block_hit (X_then (G_seq (G_region ?_))))))
    refine G_call (k := 36) (.mk rfl rfl rfl rfl) rfl rfl (.none rfl) (BString_call _ _ _ _ (by omega)) ?_
    rintro r1 E2 L3 hE4 ⟨rfl, ⟨rfl, rfl⟩⟩
    replace hl := hl.mono hE4
    refine G_val (V_assign rfl rfl) rfl rfl (.none rfl) ?_
    refine G_end (X_then (G_ret ?_))
    refine G_leaveS (.nil _) (by exact (.cons (.tmp rfl) (.nil))) rfl ?_ ?_
    · exact (.refl _)
    exact ⟨(by (simp [resVal, *]; done)), ⟨(by rfl), (by rfl)⟩⟩
theorem decimal1_call (n : Nat) (h : n < 10) : CallV Tryd.prog 45 #[.int .i64 n] E L (.string (S (decM n))) := by
  refine CallS.toV (CallS.intro (l := [_]) _ Tryd.func45 rfl Tryd.ntmps45 rfl ?_)
  rw [decM, if_pos h]
  refine G_seq (G_region ?_)
  refine G_val (V_assign rfl rfl) rfl rfl (.none rfl) ?_
  refine G_end (X_then (G_seq (G_seq (G_region ?_))))
  refine G_val (V_move rfl rfl) rfl rfl (.none rfl) ?_
  refine G_val (V_lss rfl rfl rfl) rfl rfl (.none rfl) ?_
  refine G_end (X_then ?_)
  refine G_cond_t rfl (decide_eq_true (by omega)) ?_
  refine G_seq (G_region ?_)
  refine G_val (V_move rfl rfl) rfl rfl (.none rfl) ?_
  refine G_val (V_add_i64 rfl rfl rfl (by omega) (by omega)) rfl rfl (.none rfl) ?_
  refine G_val (V_conv_i32 rfl rfl (by omega) (by omega)) rfl rfl (.none rfl) ?_
  refine G_val (V_r2s rfl rfl (by omega) (by omega)) rfl rfl (.none rfl) ?_
  refine G_val (V_assign rfl rfl) rfl rfl (.none rfl) ?_
  refine G_end (X_then (G_ret (X_then_ret ?_)))
  refine G_leaveS (.nil _) (by exact (.cons (.tmp rfl) (.nil))) rfl ?_ ?_
  · exact (.refl _)
  exact ⟨rfl, rfl⟩
theorem decM_len (n : Nat) : (decM n).length ≤ 3 := by
  unfold decM
  split
  · exact Nat.le_of_ble_eq_true rfl
  · split <;> exact Nat.le_of_ble_eq_true rfl
theorem decimal2_call (n : Nat) (h : n < 100) (h0 : ¬ n < 10) : CallV Tryd.prog 45 #[.int .i64 n] E L (.string (S (decM n))) := by
  refine CallS.toV (CallS.intro (l := [_]) _ Tryd.func45 rfl Tryd.ntmps45 rfl ?_)
  have e : decM n = decM (n / 10) ++ [UInt8.ofNat (48 + n % 10)] := by rw [decM, if_neg h0, if_pos h, decM, if_pos (by omega)]; rfl
  have hd := decM_len (n / 10)
  have e3 : UInt8.ofNat (48 + (n : Int) % 10).toNat = UInt8.ofNat (48 + n % 10) := congrArg UInt8.ofNat (by omega)
  rw [e, ← e3]
  refine G_seq (G_region ?_)
  refine G_val (V_assign rfl rfl) rfl rfl (.none rfl) ?_
  refine G_end (X_then (G_seq (G_seq (G_region ?_))))
  refine G_val (V_move rfl rfl) rfl rfl (.none rfl) ?_
  refine G_val (V_lss rfl rfl rfl) rfl rfl (.none rfl) ?_
  refine G_end (X_then ?_)
  refine G_cond_f rfl (decide_eq_false (by omega)) ?_
  refine G_skip (X_then (G_seq (G_region ?_)))
  refine G_val (V_move rfl rfl) rfl rfl (.none rfl) ?_
  refine G_val (V_quo_n rfl rfl rfl (by omega) (by omega) (by simp [IntKind.max, IntKind.signed, IntKind.bits]; omega)) rfl rfl (.none rfl) ?_
  refine G_callv (k := 45) (.mk rfl rfl rfl rfl) rfl rfl (.none rfl) (decimal1_call _ _ _ (by (simp; omega))) ?_
  refine G_val (V_move rfl rfl) rfl rfl (.none rfl) ?_
  refine G_val (V_rem_n rfl rfl rfl (by omega) (by omega)) rfl rfl (.none rfl) ?_
  refine G_val (V_add_i64 rfl rfl rfl (by omega) (by omega)) rfl rfl (.none rfl) ?_
  refine G_val (V_conv_i32 rfl rfl (by omega) (by omega)) rfl rfl (.none rfl) ?_
  refine G_val (V_r2s rfl rfl (by omega) (by omega)) rfl rfl (.none rfl) ?_
  refine G_val (V_cat rfl rfl rfl (by simp; omega)) rfl rfl (.none rfl) ?_
  refine G_val (V_assign rfl rfl) rfl rfl (.none rfl) ?_
  refine G_end (X_then (G_ret ?_))
  refine G_leaveS (.nil _) (by exact (.cons (.tmp rfl) (.nil))) rfl ?_ ?_
  · exact (.refl _)
  exact ⟨rfl, rfl⟩
theorem decimal3_call (n : Nat) (h : n < 1000) (h0 : ¬ n < 100) : CallV Tryd.prog 45 #[.int .i64 n] E L (.string (S (decM n))) := by
  refine CallS.toV (CallS.intro (l := [_]) _ Tryd.func45 rfl Tryd.ntmps45 rfl ?_)
  have e : decM n = decM (n / 10) ++ [UInt8.ofNat (48 + n % 10)] := by rw [decM, if_neg (by omega), if_neg h0, decM, if_neg (by omega), if_pos (by omega)]; rw [show n / 10 / 10 = n / 100 by omega]; rfl
  have hd := decM_len (n / 10)
  have e3 : UInt8.ofNat (48 + (n : Int) % 10).toNat = UInt8.ofNat (48 + n % 10) := congrArg UInt8.ofNat (by omega)
  rw [e, ← e3]
  refine G_seq (G_region ?_)
  refine G_val (V_assign rfl rfl) rfl rfl (.none rfl) ?_
  refine G_end (X_then (G_seq (G_seq (G_region ?_))))
  refine G_val (V_move rfl rfl) rfl rfl (.none rfl) ?_
  refine G_val (V_lss rfl rfl rfl) rfl rfl (.none rfl) ?_
  refine G_end (X_then ?_)
  refine G_cond_f rfl (decide_eq_false (by omega)) ?_
  refine G_skip (X_then (G_seq (G_region ?_)))
  refine G_val (V_move rfl rfl) rfl rfl (.none rfl) ?_
  refine G_val (V_quo_n rfl rfl rfl (by omega) (by omega) (by simp [IntKind.max, IntKind.signed, IntKind.bits]; omega)) rfl rfl (.none rfl) ?_
  refine G_callv (k := 45) (.mk rfl rfl rfl rfl) rfl rfl (.none rfl) (decimal2_call _ _ _ (by (simp; omega)) (by (simp; omega))) ?_
  refine G_val (V_move rfl rfl) rfl rfl (.none rfl) ?_
  refine G_val (V_rem_n rfl rfl rfl (by omega) (by omega)) rfl rfl (.none rfl) ?_
  refine G_val (V_add_i64 rfl rfl rfl (by omega) (by omega)) rfl rfl (.none rfl) ?_
  refine G_val (V_conv_i32 rfl rfl (by omega) (by omega)) rfl rfl (.none rfl) ?_
  refine G_val (V_r2s rfl rfl (by omega) (by omega)) rfl rfl (.none rfl) ?_
  refine G_val (V_cat rfl rfl rfl (by simp; omega)) rfl rfl (.none rfl) ?_
  refine G_val (V_assign rfl rfl) rfl rfl (.none rfl) ?_
  refine G_end (X_then (G_ret ?_))
  refine G_leaveS (.nil _) (by exact (.cons (.tmp rfl) (.nil))) rfl ?_ ?_
  · exact (.refl _)
  exact ⟨rfl, rfl⟩
end
end Go.Proofs.YtpkingbclcalkaaDoor
set_option linter.unusedSimpArgs false
set_option linter.unusedVariables false
set_option maxHeartbeats 2000000
set_option maxRecDepth 20000
namespace Go.Proofs.YtpkingbclcalkaaDoor
open Go.RowKit
theorem dig_and (b : UInt8) : andI .u8 (IntKind.u8.wrap (idxB digs b)) 31 = (digM b : Int) := by
  rw [digM_all]
  have h31 := digM_le b
  by_cases h : digM b < 16
  · rw [if_pos h, wrap_u8 (by omega) (by omega)]
    have := andI_nat (k := .u8) (n := digM b) (m := 31) (by simp [IntKind.max, IntKind.signed, IntKind.bits]; omega) (by decide)
    rw [show ((31 : Nat) : Int) = 31 from rfl] at this
    rw [this]
    have e : digM b &&& 31 = digM b % 32 := Nat.and_two_pow_sub_one_eq_mod _ 5
    rw [e]
    congr 1
    omega
  · rw [if_neg h]
    have : digM b = 31 := by omega
    rw [this]
    decide
theorem hl_or {h l : Nat} (hh : h < 16) (hl : l < 16) : orI .u8 (shlI .u8 (h : Int) 4) (l : Int) = ((byteM h l).toNat : Int) := by
  have e1 : shlI .u8 (h : Int) 4 = ((h * 2 ^ 4 : Nat) : Int) := shlI_nat (k := .u8) (s := 4) (by decide) (by simp [IntKind.max, IntKind.signed, IntKind.bits]; omega)
  have e2 : h * 2 ^ 4 ||| l = 16 * h + l := by
    have := Nat.two_pow_add_eq_or_of_lt (i := 4) (b := l) (by omega) h
    rw [Nat.mul_comm h, ← this]
  rw [e1, orI_nat (by simp [IntKind.max, IntKind.signed, IntKind.bits]; omega) (by simp [IntKind.max, IntKind.signed, IntKind.bits]; omega) (by rw [e2]; simp [IntKind.max, IntKind.signed, IntKind.bits]; omega), e2]
  simp only [byteM, UInt8.toNat_ofNat']
  congr 1
  omega
theorem drop2 {s : List UInt8} {i : Nat} (h : i + 1 < s.length) : s.drop i = s[i] :: s[i + 1] :: s.drop (i + 2) := by
  rw [List.drop_eq_getElem_cons (by omega), List.drop_eq_getElem_cons h]
theorem unhexM_two {a b : UInt8} {r : List UInt8} : unhexM (a :: b :: r) = if digM a < 16 ∧ digM b < 16 then (unhexM r).map (byteM (digM a) (digM b) :: ·) else none := rfl
theorem byteM_u8 (h l : Nat) : ((byteM h l).toNat).toUInt8 = byteM h l := u8_back _
/-- The digits read so far. -/
def unhexI (s : List UInt8) (i : Nat) (t : List UInt8) : Prop := i ≤ s.length ∧ i % 2 = 0 ∧ t.length * 2 = i ∧ unhexM s = (unhexM (s.drop i)).map (t ++ ·)
theorem unhexI.step {s : List UInt8} {i : Nat} {t : List UInt8} (h : unhexI s i t) (hlt : i + 1 < s.length) (ha : digM s[i] < 16) (hb : digM s[i + 1] < 16) : unhexI s (i + 2) (t ++ [byteM (digM s[i]) (digM s[i + 1])]) := by
  obtain ⟨h1, h2, h3, h4⟩ := h
  refine ⟨by omega, by omega, by simp; omega, ?_⟩
  rw [h4, drop2 hlt, unhexM_two, if_pos ⟨ha, hb⟩, Option.map_map]
  congr 1
  funext x
  simp
theorem unhexI.bad {s : List UInt8} {i : Nat} {t : List UInt8} (h : unhexI s i t) (hlt : i + 1 < s.length) (hn : ¬ (digM s[i] < 16 ∧ digM s[i + 1] < 16)) : unhexM s = none := by
  rw [h.2.2.2, drop2 hlt, unhexM_two, if_neg hn]; rfl
theorem unhexI.done {s : List UInt8} {i : Nat} {t : List UInt8} (h : unhexI s i t) (hlt : s.length ≤ i) : unhexM s = some t := by
  rw [h.2.2.2, List.drop_eq_nil_of_le hlt]; simp [unhexM]
section
variable (E : Env) (L : List Res)
theorem digit_call (b : UInt8) : CallV Tryd.prog 61 #[.int .u8 b.toNat] E L (.int .u8 (digM b)) := by
  refine CallS.toV (CallS.intro (l := [.int .u8 b.toNat]) _ Tryd.func61 rfl Tryd.ntmps61 rfl ?_)
  have e := dig_and b
  have e2 := u8_back b
  refine G_seq (G_region ?_)
  refine G_val (V_assign rfl rfl) rfl rfl (.none rfl) ?_
  refine G_end (X_then (G_seq (G_region ?_)))
  refine G_val (V_move rfl rfl) rfl rfl (.none rfl) ?_
  refine G_callv (k := 67) (.mk rfl rfl rfl rfl) rfl rfl (.none rfl) (IndexByte_call _ _ _ _) ?_
  refine G_val (V_conv rfl rfl) rfl rfl (.none rfl) ?_
  refine G_val (V_and rfl rfl rfl) rfl rfl (.none rfl) ?_
  refine G_val (V_assign rfl rfl) rfl rfl (.none rfl) ?_
  refine G_end (X_then (G_ret ?_))
  refine G_leaveS (.nil _) (by exact (.cons (.tmp rfl) (.nil))) rfl ?_ ?_
  · exact (.refl _)
  exact ⟨(by (simp [resVal, e2, *]; done)), (by rfl)⟩
theorem digitR_call (b : UInt8) : CallV Tryd.prog 62 #[.int .u8 b.toNat] E L (.int .i64 (if digM b < 16 then (digM b : Int) else -1)) := by
  refine CallS.toV (CallS.intro (l := [.int .u8 b.toNat]) _ Tryd.func62 rfl Tryd.ntmps62 rfl ?_)
  refine G_seq (G_region ?_)
  refine G_val (V_assign rfl rfl) rfl rfl (.none rfl) ?_
  refine G_end (X_then (G_seq (G_seq (G_region ?_))))
  refine G_val (V_assign rfl rfl) rfl rfl (.none rfl) ?_
  refine G_end (X_then (G_block ?_))
  refine G_loop (α := Nat) (fun i => [(0, .int .u8 b.toNat), (3, .int .i64 i)]) (fun _ => E) (fun _ => L)
    (fun i => i ≤ 16 ∧ ∀ j, j < i → hx j ≠ b) (fun i => 16 - i) 0 ⟨Nat.zero_le _, fun j h => by omega⟩ ⟨rfl, rfl, trivial⟩ rfl rfl ?_
  rintro i ⟨hi, hno⟩
  have hcases := digM_le b
  by_cases hlt : i < 16
  · have hg := hx_get hlt
    have hg2 : digs[(i : Int).toNat]? = some (hx i) := hg
    by_cases he : hx i = b
    · have e : digM b = i := by rw [← he]; exact digM_hx hlt
      have he2 : ((hx i).toNat : Int) = b.toNat := by rw [he]
      rw [e, if_pos hlt]
      refine G_seq (G_seq (G_region ?_))
      refine G_val (V_move rfl rfl) rfl rfl (.none rfl) ?_
      refine G_val (V_lss rfl rfl rfl) rfl rfl (.none rfl) ?_
      refine G_end (X_then ?_)
      refine G_cond_t rfl (decide_eq_true (by omega)) ?_
      refine G_skip (X_then (G_seq (G_block (G_seq (G_region ?_)))))
      refine G_val (V_move rfl rfl) rfl rfl (.none rfl) ?_
      refine G_val (V_sidx rfl rfl rfl (by omega) (by assumption)) rfl rfl (.none rfl) ?_
      refine G_val (V_move rfl rfl) rfl rfl (.none rfl) ?_
      refine G_val (V_eql rfl rfl rfl) rfl rfl (.none rfl) ?_
      refine G_end (X_then ?_)
      refine G_cond_t rfl (decide_eq_true (by omega)) ?_
      refine G_seq (G_region ?_)
      refine G_val (V_move rfl rfl) rfl rfl (.none rfl) ?_
      refine G_val (V_assign rfl rfl) rfl rfl (.none rfl) ?_
      refine G_end (X_then (G_ret (X_block_ret (X_then_ret (X_then_ret (X_block_ret (X_then_ret ?_)))))))
      refine G_leaveS (.nil _) (by exact (.cons (.tmp rfl) (.nil))) rfl ?_ ?_
      · exact (.refl _)
      exact ⟨rfl, rfl⟩
    · have he2 : ¬ ((hx i).toNat : Int) = b.toNat := fun h => he (UInt8.toNat_inj.1 (by omega))
      refine G_seq (G_seq (G_region ?_))
      refine G_val (V_move rfl rfl) rfl rfl (.none rfl) ?_
      refine G_val (V_lss rfl rfl rfl) rfl rfl (.none rfl) ?_
      refine G_end (X_then ?_)
      refine G_cond_t rfl (decide_eq_true (by omega)) ?_
      refine G_skip (X_then (G_seq (G_block (G_seq (G_region ?_)))))
      refine G_val (V_move rfl rfl) rfl rfl (.none rfl) ?_
      refine G_val (V_sidx rfl rfl rfl (by omega) (by assumption)) rfl rfl (.none rfl) ?_
      refine G_val (V_move rfl rfl) rfl rfl (.none rfl) ?_
      refine G_val (V_eql rfl rfl rfl) rfl rfl (.none rfl) ?_
      refine G_end (X_then ?_)
      refine G_cond_f rfl (decide_eq_false (by omega)) ?_
      refine G_skip (X_block (X_then (G_region ?_)))
      refine G_val (V_move rfl rfl) rfl rfl (.none rfl) ?_
      refine G_val (V_add_i64 rfl rfl rfl (by omega) (by omega)) rfl rfl (.none rfl) ?_
      refine G_val (V_assign rfl rfl) rfl rfl (.none rfl) ?_
      refine G_end (X_then ?_)
      exact G_again (i + 1) ⟨hlt, fun j hj => by
        by_cases e : j = i
        · rw [e]; exact he
        · exact hno j (by omega)⟩ (by omega) ⟨rfl, rfl, trivial⟩ rfl rfl
  · have e : ¬ digM b < 16 := fun h => hno (digM b) (by omega) (hx_digM h)
    rw [if_neg e]
    refine G_seq (G_seq (G_region ?_))
    refine G_val (V_move rfl rfl) rfl rfl (.none rfl) ?_
    refine G_val (V_lss rfl rfl rfl) rfl rfl (.none rfl) ?_
    refine G_end (X_then ?_)
    refine G_cond_f rfl (decide_eq_false (by omega)) ?_
    refine G_exit (X_then_exit (X_then_exit (X_block_hit (X_then (G_seq (G_region ?_))))))
    refine G_val (V_assign rfl rfl) rfl rfl (.none rfl) ?_
    refine G_end (X_then (G_ret ?_))
    refine G_leaveS (.nil _) (by exact (.cons (.tmp rfl) (.nil))) rfl ?_ ?_
    · exact (.refl _)
    exact ⟨(by kernel_rfl), rfl⟩
theorem unhex_call (s : List UInt8) (hs : s.length ≤ 1000000) : CallS Tryd.prog 52 #[.string (S s)] E L (fun r E' L' => r = .tuple #[.string (S ((unhexM s).getD [])), .bool (unhexM s).isSome] ∧ E = E' ∧ L' = L) := by
  refine CallS.intro (l := [_]) _ Tryd.func52 rfl Tryd.ntmps52 rfl ?_
  by_cases hodd : s.length % 2 = 0
  · refine G_seq ?_
    refine G_region ?_
    refine G_val (V_assign rfl rfl) rfl rfl (.none rfl) ?_
    refine G_val (V_assign rfl rfl) rfl rfl (.none rfl) ?_
    refine G_end (X_then (G_seq (G_seq (G_region ?_))))
    refine G_val (V_move rfl rfl) rfl rfl (.none rfl) ?_
    refine G_val (V_len rfl rfl) rfl rfl (.none rfl) ?_
    refine G_val (V_rem_n rfl rfl rfl (by omega) (by omega)) rfl rfl (.none rfl) ?_
    refine G_val (V_neq rfl rfl rfl) rfl rfl (.none rfl) ?_
    refine G_end (X_then ?_)
    refine G_cond_f rfl (decide_eq_false (by omega)) ?_
    refine G_skip (X_then (G_seq (G_region ?_)))
    (refine G_alloc rfl rfl rfl (.none rfl) ?_; intro b4)
    refine G_end (X_then (G_seq (G_seq (G_region ?_))))
    refine G_val (V_assign rfl rfl) rfl rfl (.none rfl) ?_
    refine G_end (X_then (G_block ?_))
    refine G.bldNew ?_
    refine G_loop (α := Nat × Bld) (fun x => [(0, .string (S s)), (4, .pointer (some ⟨b4, 0, none⟩)), (5, .int .i64 x.1)]) (fun _ => E) (fun x => .bld b4 x.2 :: L)
      (fun x => unhexI s x.1 x.2.xs) (fun x => s.length - x.1) (0, Bld.new) ⟨Nat.zero_le _, rfl, rfl, by simp [Bld.new]⟩ ⟨rfl, rfl, rfl, trivial⟩ rfl rfl ?_
    rintro ⟨i, t⟩ hI
    simp only at hI ⊢
    obtain ⟨h1, h2, h3, h4⟩ := hI
    by_cases hlt : i < s.length
    · have hlt1 : i + 1 < s.length := by omega
      have g1 : s[(i : Int).toNat]? = some s[i] := List.getElem?_eq_getElem hlt
      have g2 : s[((i : Int) + 1).toNat]? = some s[i + 1] := List.getElem?_eq_getElem hlt1
      have d1 := digM_le s[i]
      have d2 := digM_le s[i + 1]
      by_cases hd : digM s[i] < 16 ∧ digM s[i + 1] < 16
      · have ho := hl_or hd.1 hd.2
        have hlt2 := (byteM (digM s[i]) (digM s[i + 1])).toNat_lt
        refine G_seq (G_seq (G_region ?_))
        refine G_val (V_move rfl rfl) rfl rfl (.none rfl) ?_
        refine G_val (V_move rfl rfl) rfl rfl (.none rfl) ?_
        refine G_val (V_len rfl rfl) rfl rfl (.none rfl) ?_
        refine G_val (V_lss rfl rfl rfl) rfl rfl (.none rfl) ?_
        refine G_end (X_then ?_)
        refine G_cond_t rfl (decide_eq_true (by omega)) ?_
        refine G_skip (X_then (G_seq (G_block (G_seq ?_))))
        refine G_draw mixed (by kernel_rfl) ?_
        refine Q_val (V_move rfl rfl) rfl rfl (.none rfl) ?_
        refine Q_val (V_move rfl rfl) rfl rfl (.none rfl) ?_
        refine Q_val (V_sidx rfl rfl rfl (by omega) (by assumption)) rfl rfl (.none rfl) ?_
        refine Q_callv (k := 61) (.mk rfl rfl rfl rfl) rfl rfl (.none rfl) (digit_call _ _ _) ?_
        refine Q_val (V_move rfl rfl) rfl rfl (.none rfl) ?_
        refine Q_val (V_move rfl rfl) rfl rfl (.none rfl) ?_
        refine Q_val (V_add_i64 rfl rfl rfl (by omega) (by omega)) rfl rfl (.none rfl) ?_
        refine Q_val (V_sidx rfl rfl rfl (by omega) (by assumption)) rfl rfl (.none rfl) ?_
        refine Q_callv (k := 61) (.mk rfl rfl rfl rfl) rfl rfl (.none rfl) (digit_call _ _ _) ?_
        refine Q_val (V_assign rfl rfl) rfl rfl (.none rfl) ?_
        refine Q_val (V_assign rfl rfl) rfl rfl (.none rfl) ?_
        refine Q_end ?_
        refine X_then (G_seq (G_seq (G_region ?_)))
        refine G_val (V_move rfl rfl) rfl rfl (.none rfl) ?_
        refine G_val (V_gtr rfl rfl rfl) rfl rfl (.none rfl) ?_
        refine G_val (V_move rfl rfl) rfl rfl (.none rfl) ?_
        refine G.bool_f 29 rfl (decide_eq_false (by omega)) ?_
        refine G_val (V_move rfl rfl) rfl rfl (.yes rfl rfl rfl rfl) ?_
        refine G_val (V_gtr rfl rfl rfl) rfl rfl (.yes rfl rfl rfl rfl) ?_
        refine G_val (V_pick_f rfl rfl rfl) rfl rfl (.none rfl) ?_
        refine G_end (X_then ?_)
        refine G_cond_f rfl (decide_eq_false (by omega)) ?_
        refine G_skip (X_then (G_region ?_))
        refine G_val (V_move rfl rfl) rfl rfl (.none rfl) ?_
        refine G_val (V_shl rfl rfl rfl (by omega)) rfl rfl (.none rfl) ?_
        refine G_val (V_move rfl rfl) rfl rfl (.none rfl) ?_
        refine G_val (V_or rfl rfl rfl) rfl rfl (.none rfl) ?_
        rw [ho]
        refine G_call (k := 56) (.mk rfl rfl rfl rfl) rfl rfl (.none rfl) (WriteByte_call _ _ _ _ _ (by assumption) (by omega)) ?_
        rintro r1 E2 L3 hE4 ⟨z5, ⟨rfl, ⟨rfl, ⟨Z6, ⟨Z7, rfl⟩⟩⟩⟩⟩
        refine G_end (X_block (X_then (G_region ?_)))
        refine G_val (V_move rfl rfl) rfl rfl (.none rfl) ?_
        refine G_val (V_add_i64 rfl rfl rfl (by omega) (by omega)) rfl rfl (.none rfl) ?_
        refine G_val (V_assign rfl rfl) rfl rfl (.none rfl) ?_
        refine G_end (X_then ?_)
        rw [byteM_u8] at Z6
        have hI := unhexI.step ⟨h1, h2, h3, h4⟩ hlt1 hd.1 hd.2
        exact G_again (i + 2, z5) (by rw [← Z6] at hI; exact hI) (by simp only; omega) ⟨rfl, rfl, rfl, trivial⟩ rfl rfl
      · have hn := unhexI.bad ⟨h1, h2, h3, h4⟩ hlt1 hd
        rw [hn]
        refine G_seq (G_seq (G_region ?_))
        refine G_val (V_move rfl rfl) rfl rfl (.none rfl) ?_
        refine G_val (V_move rfl rfl) rfl rfl (.none rfl) ?_
        refine G_val (V_len rfl rfl) rfl rfl (.none rfl) ?_
        refine G_val (V_lss rfl rfl rfl) rfl rfl (.none rfl) ?_
        refine G_end (X_then ?_)
        refine G_cond_t rfl (decide_eq_true (by omega)) ?_
        refine G_skip (X_then (G_seq (G_block (G_seq ?_))))
        refine G_draw mixed (by kernel_rfl) ?_
        refine Q_val (V_move rfl rfl) rfl rfl (.none rfl) ?_
        refine Q_val (V_move rfl rfl) rfl rfl (.none rfl) ?_
        refine Q_val (V_sidx rfl rfl rfl (by omega) (by assumption)) rfl rfl (.none rfl) ?_
        refine Q_callv (k := 61) (.mk rfl rfl rfl rfl) rfl rfl (.none rfl) (digit_call _ _ _) ?_
        refine Q_val (V_move rfl rfl) rfl rfl (.none rfl) ?_
        refine Q_val (V_move rfl rfl) rfl rfl (.none rfl) ?_
        refine Q_val (V_add_i64 rfl rfl rfl (by omega) (by omega)) rfl rfl (.none rfl) ?_
        refine Q_val (V_sidx rfl rfl rfl (by omega) (by assumption)) rfl rfl (.none rfl) ?_
        refine Q_callv (k := 61) (.mk rfl rfl rfl rfl) rfl rfl (.none rfl) (digit_call _ _ _) ?_
        refine Q_val (V_assign rfl rfl) rfl rfl (.none rfl) ?_
        refine Q_val (V_assign rfl rfl) rfl rfl (.none rfl) ?_
        refine Q_end ?_
        refine X_then (G_seq (G_seq (G_region ?_)))
        refine G_val (V_move rfl rfl) rfl rfl (.none rfl) ?_
        refine G_val (V_gtr rfl rfl rfl) rfl rfl (.none rfl) ?_
        refine G_val (V_move rfl rfl) rfl rfl (.none rfl) ?_
        apply G_joinOr 3 29 32 rfl
        · intro H1
          dsimp only [List.take]
          simp only [Bool.and_eq_true, Bool.or_eq_true, Bool.not_eq_true', Bool.not_eq_false', Bool.and_eq_false_iff, Bool.or_eq_false_iff, Bool.not_not, decide_eq_true_eq, decide_eq_false_iff_not, ne_eq, Decidable.not_not, Bool.decide_eq_true] at H1
          refine G_stay (.no rfl rfl rfl rfl) rfl rfl ?_
          refine G_stay (.no rfl rfl rfl rfl) rfl rfl ?_
          refine G_val (V_pick_t rfl rfl rfl) rfl rfl (.none rfl) ?_
          refine G_end ?_
          exact JQ_end 3 rfl rfl (by kernel_rfl)
        · intro H2
          dsimp only [List.take]
          simp only [Bool.and_eq_true, Bool.or_eq_true, Bool.not_eq_true', Bool.not_eq_false', Bool.and_eq_false_iff, Bool.or_eq_false_iff, Bool.not_not, decide_eq_true_eq, decide_eq_false_iff_not, ne_eq, Decidable.not_not, Bool.decide_eq_true] at H2
          refine G_val (V_move rfl rfl) rfl rfl (.yes rfl rfl rfl rfl) ?_
          refine G_val (V_gtr rfl rfl rfl) rfl rfl (.yes rfl rfl rfl rfl) ?_
          refine G_val (V_pick_f rfl rfl rfl) rfl rfl (.none rfl) ?_
          refine G_end ?_
          exact JQ_end 3 rfl rfl (by kernel_rfl)
        dsimp only [List.drop]
        refine G_end (X_then ?_)
        refine G_cond rfl (fun H3 => ?_) (fun H3 => ?_)
        · simp only [Bool.and_eq_true, Bool.or_eq_true, Bool.not_eq_true', Bool.not_eq_false', Bool.and_eq_false_iff, Bool.or_eq_false_iff, Bool.not_not, decide_eq_true_eq, decide_eq_false_iff_not, ne_eq, Decidable.not_not, Bool.decide_eq_true] at H3
          refine G_seq (G_region ?_)
          refine G_val (V_assign rfl rfl) rfl rfl (.none rfl) ?_
          refine G_val (V_assign rfl rfl) rfl rfl (.none rfl) ?_
          refine G_end (X_then (G_ret (X_then_ret (X_block_ret (X_then_ret (X_then_ret (X_block_ret (X_then_ret ?_))))))))
          refine G_leaveS (.drop _ (.nil _)) (by exact (.cons (.tmp rfl) (.cons (.tmp rfl) (.nil)))) rfl ?_ ?_
          · exact (.refl _)
          exact ⟨(by kernel_rfl), ⟨rfl, rfl⟩⟩
        simp only [Bool.and_eq_true, Bool.or_eq_true, Bool.not_eq_true', Bool.not_eq_false', Bool.and_eq_false_iff, Bool.or_eq_false_iff, Bool.not_not, decide_eq_true_eq, decide_eq_false_iff_not, ne_eq, Decidable.not_not, Bool.decide_eq_true] at H3
        (exfalso; omega)
    · have hn := unhexI.done ⟨h1, h2, h3, h4⟩ (by omega)
      rw [hn]
      refine G_seq (G_seq (G_region ?_))
      refine G_val (V_move rfl rfl) rfl rfl (.none rfl) ?_
      refine G_val (V_move rfl rfl) rfl rfl (.none rfl) ?_
      refine G_val (V_len rfl rfl) rfl rfl (.none rfl) ?_
      refine G_val (V_lss rfl rfl rfl) rfl rfl (.none rfl) ?_
      refine G_end (X_then ?_)
      refine G_cond_f rfl (decide_eq_false (by omega)) ?_
      refine G_exit (X_then_exit (X_then_exit (X_block_hit (X_then (G_seq (G_region ?_))))))
      refine G_call (k := 36) (.mk rfl rfl rfl rfl) rfl rfl (.none rfl) (BString_call _ _ _ _ (by omega)) ?_
      rintro r1 E2 L3 hE4 ⟨rfl, ⟨rfl, rfl⟩⟩
      refine G_val (V_assign rfl rfl) rfl rfl (.none rfl) ?_
      refine G_val (V_assign rfl rfl) rfl rfl (.none rfl) ?_
      refine G_end (X_then (G_ret ?_))
      refine G_leaveS (.nil _) (by exact (.cons (.tmp rfl) (.cons (.tmp rfl) (.nil)))) rfl ?_ ?_
      · exact (.refl _)
      exact ⟨rfl, ⟨rfl, rfl⟩⟩
  · have hn := unhexM_odd hodd
    rw [hn]
    refine G_seq (G_region ?_)
    refine G_val (V_assign rfl rfl) rfl rfl (.none rfl) ?_
    refine G_val (V_assign rfl rfl) rfl rfl (.none rfl) ?_
    refine G_end (X_then (G_seq (G_seq (G_region ?_))))
    refine G_val (V_move rfl rfl) rfl rfl (.none rfl) ?_
    refine G_val (V_len rfl rfl) rfl rfl (.none rfl) ?_
    refine G_val (V_rem_n rfl rfl rfl (by omega) (by omega)) rfl rfl (.none rfl) ?_
    refine G_val (V_neq rfl rfl rfl) rfl rfl (.none rfl) ?_
    refine G_end (X_then ?_)
    refine G_cond_t rfl (decide_eq_true (by omega)) ?_
    refine G_seq (G_region ?_)
    refine G_val (V_assign rfl rfl) rfl rfl (.none rfl) ?_
    refine G_val (V_assign rfl rfl) rfl rfl (.none rfl) ?_
    refine G_end (X_then (G_ret (X_then_ret ?_)))
    refine G_leaveS (.nil _) (by exact (.cons (.tmp rfl) (.cons (.tmp rfl) (.nil)))) rfl ?_ ?_
    · exact (.refl _)
    exact ⟨(by kernel_rfl), ⟨rfl, rfl⟩⟩
end
end Go.Proofs.YtpkingbclcalkaaDoor
