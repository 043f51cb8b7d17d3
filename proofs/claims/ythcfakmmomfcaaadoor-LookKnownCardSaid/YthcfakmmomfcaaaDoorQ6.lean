/-
  Rules and contracts, packed: A19, A21, A22, A23, A27, A28, A29, A30, A31.
-/
import Derived.Test.YthcfakmmomfcaaaDoorQ5
set_option maxHeartbeats 1000000
set_option linter.unusedSimpArgs false
set_option linter.unusedVariables false
set_option maxHeartbeats 2000000
set_option maxRecDepth 20000
namespace Go.Proofs.YthcfakmmomfcaaaDoor
open Go.RowKit
/-! Parse. -/
theorem ofM_lk (l : List Int) : ∃ n a b c d, (ofM l).1 = lk n a b c d := by
  unfold ofM
  split
  · exact ⟨_, _, _, _, _, rfl⟩
  · split
    · exact ⟨_, _, _, _, _, rfl⟩
    · exact ⟨_, _, _, _, _, rfl⟩
section
variable (E : Env) (L : List Res)
open Classical in
noncomputable def parseP (s : List UInt8) : Value × Int := if s = [45] then (lk 0 0 0 0 0, 0) else if ∀ w, w ∈ splitB 32 s → okP w then ofM ((splitB 32 s).map dgOf) else (lk 0 0 0 0 0, 3)
theorem Parse_call (s : List UInt8) (hs : s.length ≤ 1000) : CallS Tryd.prog 29 #[.string (S s)] E L (fun r E' L' => r = .tuple #[(parseP s).1, .int .i64 (parseP s).2] ∧ L = L') := by
  unfold parseP
  by_cases h0 : s = [45]
  · rw [if_pos h0]
    subst h0
    refine CallS.intro (l := [_]) _ Tryd.func29 rfl Tryd.ntmps29 rfl ?_
    refine G_seq (G_region ?_)
    (refine G_alloc rfl rfl rfl (.none rfl) ?_; intro b2)
    refine G_val (V_assign rfl rfl) rfl rfl (.none rfl) ?_
    refine G_end (X_then (G_seq (G_seq (G_region ?_))))
    refine G_val (V_move rfl rfl) rfl rfl (.none rfl) ?_
    refine G_val (V_seql rfl rfl rfl) rfl rfl (.none rfl) ?_
    refine G_end (X_then ?_)
    refine G_cond_t rfl (by kernel_rfl) ?_
    refine G_seq (G_region ?_)
    refine G_val (V_build rfl rfl (by simp [fillV, setLs, setL, Value.cells]; rfl)) rfl rfl (.none rfl) ?_
    refine G_storeA rfl rfl rfl rfl (by simp [Value.oneCell']) rfl (.none rfl) (.head _ _ _) rfl ?_
    refine G_val (V_assign rfl rfl) rfl rfl (.none rfl) ?_
    refine G_end (X_then (G_ret (X_then_ret ?_)))
    refine G_leaveS (.drop _ (.nil _)) (by exact (.cons (.cellA rfl (Cells.own (.head _)) rfl) (.cons (.tmp rfl) (.nil)))) rfl ?_ ?_
    · exact (.refl _)
    exact ⟨(by kernel_rfl), rfl⟩
  rw [if_neg h0]
  refine CallS.intro (l := [_]) _ Tryd.func29 rfl Tryd.ntmps29 rfl ?_
  refine G_seq (G_region ?_)
  (refine G_alloc rfl rfl rfl (.none rfl) ?_; intro b2)
  refine G_val (V_assign rfl rfl) rfl rfl (.none rfl) ?_
  refine G_end (X_then (G_seq (G_seq (G_region ?_))))
  refine G_val (V_move rfl rfl) rfl rfl (.none rfl) ?_
  refine G_val (V_seql rfl rfl rfl) rfl rfl (.none rfl) ?_
  refine G_end (X_then ?_)
  refine G_cond_f rfl (decide_eq_false (by omega)) ?_
  refine G_skip (X_then (G_seq (G_region ?_)))
  refine G_val (V_assign rfl rfl) rfl rfl (.none rfl) ?_
  refine G_end (X_then (G_seq (G_seq (G_region ?_))))
  refine G_val (V_move rfl rfl) rfl rfl (.none rfl) ?_
  refine G_call (k := 55) (.mk rfl rfl rfl rfl) rfl rfl (.none rfl) (Split_call _ _ s 32 (by omega)) ?_
  rintro r1 E1 L1 hE1 ⟨p1, k1, rfl, hs1, rfl⟩
  have hPl := splitB_len 32 s
  have hcl : s.count 32 ≤ s.length := List.count_le_length
  obtain ⟨P, hP⟩ : ∃ P, splitB 32 s = P := ⟨_, rfl⟩
  rw [hP] at hs1 hPl ⊢
  refine G_val (V_lenS rfl rfl) rfl rfl (.none rfl) ?_
  refine G_val (V_move rfl rfl) rfl rfl (.none rfl) ?_
  refine G_end (X_then (G_block ?_))
  refine G.nilSl 3 1 ?_
  refine G_loop (α := Nat × Option Addr × Nat) (fun x => [(2, .pointer (some ⟨b2, 0, none⟩)), (3, .int .i64 0), (4, .slice x.2.1 x.1 x.2.2), (11, .slice p1 P.length k1), (12, .int .i64 P.length), (13, .int .i64 (x.1 : Nat))]) (fun _ => E1)
    (fun x => .sl 3 1 x.2.1 x.1 x.2.2 (i64s ((P.take x.1).map dgOf)) :: .blk b2 (.cells (lkC 0 0 0 0 0) 25 (0, 0)) :: L)
    (fun x => x.1 ≤ P.length ∧ ∀ w, w ∈ P.take x.1 → okP w) (fun x => P.length - x.1) (0, none, 0) ⟨Nat.zero_le _, fun w h => by cases h⟩ ⟨rfl, rfl, rfl, rfl, rfl, rfl, trivial⟩ rfl rfl ?_
  rintro ⟨i, p, k⟩ ⟨hi, hall⟩
  simp only at hi hall ⊢
  by_cases hlt : i < P.length
  · have hx := strs_get (List.getElem?_eq_getElem hlt)
    by_cases hok : okP P[i]
    · obtain ⟨b, hb, hb1, hb2⟩ := hok
      have hl1 : P[i].length = 1 := by rw [hb]; rfl
      have hg : P[i][(0 : Int).toNat]? = some b := by rw [hb]; rfl
      have hsn : i64s ((P.take i).map dgOf) ++ [.int .i64 ((b.toNat : Int) - 48)] = i64s ((P.take (i + 1)).map dgOf) := by
        rw [List.take_succ_eq_append_getElem hlt, hb]
        simp only [i64s, List.map_append, List.map_cons, List.map_nil]
        rfl
      refine G_seq (G_region ?_)
      refine G_val (V_lss rfl rfl rfl) rfl rfl (.none rfl) ?_
      refine G_end (X_then (G_seq ?_))
      refine G_cond_t rfl (decide_eq_true (by omega)) ?_
      refine G_skip (X_then (G_seq (G_block (G_seq (G_region ?_)))))
      refine G_val (V_idxAddr rfl rfl rfl (SlE.rd (by assumption)) (by omega) (by omega)) rfl rfl (.none rfl) ?_
      refine G_val (V_loadS rfl rfl (SlE.rd (by assumption)) (by assumption) (by simp)) rfl rfl (.none rfl) ?_
      refine G_val (V_assign rfl rfl) rfl rfl (.none rfl) ?_
      refine G_end (X_then (G_seq (G_seq (G_region ?_))))
      refine G_val (V_move rfl rfl) rfl rfl (.none rfl) ?_
      refine G_val (V_len rfl rfl) rfl rfl (.none rfl) ?_
      refine G_val (V_neq rfl rfl rfl) rfl rfl (.none rfl) ?_
      refine G_val (V_move rfl rfl) rfl rfl (.none rfl) ?_
      refine G.bool_f 20 rfl (decide_eq_false (by omega)) ?_
      refine G_val (V_move rfl rfl) rfl rfl (.yes rfl rfl rfl rfl) ?_
      refine G_val (V_sidx rfl rfl rfl (by omega) (by assumption)) rfl rfl (.yes rfl rfl rfl rfl) ?_
      refine G_val (V_lss rfl rfl rfl) rfl rfl (.yes rfl rfl rfl rfl) ?_
      refine G_val (V_pick_f rfl rfl rfl) rfl rfl (.none rfl) ?_
      refine G_val (V_move rfl rfl) rfl rfl (.none rfl) ?_
      refine G.bool_f 25 rfl (decide_eq_false (by omega)) ?_
      refine G_val (V_move rfl rfl) rfl rfl (.yes rfl rfl rfl rfl) ?_
      refine G_val (V_sidx rfl rfl rfl (by omega) (by assumption)) rfl rfl (.yes rfl rfl rfl rfl) ?_
      refine G_val (V_gtr rfl rfl rfl) rfl rfl (.yes rfl rfl rfl rfl) ?_
      refine G_val (V_pick_f rfl rfl rfl) rfl rfl (.none rfl) ?_
      refine G_end (X_then ?_)
      refine G_cond_f rfl (decide_eq_false (by omega)) ?_
      refine G_skip (X_then (G_region ?_))
      refine G_val (V_move rfl rfl) rfl rfl (.none rfl) ?_
      refine G_val (V_move rfl rfl) rfl rfl (.none rfl) ?_
      refine G_val (V_sidx rfl rfl rfl (by omega) (by assumption)) rfl rfl (.none rfl) ?_
      refine G_val (V_sub_u8 rfl rfl rfl (by omega) (by omega)) rfl rfl (.none rfl) ?_
      refine G_val (V_conv_i64 rfl rfl (by omega) (by omega)) rfl rfl (.none rfl) ?_
      (refine G_lit1 rfl rfl rfl rfl rfl (.none rfl) ?_; intro b36)
      (refine G_append rfl rfl rfl (Rd.lit (.head _) rfl) (by simp [Value.oneCell']) (by omega) (by omega) rfl rfl (.none rfl) (fun _ _ => (.tail _ (.head _ _ _))) ?_; intro a37 c37; refine G.rm (.head _ _) ?_)
      refine G_val (V_assign rfl rfl) rfl rfl (.none rfl) ?_
      refine G_end (X_block (X_then (G_region ?_)))
      refine G_val (V_add_i64 rfl rfl rfl (by omega) (by omega)) rfl rfl (.none rfl) ?_
      refine G_val (V_move rfl rfl) rfl rfl (.none rfl) ?_
      refine G_end (X_then ?_)
      rw [hsn]
      exact G_again (i + 1, _, _) ⟨hlt, fun w h => by
        rw [List.take_succ_eq_append_getElem hlt] at h
        rcases List.mem_append.1 h with h | h
        · exact hall w h
        · rw [List.mem_singleton.1 h]; exact ⟨b, hb, hb1, hb2⟩⟩ (by simp only; omega) ⟨rfl, rfl, rfl, rfl, rfl, rfl, trivial⟩ rfl rfl
    · rw [if_neg (fun h => hok (h _ (List.getElem_mem _)))]
      by_cases hl1 : P[i].length = 1
      · obtain ⟨b, hb⟩ := List.length_eq_one_iff.1 hl1
        have hg : P[i][(0 : Int).toNat]? = some b := by rw [hb]; rfl
        have hbad : b.toNat < 48 ∨ 57 < b.toNat := by
          by_cases q : b.toNat < 48
          · exact .inl q
          · by_cases q2 : 57 < b.toNat
            · exact .inr q2
            · exact absurd ⟨b, hb, by omega, by omega⟩ hok
        clear hok hall
        rcases hbad with hbad | hbad
        · refine G_seq ?_
          refine G_region ?_
          refine G_val (V_lss rfl rfl rfl) rfl rfl (.none rfl) ?_
          refine G_end (X_then (G_seq ?_))
          refine G_cond_t rfl (decide_eq_true (by omega)) ?_
          refine G_skip (X_then (G_seq (G_block (G_seq (G_region ?_)))))
          refine G_val (V_idxAddr rfl rfl rfl (SlE.rd (by assumption)) (by omega) (by omega)) rfl rfl (.none rfl) ?_
          refine G_val (V_loadS rfl rfl (SlE.rd (by assumption)) (by assumption) (by simp)) rfl rfl (.none rfl) ?_
          refine G_val (V_assign rfl rfl) rfl rfl (.none rfl) ?_
          refine G_end (X_then (G_seq (G_seq (G_region ?_))))
          refine G_val (V_move rfl rfl) rfl rfl (.none rfl) ?_
          refine G_val (V_len rfl rfl) rfl rfl (.none rfl) ?_
          refine G_val (V_neq rfl rfl rfl) rfl rfl (.none rfl) ?_
          refine G_val (V_move rfl rfl) rfl rfl (.none rfl) ?_
          refine G.bool_f 20 rfl (decide_eq_false (by omega)) ?_
          refine G_val (V_move rfl rfl) rfl rfl (.yes rfl rfl rfl rfl) ?_
          refine G_val (V_sidx rfl rfl rfl (by omega) (by assumption)) rfl rfl (.yes rfl rfl rfl rfl) ?_
          refine G_val (V_lss rfl rfl rfl) rfl rfl (.yes rfl rfl rfl rfl) ?_
          refine G_val (V_pick_f rfl rfl rfl) rfl rfl (.none rfl) ?_
          refine G_val (V_move rfl rfl) rfl rfl (.none rfl) ?_
          refine G.bool_t 25 rfl (decide_eq_true (by omega)) ?_
          refine G_stay (.no rfl rfl rfl rfl) rfl rfl ?_
          refine G_stay (.no rfl rfl rfl rfl) rfl rfl ?_
          refine G_stay (.no rfl rfl rfl rfl) rfl rfl ?_
          refine G_val (V_pick_t rfl rfl rfl) rfl rfl (.none rfl) ?_
          refine G_end (X_then ?_)
          refine G_cond_t rfl rfl ?_
          refine G_seq (G_region ?_)
          refine G_val (V_build rfl rfl (by simp [fillV, setLs, setL, Value.cells]; rfl)) rfl rfl (.none rfl) ?_
          refine G_storeA rfl rfl rfl rfl (by simp [Value.oneCell']) rfl (.none rfl) (.tail _ (.head _ _ _)) rfl ?_
          refine G_val (V_assign rfl rfl) rfl rfl (.none rfl) ?_
          refine G_end (X_then (G_ret (X_then_ret (X_block_ret (X_then_ret (X_then_ret (X_block_ret (X_then_ret ?_))))))))
          refine G_leaveS (.drop _ (.drop _ (.nil _))) (by exact (.cons (.cellA rfl (Cells.own (.tail _ (.head _))) rfl) (.cons (.tmp rfl) (.nil)))) rfl ?_ ?_
          · exact hE1
          exact ⟨(by kernel_rfl), rfl⟩
        · refine G_seq ?_
          refine G_region ?_
          refine G_val (V_lss rfl rfl rfl) rfl rfl (.none rfl) ?_
          refine G_end (X_then (G_seq ?_))
          refine G_cond_t rfl (decide_eq_true (by omega)) ?_
          refine G_skip (X_then (G_seq (G_block (G_seq (G_region ?_)))))
          refine G_val (V_idxAddr rfl rfl rfl (SlE.rd (by assumption)) (by omega) (by omega)) rfl rfl (.none rfl) ?_
          refine G_val (V_loadS rfl rfl (SlE.rd (by assumption)) (by assumption) (by simp)) rfl rfl (.none rfl) ?_
          refine G_val (V_assign rfl rfl) rfl rfl (.none rfl) ?_
          refine G_end (X_then (G_seq (G_seq (G_region ?_))))
          refine G_val (V_move rfl rfl) rfl rfl (.none rfl) ?_
          refine G_val (V_len rfl rfl) rfl rfl (.none rfl) ?_
          refine G_val (V_neq rfl rfl rfl) rfl rfl (.none rfl) ?_
          refine G_val (V_move rfl rfl) rfl rfl (.none rfl) ?_
          refine G.bool_f 20 rfl (decide_eq_false (by omega)) ?_
          refine G_val (V_move rfl rfl) rfl rfl (.yes rfl rfl rfl rfl) ?_
          refine G_val (V_sidx rfl rfl rfl (by omega) (by assumption)) rfl rfl (.yes rfl rfl rfl rfl) ?_
          refine G_val (V_lss rfl rfl rfl) rfl rfl (.yes rfl rfl rfl rfl) ?_
          refine G_val (V_pick_f rfl rfl rfl) rfl rfl (.none rfl) ?_
          refine G_val (V_move rfl rfl) rfl rfl (.none rfl) ?_
          refine G.bool_f 25 rfl (decide_eq_false (by omega)) ?_
          refine G_val (V_move rfl rfl) rfl rfl (.yes rfl rfl rfl rfl) ?_
          refine G_val (V_sidx rfl rfl rfl (by omega) (by assumption)) rfl rfl (.yes rfl rfl rfl rfl) ?_
          refine G_val (V_gtr rfl rfl rfl) rfl rfl (.yes rfl rfl rfl rfl) ?_
          refine G_val (V_pick_f rfl rfl rfl) rfl rfl (.none rfl) ?_
          refine G_end (X_then ?_)
          refine G_cond_t rfl (decide_eq_true (by omega)) ?_
          refine G_seq (G_region ?_)
          refine G_val (V_build rfl rfl (by simp [fillV, setLs, setL, Value.cells]; rfl)) rfl rfl (.none rfl) ?_
          refine G_storeA rfl rfl rfl rfl (by simp [Value.oneCell']) rfl (.none rfl) (.tail _ (.head _ _ _)) rfl ?_
          refine G_val (V_assign rfl rfl) rfl rfl (.none rfl) ?_
          refine G_end (X_then (G_ret (X_then_ret (X_block_ret (X_then_ret (X_then_ret (X_block_ret (X_then_ret ?_))))))))
          refine G_leaveS (.drop _ (.drop _ (.nil _))) (by exact (.cons (.cellA rfl (Cells.own (.tail _ (.head _))) rfl) (.cons (.tmp rfl) (.nil)))) rfl ?_ ?_
          · exact hE1
          exact ⟨(by kernel_rfl), rfl⟩
      · refine G_seq ?_
        refine G_region ?_
        refine G_val (V_lss rfl rfl rfl) rfl rfl (.none rfl) ?_
        refine G_end (X_then (G_seq ?_))
        refine G_cond_t rfl (decide_eq_true (by omega)) ?_
        refine G_skip (X_then (G_seq (G_block (G_seq (G_region ?_)))))
        refine G_val (V_idxAddr rfl rfl rfl (SlE.rd (by assumption)) (by omega) (by omega)) rfl rfl (.none rfl) ?_
        refine G_val (V_loadS rfl rfl (SlE.rd (by assumption)) (by assumption) (by simp)) rfl rfl (.none rfl) ?_
        refine G_val (V_assign rfl rfl) rfl rfl (.none rfl) ?_
        refine G_end (X_then (G_seq (G_seq (G_region ?_))))
        refine G_val (V_move rfl rfl) rfl rfl (.none rfl) ?_
        refine G_val (V_len rfl rfl) rfl rfl (.none rfl) ?_
        refine G_val (V_neq rfl rfl rfl) rfl rfl (.none rfl) ?_
        refine G_val (V_move rfl rfl) rfl rfl (.none rfl) ?_
        refine G.bool_t 20 rfl (decide_eq_true (by omega)) ?_
        refine G_stay (.no rfl rfl rfl rfl) rfl rfl ?_
        refine G_stay (.no rfl rfl rfl rfl) rfl rfl ?_
        refine G_stay (.no rfl rfl rfl rfl) rfl rfl ?_
        refine G_val (V_pick_t rfl rfl rfl) rfl rfl (.none rfl) ?_
        refine G_val (V_move rfl rfl) rfl rfl (.none rfl) ?_
        refine G_stay (.no rfl rfl rfl rfl) rfl rfl ?_
        refine G_stay (.no rfl rfl rfl rfl) rfl rfl ?_
        refine G_stay (.no rfl rfl rfl rfl) rfl rfl ?_
        refine G_val (V_pick_t rfl rfl rfl) rfl rfl (.none rfl) ?_
        refine G_end (X_then ?_)
        refine G_cond_t rfl rfl ?_
        refine G_seq (G_region ?_)
        refine G_val (V_build rfl rfl (by simp [fillV, setLs, setL, Value.cells]; rfl)) rfl rfl (.none rfl) ?_
        refine G_storeA rfl rfl rfl rfl (by simp [Value.oneCell']) rfl (.none rfl) (.tail _ (.head _ _ _)) rfl ?_
        refine G_val (V_assign rfl rfl) rfl rfl (.none rfl) ?_
        refine G_end (X_then (G_ret (X_then_ret (X_block_ret (X_then_ret (X_then_ret (X_block_ret (X_then_ret ?_))))))))
        refine G_leaveS (.drop _ (.drop _ (.nil _))) (by exact (.cons (.cellA rfl (Cells.own (.tail _ (.head _))) rfl) (.cons (.tmp rfl) (.nil)))) rfl ?_ ?_
        · exact hE1
        exact ⟨(by kernel_rfl), rfl⟩
  · obtain rfl : i = P.length := by omega
    rw [List.take_length] at hall ⊢
    rw [if_pos hall]
    refine G.freezeSl (.head _ _) ?_
    intro E2 hE2 hs2 hkc
    obtain ⟨n', a', b', c', d', hlk⟩ := ofM_lk (P.map dgOf)
    generalize hv : ofM (P.map dgOf) = v at hlk ⊢
    have hml : (P.map dgOf).length = P.length := List.length_map _
    refine G_seq (G_region ?_)
    refine G_val (V_lss rfl rfl rfl) rfl rfl (.none rfl) ?_
    refine G_end (X_then (G_seq ?_))
    refine G_cond_f rfl (decide_eq_false (by omega)) ?_
    refine G_exit (X_then_exit (X_then_exit (X_block_hit (X_then (G_seq (G_region ?_))))))
    refine G_val (V_move rfl rfl) rfl rfl (.none rfl) ?_
    refine G_callv (k := 12) (.mk rfl rfl rfl rfl) rfl rfl (.none rfl) (Of_call _ _ p P.length k (P.map dgOf) hs2 (by omega)) ?_
    rw [hv, hlk]
    refine G_val (V_extract rfl rfl rfl) rfl rfl (.none rfl) ?_
    refine G_val (V_extract rfl rfl rfl) rfl rfl (.none rfl) ?_
    refine G_storeA rfl rfl rfl rfl (by simp [Value.oneCell']) rfl (.none rfl) (.head _ _ _) rfl ?_
    refine G_val (V_assign rfl rfl) rfl rfl (.none rfl) ?_
    refine G_end (X_then (G_ret ?_))
    refine G_leaveS (.drop _ (.nil _)) (by exact (.cons (.cellA rfl (Cells.own (.head _)) rfl) (.cons (.tmp rfl) (.nil)))) rfl ?_ ?_
    · exact (hE1.trans hE2)
    exact ⟨rfl, rfl⟩
end
end Go.Proofs.YthcfakmmomfcaaaDoor
set_option linter.unusedSimpArgs false
set_option linter.unusedVariables false
set_option maxHeartbeats 2000000
set_option maxRecDepth 20000
namespace Go.Proofs.YthcfakmmomfcaaaDoor
open Go.RowKit
/-! The reference Parse. -/
theorem alt_step {s : List UInt8} {i : Nat} (h : altI s i) (hlt : i < s.length) (h0 : i % 2 = 0 → 48 ≤ s[i].toNat ∧ s[i].toNat ≤ 57) (h1 : i % 2 = 1 → s[i] = 32) : altI s (i + 1) := fun j hj hij => by
  by_cases e : j = i
  · subst e; exact ⟨h0, h1⟩
  · exact h j hj (by omega)
section
variable (E : Env) (L : List Res)
theorem RParse_call (s : List UInt8) (hs : s.length ≤ 1000) : CallS Tryd.prog 30 #[.string (S s)] E L (fun r E' L' => r = .tuple #[(parseP s).1, .int .i64 (parseP s).2] ∧ L = L') := by
  unfold parseP
  by_cases h0 : s = [45]
  · rw [if_pos h0]
    subst h0
    refine CallS.intro (l := [_]) _ Tryd.func30 rfl Tryd.ntmps30 rfl ?_
    refine G_seq (G_region ?_)
    (refine G_alloc rfl rfl rfl (.none rfl) ?_; intro b2)
    refine G_val (V_assign rfl rfl) rfl rfl (.none rfl) ?_
    refine G_end (X_then (G_seq (G_seq (G_region ?_))))
    refine G_val (V_move rfl rfl) rfl rfl (.none rfl) ?_
    refine G_val (V_seql rfl rfl rfl) rfl rfl (.none rfl) ?_
    refine G_end (X_then ?_)
    refine G_cond_t rfl (by kernel_rfl) ?_
    refine G_seq (G_region ?_)
    refine G_val (V_build rfl rfl (by simp [fillV, setLs, setL, Value.cells]; rfl)) rfl rfl (.none rfl) ?_
    refine G_storeA rfl rfl rfl rfl (by simp [Value.oneCell']) rfl (.none rfl) (.head _ _ _) rfl ?_
    refine G_val (V_assign rfl rfl) rfl rfl (.none rfl) ?_
    refine G_end (X_then (G_ret (X_then_ret ?_)))
    refine G_leaveS (.drop _ (.nil _)) (by exact (.cons (.cellA rfl (Cells.own (.head _)) rfl) (.cons (.tmp rfl) (.nil)))) rfl ?_ ?_
    · exact (.refl _)
    exact ⟨(by kernel_rfl), rfl⟩
  rw [if_neg h0]
  have hP := (alt_iff s.length s (Nat.le_refl _)).trans (alt_at s.length s (Nat.le_refl _))
  by_cases hodd : s.length % 2 = 1
  · have ho : (s.length : Int) % 2 = 1 := by omega
    by_cases h1 : ∀ w, w ∈ splitB 32 s → okP w
    · rw [if_pos h1]
      have hd := digs_split s.length s (Nat.le_refl _) ((alt_iff s.length s (Nat.le_refl _)).1 h1)
      have hall := (hP.1 h1).2
      rw [hd]
      have hdl := digs_len s.length s (Nat.le_refl _)
      refine CallS.intro (l := [_]) _ Tryd.func30 rfl Tryd.ntmps30 rfl ?_
      refine G_seq (G_region ?_)
      (refine G_alloc rfl rfl rfl (.none rfl) ?_; intro b2)
      refine G_val (V_assign rfl rfl) rfl rfl (.none rfl) ?_
      refine G_end (X_then (G_seq (G_seq (G_region ?_))))
      refine G_val (V_move rfl rfl) rfl rfl (.none rfl) ?_
      refine G_val (V_seql rfl rfl rfl) rfl rfl (.none rfl) ?_
      refine G_end (X_then ?_)
      refine G_cond_f rfl (decide_eq_false (by omega)) ?_
      refine G_skip (X_then (G_seq (G_seq (G_region ?_))))
      refine G_val (V_move rfl rfl) rfl rfl (.none rfl) ?_
      refine G_val (V_len rfl rfl) rfl rfl (.none rfl) ?_
      refine G_val (V_rem_n rfl rfl rfl (by omega) (by omega)) rfl rfl (.none rfl) ?_
      refine G_val (V_eql rfl rfl rfl) rfl rfl (.none rfl) ?_
      refine G_end (X_then ?_)
      refine G_cond_f rfl (decide_eq_false (by omega)) ?_
      refine G_skip (X_then (G_seq (G_seq (G_region ?_))))
      refine G_val (V_assign rfl rfl) rfl rfl (.none rfl) ?_
      refine G_end (X_then (G_block ?_))
      refine G_loop (α := Nat) (fun i => [(0, .string (S s)), (2, .pointer (some ⟨b2, 0, none⟩)), (3, .int .i64 0), (4, .int .i64 (i : Nat))]) (fun _ => E)
        (fun i => .blk b2 (.cells (lkC 0 0 0 0 0) 25 (0, 0)) :: L)
        (fun i => i ≤ s.length) (fun i => s.length - i) 0 (Nat.zero_le _) ⟨rfl, rfl, rfl, rfl, trivial⟩ rfl rfl ?_
      rintro i hi
      by_cases hlt : i < s.length
      · have hx := List.getElem?_eq_getElem hlt
        have hh := hall i hlt hlt
        by_cases he : i % 2 = 0
        · have he2 : (i : Int) % 2 = 0 := by omega
          have hh2 := hh.1 he
          refine G_seq (G_seq (G_region ?_))
          refine G_val (V_move rfl rfl) rfl rfl (.none rfl) ?_
          refine G_val (V_move rfl rfl) rfl rfl (.none rfl) ?_
          refine G_val (V_len rfl rfl) rfl rfl (.none rfl) ?_
          refine G_val (V_lss rfl rfl rfl) rfl rfl (.none rfl) ?_
          refine G_end (X_then ?_)
          refine G_cond_t rfl (decide_eq_true (by omega)) ?_
          refine G_skip (X_then (G_seq (G_block (G_seq (G_region ?_)))))
          refine G_val (V_move rfl rfl) rfl rfl (.none rfl) ?_
          refine G_val (V_rem_n rfl rfl rfl (by omega) (by omega)) rfl rfl (.none rfl) ?_
          refine G_val (V_eql rfl rfl rfl) rfl rfl (.none rfl) ?_
          refine G_val (V_move rfl rfl) rfl rfl (.none rfl) ?_
          refine G.bool_t 24 rfl (decide_eq_true (by omega)) ?_
          refine G_val (V_move rfl rfl) rfl rfl (.yes rfl rfl rfl rfl) ?_
          refine G_val (V_move rfl rfl) rfl rfl (.yes rfl rfl rfl rfl) ?_
          refine G_val (V_sidx rfl rfl rfl (by omega) (by assumption)) rfl rfl (.yes rfl rfl rfl rfl) ?_
          refine G_val (V_lss rfl rfl rfl) rfl rfl (.yes rfl rfl rfl rfl) ?_
          refine G_val (V_move rfl rfl) rfl rfl (.yes rfl rfl rfl rfl) ?_
          refine G.bool_f 29 rfl (decide_eq_false (by omega)) ?_
          refine G_val (V_move rfl rfl) rfl rfl (.yes rfl rfl rfl rfl) ?_
          refine G_val (V_move rfl rfl) rfl rfl (.yes rfl rfl rfl rfl) ?_
          refine G_val (V_sidx rfl rfl rfl (by omega) (by assumption)) rfl rfl (.yes rfl rfl rfl rfl) ?_
          refine G_val (V_gtr rfl rfl rfl) rfl rfl (.yes rfl rfl rfl rfl) ?_
          refine G_val (V_pick_f rfl rfl rfl) rfl rfl (.yes rfl rfl rfl rfl) ?_
          refine G_val (V_pick_t rfl rfl rfl) rfl rfl (.none rfl) ?_
          refine G_val (V_move rfl rfl) rfl rfl (.none rfl) ?_
          refine G.bool_f 36 rfl (decide_eq_false (by omega)) ?_
          refine G_val (V_move rfl rfl) rfl rfl (.yes rfl rfl rfl rfl) ?_
          refine G_val (V_rem_n rfl rfl rfl (by omega) (by omega)) rfl rfl (.yes rfl rfl rfl rfl) ?_
          refine G_val (V_eql rfl rfl rfl) rfl rfl (.yes rfl rfl rfl rfl) ?_
          refine G_val (V_move rfl rfl) rfl rfl (.yes rfl rfl rfl rfl) ?_
          refine G.bool_f 40 rfl (decide_eq_false (by omega)) ?_
          refine G_stay (.no rfl rfl rfl rfl) rfl rfl ?_
          refine G_stay (.no rfl rfl rfl rfl) rfl rfl ?_
          refine G_stay (.no rfl rfl rfl rfl) rfl rfl ?_
          refine G_stay (.no rfl rfl rfl rfl) rfl rfl ?_
          refine G_val (V_pick_f rfl rfl rfl) rfl rfl (.yes rfl rfl rfl rfl) ?_
          refine G_val (V_pick_f rfl rfl rfl) rfl rfl (.none rfl) ?_
          refine G_end (X_then ?_)
          refine G_cond_f rfl rfl ?_
          refine G_skip (X_block (X_then (G_region ?_)))
          refine G_val (V_move rfl rfl) rfl rfl (.none rfl) ?_
          refine G_val (V_add_i64 rfl rfl rfl (by omega) (by omega)) rfl rfl (.none rfl) ?_
          refine G_val (V_assign rfl rfl) rfl rfl (.none rfl) ?_
          refine G_end (X_then ?_)
          exact G_again (i + 1) hlt (by omega) ⟨rfl, rfl, rfl, rfl, trivial⟩ rfl rfl
        · have he2 : (i : Int) % 2 = 1 := by omega
          have hh2 : (s[i].toNat : Int) = 32 := by rw [hh.2 (by omega)]; rfl
          refine G_seq (G_seq (G_region ?_))
          refine G_val (V_move rfl rfl) rfl rfl (.none rfl) ?_
          refine G_val (V_move rfl rfl) rfl rfl (.none rfl) ?_
          refine G_val (V_len rfl rfl) rfl rfl (.none rfl) ?_
          refine G_val (V_lss rfl rfl rfl) rfl rfl (.none rfl) ?_
          refine G_end (X_then ?_)
          refine G_cond_t rfl (decide_eq_true (by omega)) ?_
          refine G_skip (X_then (G_seq (G_block (G_seq (G_region ?_)))))
          refine G_val (V_move rfl rfl) rfl rfl (.none rfl) ?_
          refine G_val (V_rem_n rfl rfl rfl (by omega) (by omega)) rfl rfl (.none rfl) ?_
          refine G_val (V_eql rfl rfl rfl) rfl rfl (.none rfl) ?_
          refine G_val (V_move rfl rfl) rfl rfl (.none rfl) ?_
          refine G.bool_f 24 rfl (decide_eq_false (by omega)) ?_
          refine G_stay (.no rfl rfl rfl rfl) rfl rfl ?_
          refine G_stay (.no rfl rfl rfl rfl) rfl rfl ?_
          refine G_stay (.no rfl rfl rfl rfl) rfl rfl ?_
          refine G_stay (.no rfl rfl rfl rfl) rfl rfl ?_
          refine G_stay (.no rfl rfl rfl rfl) rfl rfl ?_
          refine G_stay (.un rfl rfl rfl rfl) rfl rfl ?_
          refine G_stay (.un rfl rfl rfl rfl) rfl rfl ?_
          refine G_stay (.un rfl rfl rfl rfl) rfl rfl ?_
          refine G_stay (.un rfl rfl rfl rfl) rfl rfl ?_
          refine G_stay (.no rfl rfl rfl rfl) rfl rfl ?_
          refine G_val (V_pick_f rfl rfl rfl) rfl rfl (.none rfl) ?_
          refine G_val (V_move rfl rfl) rfl rfl (.none rfl) ?_
          refine G_val (V_move rfl rfl) rfl rfl (.yes rfl rfl rfl rfl) ?_
          refine G_val (V_rem_n rfl rfl rfl (by omega) (by omega)) rfl rfl (.yes rfl rfl rfl rfl) ?_
          refine G_val (V_eql rfl rfl rfl) rfl rfl (.yes rfl rfl rfl rfl) ?_
          refine G_val (V_move rfl rfl) rfl rfl (.yes rfl rfl rfl rfl) ?_
          refine G.bool_t 40 rfl (decide_eq_true (by omega)) ?_
          refine G_val (V_move rfl rfl) rfl rfl (.yes rfl rfl rfl rfl) ?_
          refine G_val (V_move rfl rfl) rfl rfl (.yes rfl rfl rfl rfl) ?_
          refine G_val (V_sidx rfl rfl rfl (by omega) (by assumption)) rfl rfl (.yes rfl rfl rfl rfl) ?_
          refine G_val (V_neq rfl rfl rfl) rfl rfl (.yes rfl rfl rfl rfl) ?_
          refine G_val (V_pick_t rfl rfl rfl) rfl rfl (.yes rfl rfl rfl rfl) ?_
          refine G_val (V_pick_f rfl rfl rfl) rfl rfl (.none rfl) ?_
          refine G_end (X_then ?_)
          refine G_cond_f rfl (decide_eq_false (by omega)) ?_
          refine G_skip (X_block (X_then (G_region ?_)))
          refine G_val (V_move rfl rfl) rfl rfl (.none rfl) ?_
          refine G_val (V_add_i64 rfl rfl rfl (by omega) (by omega)) rfl rfl (.none rfl) ?_
          refine G_val (V_assign rfl rfl) rfl rfl (.none rfl) ?_
          refine G_end (X_then ?_)
          exact G_again (i + 1) hlt (by omega) ⟨rfl, rfl, rfl, rfl, trivial⟩ rfl rfl
      · obtain rfl : i = s.length := by omega
        by_cases h4 : 4 < (digs s).length
        · have : ofM (digs s) = (lk 0 0 0 0 0, 6) := by unfold ofM; rw [if_pos h4]
          rw [this]
          refine G_seq (G_seq (G_region ?_))
          refine G_val (V_move rfl rfl) rfl rfl (.none rfl) ?_
          refine G_val (V_move rfl rfl) rfl rfl (.none rfl) ?_
          refine G_val (V_len rfl rfl) rfl rfl (.none rfl) ?_
          refine G_val (V_lss rfl rfl rfl) rfl rfl (.none rfl) ?_
          refine G_end (X_then ?_)
          refine G_cond_f rfl (decide_eq_false (by omega)) ?_
          refine G_exit (X_then_exit (X_then_exit (X_block_hit (X_then (G_seq (G_seq (G_region ?_)))))))
          refine G_val (V_move rfl rfl) rfl rfl (.none rfl) ?_
          refine G_val (V_len rfl rfl) rfl rfl (.none rfl) ?_
          refine G_val (V_quo_n rfl rfl rfl (by omega) (by omega) (by simp [IntKind.max, IntKind.signed, IntKind.bits]; omega)) rfl rfl (.none rfl) ?_
          refine G_val (V_add_i64 rfl rfl rfl (by omega) (by omega)) rfl rfl (.none rfl) ?_
          refine G_val (V_gtr rfl rfl rfl) rfl rfl (.none rfl) ?_
          refine G_end (X_then ?_)
          refine G_cond_t rfl (decide_eq_true (by omega)) ?_
          refine G_seq (G_region ?_)
          refine G_val (V_build rfl rfl (by simp [fillV, setLs, setL, Value.cells]; rfl)) rfl rfl (.none rfl) ?_
          refine G_storeA rfl rfl rfl rfl (by simp [Value.oneCell']) rfl (.none rfl) (.head _ _ _) rfl ?_
          refine G_val (V_assign rfl rfl) rfl rfl (.none rfl) ?_
          refine G_end (X_then (G_ret (X_then_ret ?_)))
          refine G_leaveS (.drop _ (.nil _)) (by exact (.cons (.cellA rfl (Cells.own (.head _)) rfl) (.cons (.tmp rfl) (.nil)))) rfl ?_ ?_
          · exact (.refl _)
          exact ⟨(by kernel_rfl), rfl⟩
        refine G_seq (G_seq (G_region ?_))
        refine G_val (V_move rfl rfl) rfl rfl (.none rfl) ?_
        refine G_val (V_move rfl rfl) rfl rfl (.none rfl) ?_
        refine G_val (V_len rfl rfl) rfl rfl (.none rfl) ?_
        refine G_val (V_lss rfl rfl rfl) rfl rfl (.none rfl) ?_
        refine G_end (X_then ?_)
        refine G_cond_f rfl (decide_eq_false (by omega)) ?_
        refine G_exit (X_then_exit (X_then_exit (X_block_hit (X_then (G_seq (G_seq (G_region ?_)))))))
        refine G_val (V_move rfl rfl) rfl rfl (.none rfl) ?_
        refine G_val (V_len rfl rfl) rfl rfl (.none rfl) ?_
        refine G_val (V_quo_n rfl rfl rfl (by omega) (by omega) (by simp [IntKind.max, IntKind.signed, IntKind.bits]; omega)) rfl rfl (.none rfl) ?_
        refine G_val (V_add_i64 rfl rfl rfl (by omega) (by omega)) rfl rfl (.none rfl) ?_
        refine G_val (V_gtr rfl rfl rfl) rfl rfl (.none rfl) ?_
        refine G_end (X_then ?_)
        refine G_cond_f rfl (decide_eq_false (by omega)) ?_
        refine G_skip (X_then (G_seq (G_region ?_)))
        refine G_val (V_assign rfl rfl) rfl rfl (.none rfl) ?_
        refine G_end (X_then (G_seq (G_seq (G_region ?_))))
        refine G_val (V_assign rfl rfl) rfl rfl (.none rfl) ?_
        refine G_end (X_then (G_block ?_))
        refine G.nilSl 3 1 ?_
        refine G_loop (α := Nat × Option Addr × Nat) (fun x => [(0, .string (S s)), (2, .pointer (some ⟨b2, 0, none⟩)), (3, .int .i64 0), (5, .slice x.2.1 x.1 x.2.2), (6, .int .i64 (2 * (x.1 : Nat)))]) (fun _ => E)
          (fun x => .sl 3 1 x.2.1 x.1 x.2.2 (i64s ((digs s).take x.1)) :: .blk b2 (.cells (lkC 0 0 0 0 0) 25 (0, 0)) :: L)
          (fun x => x.1 ≤ (digs s).length) (fun x => (digs s).length - x.1) (0, none, 0) (Nat.zero_le _) ⟨rfl, rfl, rfl, rfl, rfl, trivial⟩ rfl rfl ?_
        rintro ⟨k, p, c⟩ hk
        simp only at hk ⊢
        by_cases hlt : k < (digs s).length
        · have h2k : 2 * k < s.length := by omega
          have hx : s[(2 * (k : Int)).toNat]? = some s[2 * k] := by
            rw [show (2 * (k : Int)).toNat = 2 * k by omega]; exact List.getElem?_eq_getElem h2k
          have hg := (hall (2 * k) h2k h2k).1 (by omega)
          have hat := digs_at k s h2k
          rw [List.getElem?_eq_getElem hlt] at hat
          have hsn : i64s ((digs s).take k) ++ [.int .i64 ((s[2 * k].toNat : Int) - 48)] = i64s ((digs s).take (k + 1)) := by
            rw [List.take_succ_eq_append_getElem hlt, Option.some.inj hat]
            simp only [i64s, List.map_append, List.map_cons, List.map_nil]
          have e2 : 2 * (k : Int) + 2 = 2 * ((k + 1 : Nat) : Int) := by omega
          refine G_seq (G_seq (G_region ?_))
          refine G_val (V_move rfl rfl) rfl rfl (.none rfl) ?_
          refine G_val (V_move rfl rfl) rfl rfl (.none rfl) ?_
          refine G_val (V_len rfl rfl) rfl rfl (.none rfl) ?_
          refine G_val (V_lss rfl rfl rfl) rfl rfl (.none rfl) ?_
          refine G_end (X_then ?_)
          refine G_cond_t rfl (decide_eq_true (by omega)) ?_
          refine G_skip (X_then (G_seq (G_block (G_region ?_))))
          refine G_val (V_move rfl rfl) rfl rfl (.none rfl) ?_
          refine G_val (V_move rfl rfl) rfl rfl (.none rfl) ?_
          refine G_val (V_move rfl rfl) rfl rfl (.none rfl) ?_
          refine G_val (V_sidx rfl rfl rfl (by omega) (by assumption)) rfl rfl (.none rfl) ?_
          refine G_val (V_sub_u8 rfl rfl rfl (by omega) (by omega)) rfl rfl (.none rfl) ?_
          refine G_val (V_conv_i64 rfl rfl (by omega) (by omega)) rfl rfl (.none rfl) ?_
          (refine G_lit1 rfl rfl rfl rfl rfl (.none rfl) ?_; intro b66)
          (refine G_append rfl rfl rfl (Rd.lit (.head _) rfl) (by simp [Value.oneCell']) (by omega) (by omega) rfl rfl (.none rfl) (fun _ _ => (.tail _ (.head _ _ _))) ?_; intro a67 c67; refine G.rm (.head _ _) ?_)
          refine G_val (V_assign rfl rfl) rfl rfl (.none rfl) ?_
          refine G_end (X_block (X_then (G_region ?_)))
          refine G_val (V_move rfl rfl) rfl rfl (.none rfl) ?_
          refine G_val (V_add_i64 rfl rfl rfl (by omega) (by omega)) rfl rfl (.none rfl) ?_
          refine G_val (V_assign rfl rfl) rfl rfl (.none rfl) ?_
          refine G_end (X_then ?_)
          rw [hsn, e2]
          exact G_again (k + 1, _, _) hlt (by simp only; omega) ⟨rfl, rfl, rfl, rfl, rfl, trivial⟩ rfl rfl
        · obtain rfl : k = (digs s).length := by omega
          rw [List.take_length]
          refine G.freezeSl (.head _ _) ?_
          intro E2 hE2 hs2 hkc
          obtain ⟨n', a', b', c', d', hlk⟩ := ofM_lk (digs s)
          generalize hv : ofM (digs s) = v at hlk ⊢
          refine G_seq (G_seq (G_region ?_))
          refine G_val (V_move rfl rfl) rfl rfl (.none rfl) ?_
          refine G_val (V_move rfl rfl) rfl rfl (.none rfl) ?_
          refine G_val (V_len rfl rfl) rfl rfl (.none rfl) ?_
          refine G_val (V_lss rfl rfl rfl) rfl rfl (.none rfl) ?_
          refine G_end (X_then ?_)
          refine G_cond_f rfl (decide_eq_false (by omega)) ?_
          refine G_exit (X_then_exit (X_then_exit (X_block_hit (X_then (G_seq (G_region ?_))))))
          refine G_val (V_move rfl rfl) rfl rfl (.none rfl) ?_
          refine G_callv (k := 13) (.mk rfl rfl rfl rfl) rfl rfl (.none rfl) (ROf_call _ _ p (digs s).length c (digs s) hs2 (by omega)) ?_
          rw [hv, hlk]
          refine G_val (V_extract rfl rfl rfl) rfl rfl (.none rfl) ?_
          refine G_val (V_extract rfl rfl rfl) rfl rfl (.none rfl) ?_
          refine G_storeA rfl rfl rfl rfl (by simp [Value.oneCell']) rfl (.none rfl) (.head _ _ _) rfl ?_
          refine G_val (V_assign rfl rfl) rfl rfl (.none rfl) ?_
          refine G_end (X_then (G_ret ?_))
          refine G_leaveS (.drop _ (.nil _)) (by exact (.cons (.cellA rfl (Cells.own (.head _)) rfl) (.cons (.tmp rfl) (.nil)))) rfl ?_ ?_
          · exact hE2
          exact ⟨rfl, rfl⟩
    · rw [if_neg h1]
      refine CallS.intro (l := [_]) _ Tryd.func30 rfl Tryd.ntmps30 rfl ?_
      refine G_seq (G_region ?_)
      (refine G_alloc rfl rfl rfl (.none rfl) ?_; intro b2)
      refine G_val (V_assign rfl rfl) rfl rfl (.none rfl) ?_
      refine G_end (X_then (G_seq (G_seq (G_region ?_))))
      refine G_val (V_move rfl rfl) rfl rfl (.none rfl) ?_
      refine G_val (V_seql rfl rfl rfl) rfl rfl (.none rfl) ?_
      refine G_end (X_then ?_)
      refine G_cond_f rfl (decide_eq_false (by omega)) ?_
      refine G_skip (X_then (G_seq (G_seq (G_region ?_))))
      refine G_val (V_move rfl rfl) rfl rfl (.none rfl) ?_
      refine G_val (V_len rfl rfl) rfl rfl (.none rfl) ?_
      refine G_val (V_rem_n rfl rfl rfl (by omega) (by omega)) rfl rfl (.none rfl) ?_
      refine G_val (V_eql rfl rfl rfl) rfl rfl (.none rfl) ?_
      refine G_end (X_then ?_)
      refine G_cond_f rfl (decide_eq_false (by omega)) ?_
      refine G_skip (X_then (G_seq (G_seq (G_region ?_))))
      refine G_val (V_assign rfl rfl) rfl rfl (.none rfl) ?_
      refine G_end (X_then (G_block ?_))
      refine G_loop (α := Nat) (fun i => [(0, .string (S s)), (2, .pointer (some ⟨b2, 0, none⟩)), (3, .int .i64 0), (4, .int .i64 (i : Nat))]) (fun _ => E)
        (fun i => .blk b2 (.cells (lkC 0 0 0 0 0) 25 (0, 0)) :: L)
        (fun i => i ≤ s.length ∧ altI s i) (fun i => s.length - i) 0 ⟨Nat.zero_le _, fun x h h1 => by omega⟩ ⟨rfl, rfl, rfl, rfl, trivial⟩ rfl rfl ?_
      rintro i ⟨hi, hall⟩
      simp only at hi hall ⊢
      by_cases hlt : i < s.length
      · have hx := List.getElem?_eq_getElem hlt
        by_cases he : i % 2 = 0
        · have he2 : (i : Int) % 2 = 0 := by omega
          by_cases q1 : (s[i].toNat : Int) < 48
          · refine G_seq ?_
            refine G_seq (G_region ?_)
            refine G_val (V_move rfl rfl) rfl rfl (.none rfl) ?_
            refine G_val (V_move rfl rfl) rfl rfl (.none rfl) ?_
            refine G_val (V_len rfl rfl) rfl rfl (.none rfl) ?_
            refine G_val (V_lss rfl rfl rfl) rfl rfl (.none rfl) ?_
            refine G_end (X_then ?_)
            refine G_cond_t rfl (decide_eq_true (by omega)) ?_
            refine G_skip (X_then (G_seq (G_block (G_seq (G_region ?_)))))
            refine G_val (V_move rfl rfl) rfl rfl (.none rfl) ?_
            refine G_val (V_rem_n rfl rfl rfl (by omega) (by omega)) rfl rfl (.none rfl) ?_
            refine G_val (V_eql rfl rfl rfl) rfl rfl (.none rfl) ?_
            refine G_val (V_move rfl rfl) rfl rfl (.none rfl) ?_
            refine G.bool_t 24 rfl (decide_eq_true (by omega)) ?_
            refine G_val (V_move rfl rfl) rfl rfl (.yes rfl rfl rfl rfl) ?_
            refine G_val (V_move rfl rfl) rfl rfl (.yes rfl rfl rfl rfl) ?_
            refine G_val (V_sidx rfl rfl rfl (by omega) (by assumption)) rfl rfl (.yes rfl rfl rfl rfl) ?_
            refine G_val (V_lss rfl rfl rfl) rfl rfl (.yes rfl rfl rfl rfl) ?_
            refine G_val (V_move rfl rfl) rfl rfl (.yes rfl rfl rfl rfl) ?_
            refine G.bool_t 29 rfl (decide_eq_true (by omega)) ?_
            refine G_stay (.no rfl rfl rfl rfl) rfl rfl ?_
            refine G_stay (.no rfl rfl rfl rfl) rfl rfl ?_
            refine G_stay (.no rfl rfl rfl rfl) rfl rfl ?_
            refine G_stay (.no rfl rfl rfl rfl) rfl rfl ?_
            refine G_val (V_pick_t rfl rfl rfl) rfl rfl (.yes rfl rfl rfl rfl) ?_
            refine G_val (V_pick_t rfl rfl rfl) rfl rfl (.none rfl) ?_
            refine G_val (V_move rfl rfl) rfl rfl (.none rfl) ?_
            refine G_stay (.no rfl rfl rfl rfl) rfl rfl ?_
            refine G_stay (.no rfl rfl rfl rfl) rfl rfl ?_
            refine G_stay (.no rfl rfl rfl rfl) rfl rfl ?_
            refine G_stay (.no rfl rfl rfl rfl) rfl rfl ?_
            refine G_stay (.un rfl rfl rfl rfl) rfl rfl ?_
            refine G_stay (.un rfl rfl rfl rfl) rfl rfl ?_
            refine G_stay (.un rfl rfl rfl rfl) rfl rfl ?_
            refine G_stay (.un rfl rfl rfl rfl) rfl rfl ?_
            refine G_stay (.no rfl rfl rfl rfl) rfl rfl ?_
            refine G_val (V_pick_t rfl rfl rfl) rfl rfl (.none rfl) ?_
            refine G_end (X_then ?_)
            refine G_cond_t rfl rfl ?_
            refine G_seq (G_region ?_)
            refine G_val (V_build rfl rfl (by simp [fillV, setLs, setL, Value.cells]; rfl)) rfl rfl (.none rfl) ?_
            refine G_storeA rfl rfl rfl rfl (by simp [Value.oneCell']) rfl (.none rfl) (.head _ _ _) rfl ?_
            refine G_val (V_assign rfl rfl) rfl rfl (.none rfl) ?_
            refine G_end (X_then (G_ret (X_block_ret (X_then_ret (X_then_ret (X_block_ret (X_then_ret ?_)))))))
            refine G_leaveS (.drop _ (.nil _)) (by exact (.cons (.cellA rfl (Cells.own (.head _)) rfl) (.cons (.tmp rfl) (.nil)))) rfl ?_ ?_
            · exact (.refl _)
            exact ⟨(by kernel_rfl), rfl⟩
          by_cases q2 : 57 < (s[i].toNat : Int)
          · refine G_seq ?_
            refine G_seq (G_region ?_)
            refine G_val (V_move rfl rfl) rfl rfl (.none rfl) ?_
            refine G_val (V_move rfl rfl) rfl rfl (.none rfl) ?_
            refine G_val (V_len rfl rfl) rfl rfl (.none rfl) ?_
            refine G_val (V_lss rfl rfl rfl) rfl rfl (.none rfl) ?_
            refine G_end (X_then ?_)
            refine G_cond_t rfl (decide_eq_true (by omega)) ?_
            refine G_skip (X_then (G_seq (G_block (G_seq (G_region ?_)))))
            refine G_val (V_move rfl rfl) rfl rfl (.none rfl) ?_
            refine G_val (V_rem_n rfl rfl rfl (by omega) (by omega)) rfl rfl (.none rfl) ?_
            refine G_val (V_eql rfl rfl rfl) rfl rfl (.none rfl) ?_
            refine G_val (V_move rfl rfl) rfl rfl (.none rfl) ?_
            refine G.bool_t 24 rfl (decide_eq_true (by omega)) ?_
            refine G_val (V_move rfl rfl) rfl rfl (.yes rfl rfl rfl rfl) ?_
            refine G_val (V_move rfl rfl) rfl rfl (.yes rfl rfl rfl rfl) ?_
            refine G_val (V_sidx rfl rfl rfl (by omega) (by assumption)) rfl rfl (.yes rfl rfl rfl rfl) ?_
            refine G_val (V_lss rfl rfl rfl) rfl rfl (.yes rfl rfl rfl rfl) ?_
            refine G_val (V_move rfl rfl) rfl rfl (.yes rfl rfl rfl rfl) ?_
            refine G.bool_f 29 rfl (decide_eq_false (by omega)) ?_
            refine G_val (V_move rfl rfl) rfl rfl (.yes rfl rfl rfl rfl) ?_
            refine G_val (V_move rfl rfl) rfl rfl (.yes rfl rfl rfl rfl) ?_
            refine G_val (V_sidx rfl rfl rfl (by omega) (by assumption)) rfl rfl (.yes rfl rfl rfl rfl) ?_
            refine G_val (V_gtr rfl rfl rfl) rfl rfl (.yes rfl rfl rfl rfl) ?_
            refine G_val (V_pick_f rfl rfl rfl) rfl rfl (.yes rfl rfl rfl rfl) ?_
            refine G_val (V_pick_t rfl rfl rfl) rfl rfl (.none rfl) ?_
            refine G_val (V_move rfl rfl) rfl rfl (.none rfl) ?_
            refine G.bool_t 36 rfl (decide_eq_true (by omega)) ?_
            refine G_stay (.no rfl rfl rfl rfl) rfl rfl ?_
            refine G_stay (.no rfl rfl rfl rfl) rfl rfl ?_
            refine G_stay (.no rfl rfl rfl rfl) rfl rfl ?_
            refine G_stay (.no rfl rfl rfl rfl) rfl rfl ?_
            refine G_stay (.un rfl rfl rfl rfl) rfl rfl ?_
            refine G_stay (.un rfl rfl rfl rfl) rfl rfl ?_
            refine G_stay (.un rfl rfl rfl rfl) rfl rfl ?_
            refine G_stay (.un rfl rfl rfl rfl) rfl rfl ?_
            refine G_stay (.no rfl rfl rfl rfl) rfl rfl ?_
            refine G_val (V_pick_t rfl rfl rfl) rfl rfl (.none rfl) ?_
            refine G_end (X_then ?_)
            refine G_cond_t rfl rfl ?_
            refine G_seq (G_region ?_)
            refine G_val (V_build rfl rfl (by simp [fillV, setLs, setL, Value.cells]; rfl)) rfl rfl (.none rfl) ?_
            refine G_storeA rfl rfl rfl rfl (by simp [Value.oneCell']) rfl (.none rfl) (.head _ _ _) rfl ?_
            refine G_val (V_assign rfl rfl) rfl rfl (.none rfl) ?_
            refine G_end (X_then (G_ret (X_block_ret (X_then_ret (X_then_ret (X_block_ret (X_then_ret ?_)))))))
            refine G_leaveS (.drop _ (.nil _)) (by exact (.cons (.cellA rfl (Cells.own (.head _)) rfl) (.cons (.tmp rfl) (.nil)))) rfl ?_ ?_
            · exact (.refl _)
            exact ⟨(by kernel_rfl), rfl⟩
          refine G_seq (G_seq (G_region ?_))
          refine G_val (V_move rfl rfl) rfl rfl (.none rfl) ?_
          refine G_val (V_move rfl rfl) rfl rfl (.none rfl) ?_
          refine G_val (V_len rfl rfl) rfl rfl (.none rfl) ?_
          refine G_val (V_lss rfl rfl rfl) rfl rfl (.none rfl) ?_
          refine G_end (X_then ?_)
          refine G_cond_t rfl (decide_eq_true (by omega)) ?_
          refine G_skip (X_then (G_seq (G_block (G_seq (G_region ?_)))))
          refine G_val (V_move rfl rfl) rfl rfl (.none rfl) ?_
          refine G_val (V_rem_n rfl rfl rfl (by omega) (by omega)) rfl rfl (.none rfl) ?_
          refine G_val (V_eql rfl rfl rfl) rfl rfl (.none rfl) ?_
          refine G_val (V_move rfl rfl) rfl rfl (.none rfl) ?_
          refine G.bool_t 24 rfl (decide_eq_true (by omega)) ?_
          refine G_val (V_move rfl rfl) rfl rfl (.yes rfl rfl rfl rfl) ?_
          refine G_val (V_move rfl rfl) rfl rfl (.yes rfl rfl rfl rfl) ?_
          refine G_val (V_sidx rfl rfl rfl (by omega) (by assumption)) rfl rfl (.yes rfl rfl rfl rfl) ?_
          refine G_val (V_lss rfl rfl rfl) rfl rfl (.yes rfl rfl rfl rfl) ?_
          refine G_val (V_move rfl rfl) rfl rfl (.yes rfl rfl rfl rfl) ?_
          refine G.bool_f 29 rfl (decide_eq_false (by omega)) ?_
          refine G_val (V_move rfl rfl) rfl rfl (.yes rfl rfl rfl rfl) ?_
          refine G_val (V_move rfl rfl) rfl rfl (.yes rfl rfl rfl rfl) ?_
          refine G_val (V_sidx rfl rfl rfl (by omega) (by assumption)) rfl rfl (.yes rfl rfl rfl rfl) ?_
          refine G_val (V_gtr rfl rfl rfl) rfl rfl (.yes rfl rfl rfl rfl) ?_
          refine G_val (V_pick_f rfl rfl rfl) rfl rfl (.yes rfl rfl rfl rfl) ?_
          refine G_val (V_pick_t rfl rfl rfl) rfl rfl (.none rfl) ?_
          refine G_val (V_move rfl rfl) rfl rfl (.none rfl) ?_
          refine G.bool_f 36 rfl (decide_eq_false (by omega)) ?_
          refine G_val (V_move rfl rfl) rfl rfl (.yes rfl rfl rfl rfl) ?_
          refine G_val (V_rem_n rfl rfl rfl (by omega) (by omega)) rfl rfl (.yes rfl rfl rfl rfl) ?_
          refine G_val (V_eql rfl rfl rfl) rfl rfl (.yes rfl rfl rfl rfl) ?_
          refine G_val (V_move rfl rfl) rfl rfl (.yes rfl rfl rfl rfl) ?_
          refine G.bool_f 40 rfl (decide_eq_false (by omega)) ?_
          refine G_stay (.no rfl rfl rfl rfl) rfl rfl ?_
          refine G_stay (.no rfl rfl rfl rfl) rfl rfl ?_
          refine G_stay (.no rfl rfl rfl rfl) rfl rfl ?_
          refine G_stay (.no rfl rfl rfl rfl) rfl rfl ?_
          refine G_val (V_pick_f rfl rfl rfl) rfl rfl (.yes rfl rfl rfl rfl) ?_
          refine G_val (V_pick_f rfl rfl rfl) rfl rfl (.none rfl) ?_
          refine G_end (X_then ?_)
          refine G_cond_f rfl rfl ?_
          refine G_skip (X_block (X_then (G_region ?_)))
          refine G_val (V_move rfl rfl) rfl rfl (.none rfl) ?_
          refine G_val (V_add_i64 rfl rfl rfl (by omega) (by omega)) rfl rfl (.none rfl) ?_
          refine G_val (V_assign rfl rfl) rfl rfl (.none rfl) ?_
          refine G_end (X_then ?_)
          exact G_again (i + 1) ⟨hlt, alt_step hall hlt (fun _ => ⟨by omega, by omega⟩) (fun h => by omega)⟩ (by omega) ⟨rfl, rfl, rfl, rfl, trivial⟩ rfl rfl
        · have he2 : (i : Int) % 2 = 1 := by omega
          by_cases hg : (s[i].toNat : Int) = 32
          · refine G_seq ?_
            refine G_seq (G_region ?_)
            refine G_val (V_move rfl rfl) rfl rfl (.none rfl) ?_
            refine G_val (V_move rfl rfl) rfl rfl (.none rfl) ?_
            refine G_val (V_len rfl rfl) rfl rfl (.none rfl) ?_
            refine G_val (V_lss rfl rfl rfl) rfl rfl (.none rfl) ?_
            refine G_end (X_then ?_)
            refine G_cond_t rfl (decide_eq_true (by omega)) ?_
            refine G_skip (X_then (G_seq (G_block (G_seq (G_region ?_)))))
            refine G_val (V_move rfl rfl) rfl rfl (.none rfl) ?_
            refine G_val (V_rem_n rfl rfl rfl (by omega) (by omega)) rfl rfl (.none rfl) ?_
            refine G_val (V_eql rfl rfl rfl) rfl rfl (.none rfl) ?_
            refine G_val (V_move rfl rfl) rfl rfl (.none rfl) ?_
            refine G.bool_f 24 rfl (decide_eq_false (by omega)) ?_
            refine G_stay (.no rfl rfl rfl rfl) rfl rfl ?_
            refine G_stay (.no rfl rfl rfl rfl) rfl rfl ?_
            refine G_stay (.no rfl rfl rfl rfl) rfl rfl ?_
            refine G_stay (.no rfl rfl rfl rfl) rfl rfl ?_
            refine G_stay (.no rfl rfl rfl rfl) rfl rfl ?_
            refine G_stay (.un rfl rfl rfl rfl) rfl rfl ?_
            refine G_stay (.un rfl rfl rfl rfl) rfl rfl ?_
            refine G_stay (.un rfl rfl rfl rfl) rfl rfl ?_
            refine G_stay (.un rfl rfl rfl rfl) rfl rfl ?_
            refine G_stay (.no rfl rfl rfl rfl) rfl rfl ?_
            refine G_val (V_pick_f rfl rfl rfl) rfl rfl (.none rfl) ?_
            refine G_val (V_move rfl rfl) rfl rfl (.none rfl) ?_
            refine G_val (V_move rfl rfl) rfl rfl (.yes rfl rfl rfl rfl) ?_
            refine G_val (V_rem_n rfl rfl rfl (by omega) (by omega)) rfl rfl (.yes rfl rfl rfl rfl) ?_
            refine G_val (V_eql rfl rfl rfl) rfl rfl (.yes rfl rfl rfl rfl) ?_
            refine G_val (V_move rfl rfl) rfl rfl (.yes rfl rfl rfl rfl) ?_
            refine G.bool_t 40 rfl (decide_eq_true (by omega)) ?_
            refine G_val (V_move rfl rfl) rfl rfl (.yes rfl rfl rfl rfl) ?_
            refine G_val (V_move rfl rfl) rfl rfl (.yes rfl rfl rfl rfl) ?_
            refine G_val (V_sidx rfl rfl rfl (by omega) (by assumption)) rfl rfl (.yes rfl rfl rfl rfl) ?_
            refine G_val (V_neq rfl rfl rfl) rfl rfl (.yes rfl rfl rfl rfl) ?_
            refine G_val (V_pick_t rfl rfl rfl) rfl rfl (.yes rfl rfl rfl rfl) ?_
            refine G_val (V_pick_f rfl rfl rfl) rfl rfl (.none rfl) ?_
            refine G_end (X_then ?_)
            refine G_cond_f rfl (decide_eq_false (by omega)) ?_
            refine G_skip (X_block (X_then (G_region ?_)))
            refine G_val (V_move rfl rfl) rfl rfl (.none rfl) ?_
            refine G_val (V_add_i64 rfl rfl rfl (by omega) (by omega)) rfl rfl (.none rfl) ?_
            refine G_val (V_assign rfl rfl) rfl rfl (.none rfl) ?_
            refine G_end (X_then ?_)
            exact G_again (i + 1) ⟨hlt, alt_step hall hlt (fun h => by omega) (fun _ => UInt8.toNat_inj.1 (by rw [show (32 : UInt8).toNat = 32 from rfl]; omega))⟩ (by omega) ⟨rfl, rfl, rfl, rfl, trivial⟩ rfl rfl
          · refine G_seq ?_
            refine G_seq (G_region ?_)
            refine G_val (V_move rfl rfl) rfl rfl (.none rfl) ?_
            refine G_val (V_move rfl rfl) rfl rfl (.none rfl) ?_
            refine G_val (V_len rfl rfl) rfl rfl (.none rfl) ?_
            refine G_val (V_lss rfl rfl rfl) rfl rfl (.none rfl) ?_
            refine G_end (X_then ?_)
            refine G_cond_t rfl (decide_eq_true (by omega)) ?_
            refine G_skip (X_then (G_seq (G_block (G_seq (G_region ?_)))))
            refine G_val (V_move rfl rfl) rfl rfl (.none rfl) ?_
            refine G_val (V_rem_n rfl rfl rfl (by omega) (by omega)) rfl rfl (.none rfl) ?_
            refine G_val (V_eql rfl rfl rfl) rfl rfl (.none rfl) ?_
            refine G_val (V_move rfl rfl) rfl rfl (.none rfl) ?_
            refine G.bool_f 24 rfl (decide_eq_false (by omega)) ?_
            refine G_stay (.no rfl rfl rfl rfl) rfl rfl ?_
            refine G_stay (.no rfl rfl rfl rfl) rfl rfl ?_
            refine G_stay (.no rfl rfl rfl rfl) rfl rfl ?_
            refine G_stay (.no rfl rfl rfl rfl) rfl rfl ?_
            refine G_stay (.no rfl rfl rfl rfl) rfl rfl ?_
            refine G_stay (.un rfl rfl rfl rfl) rfl rfl ?_
            refine G_stay (.un rfl rfl rfl rfl) rfl rfl ?_
            refine G_stay (.un rfl rfl rfl rfl) rfl rfl ?_
            refine G_stay (.un rfl rfl rfl rfl) rfl rfl ?_
            refine G_stay (.no rfl rfl rfl rfl) rfl rfl ?_
            refine G_val (V_pick_f rfl rfl rfl) rfl rfl (.none rfl) ?_
            refine G_val (V_move rfl rfl) rfl rfl (.none rfl) ?_
            refine G_val (V_move rfl rfl) rfl rfl (.yes rfl rfl rfl rfl) ?_
            refine G_val (V_rem_n rfl rfl rfl (by omega) (by omega)) rfl rfl (.yes rfl rfl rfl rfl) ?_
            refine G_val (V_eql rfl rfl rfl) rfl rfl (.yes rfl rfl rfl rfl) ?_
            refine G_val (V_move rfl rfl) rfl rfl (.yes rfl rfl rfl rfl) ?_
            refine G.bool_t 40 rfl (decide_eq_true (by omega)) ?_
            refine G_val (V_move rfl rfl) rfl rfl (.yes rfl rfl rfl rfl) ?_
            refine G_val (V_move rfl rfl) rfl rfl (.yes rfl rfl rfl rfl) ?_
            refine G_val (V_sidx rfl rfl rfl (by omega) (by assumption)) rfl rfl (.yes rfl rfl rfl rfl) ?_
            refine G_val (V_neq rfl rfl rfl) rfl rfl (.yes rfl rfl rfl rfl) ?_
            refine G_val (V_pick_t rfl rfl rfl) rfl rfl (.yes rfl rfl rfl rfl) ?_
            refine G_val (V_pick_f rfl rfl rfl) rfl rfl (.none rfl) ?_
            refine G_end (X_then ?_)
            refine G_cond_t rfl (decide_eq_true (by omega)) ?_
            refine G_seq (G_region ?_)
            refine G_val (V_build rfl rfl (by simp [fillV, setLs, setL, Value.cells]; rfl)) rfl rfl (.none rfl) ?_
            refine G_storeA rfl rfl rfl rfl (by simp [Value.oneCell']) rfl (.none rfl) (.head _ _ _) rfl ?_
            refine G_val (V_assign rfl rfl) rfl rfl (.none rfl) ?_
            refine G_end (X_then (G_ret (X_block_ret (X_then_ret (X_then_ret (X_block_ret (X_then_ret ?_)))))))
            refine G_leaveS (.drop _ (.nil _)) (by exact (.cons (.cellA rfl (Cells.own (.head _)) rfl) (.cons (.tmp rfl) (.nil)))) rfl ?_ ?_
            · exact (.refl _)
            exact ⟨(by kernel_rfl), rfl⟩
      · obtain rfl : i = s.length := by omega
        exact absurd (hP.2 ⟨hodd, hall⟩) h1
  · rw [if_neg (fun h => hodd (hP.1 h).1)]
    have ho : (s.length : Int) % 2 = 0 := by omega
    refine CallS.intro (l := [_]) _ Tryd.func30 rfl Tryd.ntmps30 rfl ?_
    refine G_seq (G_region ?_)
    (refine G_alloc rfl rfl rfl (.none rfl) ?_; intro b2)
    refine G_val (V_assign rfl rfl) rfl rfl (.none rfl) ?_
    refine G_end (X_then (G_seq (G_seq (G_region ?_))))
    refine G_val (V_move rfl rfl) rfl rfl (.none rfl) ?_
    refine G_val (V_seql rfl rfl rfl) rfl rfl (.none rfl) ?_
    refine G_end (X_then ?_)
    refine G_cond_f rfl (decide_eq_false (by omega)) ?_
    refine G_skip (X_then (G_seq (G_seq (G_region ?_))))
    refine G_val (V_move rfl rfl) rfl rfl (.none rfl) ?_
    refine G_val (V_len rfl rfl) rfl rfl (.none rfl) ?_
    refine G_val (V_rem_n rfl rfl rfl (by omega) (by omega)) rfl rfl (.none rfl) ?_
    refine G_val (V_eql rfl rfl rfl) rfl rfl (.none rfl) ?_
    refine G_end (X_then ?_)
    refine G_cond_t rfl (decide_eq_true (by omega)) ?_
    refine G_seq (G_region ?_)
    refine G_val (V_build rfl rfl (by simp [fillV, setLs, setL, Value.cells]; rfl)) rfl rfl (.none rfl) ?_
    refine G_storeA rfl rfl rfl rfl (by simp [Value.oneCell']) rfl (.none rfl) (.head _ _ _) rfl ?_
    refine G_val (V_assign rfl rfl) rfl rfl (.none rfl) ?_
    refine G_end (X_then (G_ret (X_then_ret ?_)))
    refine G_leaveS (.drop _ (.nil _)) (by exact (.cons (.cellA rfl (Cells.own (.head _)) rfl) (.cons (.tmp rfl) (.nil)))) rfl ?_ ?_
    · exact (.refl _)
    exact ⟨(by kernel_rfl), rfl⟩
end
end Go.Proofs.YthcfakmmomfcaaaDoor
set_option linter.unusedSimpArgs false
set_option linter.unusedVariables false
set_option maxHeartbeats 2000000
set_option maxRecDepth 20000
namespace Go.Proofs.YthcfakmmomfcaaaDoor
open Go.RowKit
/-! The law's helpers: of, joins, compares, begins, awake. -/
section
variable (E : Env) (L : List Res)
theorem ofL_call (p : Option Addr) (n c : Nat) (l : List Int) (h : SlE E 1 p n (i64s l)) (hn : n ≤ 9223372036854775806) : CallV Tryd.prog 37 #[.slice p n c] E L (ofM l).1 := by
  obtain ⟨n', a', b', c', d', hlk⟩ := ofM_lk l
  generalize hv : ofM l = v at hlk ⊢
  refine CallS.toV (CallS.intro (l := [_]) _ Tryd.func37 rfl Tryd.ntmps37 rfl ?_)
  refine G_seq (G_region ?_)
  (refine G_alloc rfl rfl rfl (.none rfl) ?_; intro b2)
  refine G_end (X_then (G_seq (G_region ?_)))
  refine G_val (V_move rfl rfl) rfl rfl (.none rfl) ?_
  refine G_callv (k := 12) (.mk rfl rfl rfl rfl) rfl rfl (.none rfl) (Of_call _ _ p n c l h hn) ?_
  rw [hv, hlk]
  refine G_val (V_move rfl rfl) rfl rfl (.none rfl) ?_
  refine G_val (V_extract rfl rfl rfl) rfl rfl (.none rfl) ?_
  refine G_val (V_extract rfl rfl rfl) rfl rfl (.none rfl) ?_
  (refine G_alloc rfl rfl rfl (.none rfl) ?_; intro b3)
  refine G_storeA rfl rfl rfl rfl (by simp [Value.oneCell']) rfl (.none rfl) (.head _ _ _) rfl ?_
  refine G_val (V_assign rfl rfl) rfl rfl (.none rfl) ?_
  refine G_end (X_then (G_seq (G_region ?_)))
  refine G_val (V_loadA rfl rfl (Cells.own (.head _)) rfl) rfl rfl (.none rfl) ?_
  refine G_storeA rfl rfl rfl rfl (by simp [Value.oneCell']) rfl (.none rfl) (.tail _ (.head _ _ _)) rfl ?_
  refine G_end (X_then (G_ret ?_))
  refine G_leaveS (.drop _ (.drop _ (.nil _))) (by exact (.cons (.cellA rfl (Cells.own (.tail _ (.head _))) rfl) (.nil))) rfl ?_ ?_
  · exact (.refl _)
  exact ⟨rfl, rfl⟩
theorem of_lit (p : Option Addr) (n c : Nat) (vs : List Value) (l : List Int) (v : Value) (h : SlE E 1 p n vs) (hl : unI vs = some l) (hn : n ≤ 9223372036854775806) (hv : (ofM l).1 = v) : CallV Tryd.prog 37 #[.slice p n c] E L v := by
  rw [← hv]
  exact ofL_call E L p n c l (h.toI hl) hn
end
section
variable (E : Env) (L : List Res)
theorem of_0 (p : Option Addr) (c : Nat) (h : SlE E 1 p 0 []) : CallV Tryd.prog 37 #[.slice p 0 c] E L (lk 0 0 0 0 0) := of_lit E L p 0 c _ [] _ h rfl (by omega) (by rfl)
theorem of_1 (p : Option Addr) (c : Nat) (x : Int) (h : SlE E 1 p 1 [.int .i64 x]) (hx : 0 ≤ x ∧ x < 8) : CallV Tryd.prog 37 #[.slice p 1 c] E L (lk 1 x 0 0 0) :=
  of_lit E L p 1 c _ [x] _ h rfl (by omega) (by unfold ofM; rw [if_neg (by simp), if_pos (by simpa using hx)]; rfl)
theorem ofL_call' (p : Option Addr) (c : Nat) (x y : Int) (h : SlE E 1 p 2 [.int .i64 x, .int .i64 y]) (hx : 0 ≤ x ∧ x < 8) (hy : 0 ≤ y ∧ y < 8) : CallV Tryd.prog 37 #[.slice p 2 c] E L (lk 2 x y 0 0) :=
  of_lit E L p 2 c _ [x, y] _ h rfl (by omega) (by unfold ofM; rw [if_neg (by simp), if_pos (by simpa using ⟨hx, hy⟩)]; rfl)
theorem of_lit' (p : Option Addr) (c : Nat) (x y z : Int) (h : SlE E 1 p 3 [.int .i64 x, .int .i64 y, .int .i64 z]) (hx : 0 ≤ x ∧ x < 8) (hy : 0 ≤ y ∧ y < 8) (hz : 0 ≤ z ∧ z < 8) : CallV Tryd.prog 37 #[.slice p 3 c] E L (lk 3 x y z 0) :=
  of_lit E L p 3 c _ [x, y, z] _ h rfl (by omega) (by unfold ofM; rw [if_neg (by simp), if_pos (by simpa using ⟨hx, hy, hz⟩)]; rfl)
theorem joinsT_call (k n a b c d n' a' b' c' d' n'' a'' b'' c'' d'' : Int) (h : joinM k n a b c d n' a' b' c' d' = (lk n'' a'' b'' c'' d'', 0)) : CallV Tryd.prog 38 #[.int .i64 k, lk n a b c d, lk n' a' b' c' d', lk n'' a'' b'' c'' d''] E L (.bool true) := by
  refine CallS.toV (CallS.intro (l := [_, _, _, _]) _ Tryd.func38 rfl Tryd.ntmps38 rfl ?_)
  refine G_seq (G_region ?_)
  (refine G_boxA rfl rfl rfl rfl (.none rfl) ?_; intro b5)
  (refine G_boxA rfl rfl rfl rfl (.none rfl) ?_; intro b6)
  (refine G_boxA rfl rfl rfl rfl (.none rfl) ?_; intro b7)
  refine G_val (V_assign rfl rfl) rfl rfl (.none rfl) ?_
  refine G_end (X_then (G_seq (G_region ?_)))
  refine G_val (V_move rfl rfl) rfl rfl (.none rfl) ?_
  refine G_val (V_loadA rfl rfl (Cells.own (.tail _ (.tail _ (.head _)))) rfl) rfl rfl (.none rfl) ?_
  refine G_val (V_loadA rfl rfl (Cells.own (.tail _ (.head _))) rfl) rfl rfl (.none rfl) ?_
  refine G_call (k := 21) (.mk rfl rfl rfl rfl) rfl rfl (.none rfl) (Join_call _ _ k n a b c d n' a' b' c' d') ?_
  rintro r1 E1 L1 hE1 ⟨rfl, rfl⟩
  rw [h]
  refine G_val (V_move rfl rfl) rfl rfl (.none rfl) ?_
  refine G_val (V_extract rfl rfl rfl) rfl rfl (.none rfl) ?_
  refine G_val (V_extract rfl rfl rfl) rfl rfl (.none rfl) ?_
  (refine G_alloc rfl rfl rfl (.none rfl) ?_; intro b9)
  refine G_storeA rfl rfl rfl rfl (by simp [Value.oneCell']) rfl (.none rfl) (.head _ _ _) rfl ?_
  refine G_val (V_assign rfl rfl) rfl rfl (.none rfl) ?_
  refine G_end (X_then (G_seq (G_region ?_)))
  refine G_val (V_move rfl rfl) rfl rfl (.none rfl) ?_
  refine G_val (V_eql rfl rfl rfl) rfl rfl (.none rfl) ?_
  refine G_val (V_move rfl rfl) rfl rfl (.none rfl) ?_
  refine G.bool_t 20 rfl (decide_eq_true (by omega)) ?_
  refine G_val (V_loadA rfl rfl (Cells.own (.head _)) rfl) rfl rfl (.yes rfl rfl rfl rfl) ?_
  refine G_val (V_loadA rfl rfl (Cells.own (.tail _ (.head _))) rfl) rfl rfl (.yes rfl rfl rfl rfl) ?_
  refine G_val (V_aeql_25 rfl rfl rfl) rfl rfl (.yes rfl rfl rfl rfl) ?_
  refine G_val (V_pick_t rfl rfl rfl) rfl rfl (.none rfl) ?_
  refine G_val (V_assign rfl rfl) rfl rfl (.none rfl) ?_
  refine G_end (X_then (G_ret ?_))
  refine G_leaveS (.drop _ (.drop _ (.drop _ (.drop _ (.nil _))))) (by exact (.cons (.tmp rfl) (.nil))) rfl ?_ ?_
  · exact hE1
  exact ⟨(by (simp (discharger := omega) only [resVal, if_pos, if_neg]; first | done | rfl)), (by rfl)⟩
theorem comparesT_call (n a b c d n' a' b' c' d' w : Int) (h : cmpM n a b c d n' a' b' c' d' = (w, 0)) : CallV Tryd.prog 43 #[lk n a b c d, lk n' a' b' c' d', .int .i64 w] E L (.bool true) := by
  refine CallS.toV (CallS.intro (l := [_, _, _]) _ Tryd.func43 rfl Tryd.ntmps43 rfl ?_)
  refine G_seq (G_region ?_)
  (refine G_boxA rfl rfl rfl rfl (.none rfl) ?_; intro b3)
  (refine G_boxA rfl rfl rfl rfl (.none rfl) ?_; intro b4)
  refine G_val (V_assign rfl rfl) rfl rfl (.none rfl) ?_
  refine G_end (X_then (G_seq (G_region ?_)))
  refine G_val (V_loadA rfl rfl (Cells.own (.tail _ (.head _))) rfl) rfl rfl (.none rfl) ?_
  refine G_val (V_loadA rfl rfl (Cells.own (.head _)) rfl) rfl rfl (.none rfl) ?_
  refine G_call (k := 25) (.mk rfl rfl rfl rfl) rfl rfl (.none rfl) (Compare_call _ _ n a b c d n' a' b' c' d') ?_
  rintro r1 E1 L1 hE1 ⟨rfl, rfl⟩
  rw [h]
  refine G_val (V_move rfl rfl) rfl rfl (.none rfl) ?_
  refine G_val (V_extract rfl rfl rfl) rfl rfl (.none rfl) ?_
  refine G_val (V_extract rfl rfl rfl) rfl rfl (.none rfl) ?_
  refine G_val (V_assign rfl rfl) rfl rfl (.none rfl) ?_
  refine G_val (V_assign rfl rfl) rfl rfl (.none rfl) ?_
  refine G_end (X_then (G_seq (G_region ?_)))
  refine G_val (V_move rfl rfl) rfl rfl (.none rfl) ?_
  refine G_val (V_eql rfl rfl rfl) rfl rfl (.none rfl) ?_
  refine G_val (V_move rfl rfl) rfl rfl (.none rfl) ?_
  refine G.bool_t 17 rfl (decide_eq_true (by omega)) ?_
  refine G_val (V_move rfl rfl) rfl rfl (.yes rfl rfl rfl rfl) ?_
  refine G_val (V_move rfl rfl) rfl rfl (.yes rfl rfl rfl rfl) ?_
  refine G_val (V_eql rfl rfl rfl) rfl rfl (.yes rfl rfl rfl rfl) ?_
  refine G_val (V_pick_t rfl rfl rfl) rfl rfl (.none rfl) ?_
  refine G_val (V_assign rfl rfl) rfl rfl (.none rfl) ?_
  refine G_end (X_then (G_ret ?_))
  refine G_leaveS (.drop _ (.drop _ (.nil _))) (by exact (.cons (.tmp rfl) (.nil))) rfl ?_ ?_
  · exact hE1
  exact ⟨(by (simp (discharger := omega) only [resVal, if_pos, if_neg]; first | done | rfl)), (by rfl)⟩
end
end Go.Proofs.YthcfakmmomfcaaaDoor
set_option linter.unusedSimpArgs false
set_option linter.unusedVariables false
set_option maxHeartbeats 2000000
set_option maxRecDepth 20000
namespace Go.Proofs.YthcfakmmomfcaaaDoor
open Go.RowKit
theorem parseP_alt {s : List UInt8} (h0 : s ≠ [45]) (h : altP s) : parseP s = ofM (digs s) := by
  unfold parseP
  rw [if_neg h0, if_pos ((alt_iff s.length s (Nat.le_refl _)).2 h), digs_split s.length s (Nat.le_refl _) h]
theorem parseP_bad {s : List UInt8} (h0 : s ≠ [45]) (h : ¬ altP s) : parseP s = (lk 0 0 0 0 0, 3) := by
  unfold parseP
  rw [if_neg h0, if_neg (fun h1 => h ((alt_iff s.length s (Nat.le_refl _)).1 h1))]
theorem parseP_07 : parseP [48, 32, 55] = (lk 2 0 7 0 0, 0) := by
  rw [parseP_alt (by decide) (by simp [altP])]
  rfl
section
variable (E : Env) (L : List Res)
theorem Parse07_call : CallS Tryd.prog 29 #[.string (S [48, 32, 55])] E L (fun r E' L' => r = .tuple #[lk 2 0 7 0 0, .int .i64 0] ∧ L = L') := by
  have h := Parse_call E L [48, 32, 55] (by simp)
  rw [parseP_07] at h
  exact h
theorem Text07_call : CallS Tryd.prog 16 #[lk 2 0 7 0 0] E L (fun r E' L' => r = .tuple #[.string (S [48, 32, 55]), .int .i64 0] ∧ L = L') := by
  have h := Text_call E L 2 0 7 0 0
  rw [show txM 2 0 7 0 0 = ([48, 32, 55], 0) by rfl] at h
  exact h
theorem joins1_call : CallV Tryd.prog 38 #[.int .i64 2, lk 2 0 1 0 0, lk 1 2 0 0 0, lk 2 0 1 0 0] E L (.bool true) := joinsT_call E L _ _ _ _ _ _ _ _ _ _ _ _ _ _ _ _ (by rfl)
theorem joinsT_call' : CallV Tryd.prog 38 #[.int .i64 3, lk 2 0 1 0 0, lk 1 2 0 0 0, lk 3 0 1 2 0] E L (.bool true) := joinsT_call E L _ _ _ _ _ _ _ _ _ _ _ _ _ _ _ _ (by rfl)
theorem compares1_call : CallV Tryd.prog 43 #[lk 1 0 0 0 0, lk 2 0 0 0 0, .int .i64 (-1)] E L (.bool true) := comparesT_call E L _ _ _ _ _ _ _ _ _ _ _ (by rfl)
theorem comparesT_call' : CallV Tryd.prog 43 #[lk 1 1 0 0 0, lk 2 0 7 0 0, .int .i64 1] E L (.bool true) := comparesT_call E L _ _ _ _ _ _ _ _ _ _ _ (by rfl)
theorem awake_call : CallS Tryd.prog 10 #[] E L (fun r E' L' => r = .bool true ∧ L = L') := by
  refine CallS.intro (l := []) _ Tryd.func10 rfl Tryd.ntmps10 rfl ?_
  refine G_seq (G_region ?_)
  refine G_val (V_assign rfl rfl) rfl rfl (.none rfl) ?_
  refine G_end (X_then (G_seq (G_region ?_)))
  (refine G_litZ rfl rfl (by decide) (by simp [fillS, zeros, setLs, setL, Value.cells, List.range, List.range.loop]; rfl) (by rfl) rfl rfl (.none rfl) ?_; intro b6 E6 hE6 hs6)
  refine G_callv (k := 37) (.mk rfl rfl rfl rfl) rfl rfl (.none rfl) (ofL_call' _ _ _ _ _ _ (by assumption) (by omega) (by omega)) ?_
  dsimp only [Go.Proofs.YthcfakmmomfcaaaDoor.lk]
  refine G_call (k := 16) (.mk rfl rfl rfl rfl) rfl rfl (.none rfl) (Text07_call _ _) ?_
  rintro r1 E2 L3 hE4 ⟨rfl, rfl⟩
  replace hs6 := hs6.mono hE4
  refine G_val (V_move rfl rfl) rfl rfl (.none rfl) ?_
  refine G_val (V_extract rfl rfl rfl) rfl rfl (.none rfl) ?_
  refine G_val (V_extract rfl rfl rfl) rfl rfl (.none rfl) ?_
  refine G_val (V_assign rfl rfl) rfl rfl (.none rfl) ?_
  refine G_val (V_assign rfl rfl) rfl rfl (.none rfl) ?_
  refine G_end (X_then (G_seq (G_region ?_)))
  refine G_call (k := 29) (.mk rfl rfl rfl rfl) rfl rfl (.none rfl) (Parse07_call _ _) ?_
  rintro r5 E7 L8 hE9 ⟨rfl, rfl⟩
  replace hs6 := hs6.mono hE9
  refine G_val (V_move rfl rfl) rfl rfl (.none rfl) ?_
  refine G_val (V_extract rfl rfl rfl) rfl rfl (.none rfl) ?_
  refine G_val (V_extract rfl rfl rfl) rfl rfl (.none rfl) ?_
  (refine G_alloc rfl rfl rfl (.none rfl) ?_; intro b3)
  refine G_storeA rfl rfl rfl rfl (by simp [Value.oneCell']) rfl (.none rfl) (.head _ _ _) rfl ?_
  refine G_val (V_assign rfl rfl) rfl rfl (.none rfl) ?_
  refine G_end (X_then (G_seq ?_))
  refine G_drawX 56 ((0, 2) :: (1, 3) :: (2, 0) :: (3, 0) :: (4, 0) :: (5, 0) :: (6, 0) :: (7, 0) :: (8, 0) :: (9, 0) :: (10, 0) :: (11, 0) :: (12, 0) :: (13, 0) :: (14, 0) :: (15, 0) :: (16, 0) :: (17, 0) :: (18, 1) :: (19, 2) :: (20, 3) :: (21, 0) :: (22, 0) :: (23, 0) :: (24, 2) :: (25, 3) :: (26, 2) :: (27, 3) :: (28, 2) :: (29, 3) :: (30, 3) :: (31, 0) :: (32, 0) :: (33, 2) :: (34, 3) :: (35, 2) :: (36, 3) :: (37, 2) :: (38, 3) :: (39, 3) :: (40, 0) :: (41, 0) :: (42, 2) :: (43, 3) :: (44, 2) :: (45, 3) :: (46, 3) :: (47, 0) :: (48, 0) :: (49, 2) :: (50, 3) :: (51, 2) :: (52, 3) :: (53, 3) :: (54, 0) :: (55, 0) :: []) mixed (by kernel_rfl) ?_
  (refine F_litZ rfl rfl rfl (by decide) (by simp [fillS, zeros, setLs, setL, Value.cells, List.range, List.range.loop]; rfl) (by rfl) rfl rfl (.none rfl) ?_; intro b15 E15 hE15 hs15)
  replace hs6 := hs6.mono hE15
  refine F_callv (k := 37) rfl (.mk rfl rfl rfl rfl) rfl rfl (.none rfl) (fun _ => ofL_call' _ _ _ _ _ _ (by assumption) (by omega) (by omega)) ?_
  dsimp only [Go.Proofs.YthcfakmmomfcaaaDoor.lk]
  refine F_pure rfl (fun _ _ => V_buildArr rfl rfl (by simp [fillS, setLs, setL, Value.cells]; rfl)) rfl rfl (.none rfl) ?_
  refine F_pure rfl (fun _ _ => V_build rfl rfl (by simp [fillV, setLs, setL, Value.cells]; rfl)) rfl rfl (.none rfl) ?_
  refine F_pure rfl (fun _ _ => V_aeql_25 rfl rfl rfl) rfl rfl (.none rfl) ?_
  refine F_pure rfl (fun _ _ => V_move rfl rfl) rfl rfl (.none rfl) ?_
  refine GF.bool_t 20 rfl (by kernel_rfl) ?_
  refine F_pure rfl (fun _ _ => V_move rfl rfl) rfl rfl (.yes rfl rfl rfl rfl) ?_
  refine F_pure rfl (fun _ _ => V_eql rfl rfl rfl) rfl rfl (.yes rfl rfl rfl rfl) ?_
  refine F_pure rfl (fun _ _ => V_pick_t rfl rfl rfl) rfl rfl (.none rfl) ?_
  refine F_pure rfl (fun _ _ => V_move rfl rfl) rfl rfl (.none rfl) ?_
  refine GF.bool_t 24 rfl (by kernel_rfl) ?_
  refine F_pure rfl (fun _ _ => V_move rfl rfl) rfl rfl (.yes rfl rfl rfl rfl) ?_
  refine F_pure rfl (fun _ _ => V_seql rfl rfl rfl) rfl rfl (.yes rfl rfl rfl rfl) ?_
  refine F_pure rfl (fun _ _ => V_pick_t rfl rfl rfl) rfl rfl (.none rfl) ?_
  refine F_pure rfl (fun _ _ => V_move rfl rfl) rfl rfl (.none rfl) ?_
  refine GF.bool_t 28 rfl (by kernel_rfl) ?_
  refine F_pure rfl (fun _ _ => V_move rfl rfl) rfl rfl (.yes rfl rfl rfl rfl) ?_
  refine F_pure rfl (fun _ _ => V_eql rfl rfl rfl) rfl rfl (.yes rfl rfl rfl rfl) ?_
  refine F_pure rfl (fun _ _ => V_pick_t rfl rfl rfl) rfl rfl (.none rfl) ?_
  refine F_pure rfl (fun _ _ => V_move rfl rfl) rfl rfl (.none rfl) ?_
  refine GF.bool_t 32 rfl (by kernel_rfl) ?_
  refine F_load rfl (.head _) (V_loadA rfl rfl (Cells.own (.head _)) rfl) rfl rfl (.yes rfl rfl rfl rfl) ?_
  (refine F_litZ rfl rfl rfl (by decide) (by simp [fillS, zeros, setLs, setL, Value.cells, List.range, List.range.loop]; rfl) (by rfl) rfl rfl (.yes rfl rfl rfl rfl) ?_; intro b34 E34 hE34 hs34)
  replace hs15 := hs15.mono hE34
  replace hs6 := hs6.mono hE34
  refine F_callv (k := 37) rfl (.mk rfl rfl rfl rfl) rfl rfl (.yes rfl rfl rfl rfl) (fun _ => ofL_call' _ _ _ _ _ _ (by assumption) (by omega) (by omega)) ?_
  dsimp only [Go.Proofs.YthcfakmmomfcaaaDoor.lk]
  refine F_pure rfl (fun _ _ => V_aeql_25 rfl rfl rfl) rfl rfl (.yes rfl rfl rfl rfl) ?_
  refine F_pure rfl (fun _ _ => V_pick_t rfl rfl rfl) rfl rfl (.none rfl) ?_
  refine F_pure rfl (fun _ _ => V_move rfl rfl) rfl rfl (.none rfl) ?_
  refine GF.bool_t 38 rfl (by kernel_rfl) ?_
  (refine F_litZ rfl rfl rfl (by decide) (by simp [fillS, zeros, setLs, setL, Value.cells, List.range, List.range.loop]; rfl) (by rfl) rfl rfl (.yes rfl rfl rfl rfl) ?_; intro b39 E39 hE39 hs39)
  replace hs34 := hs34.mono hE39
  replace hs15 := hs15.mono hE39
  replace hs6 := hs6.mono hE39
  refine F_callv (k := 37) rfl (.mk rfl rfl rfl rfl) rfl rfl (.yes rfl rfl rfl rfl) (fun _ => ofL_call' _ _ _ _ _ _ (by assumption) (by omega) (by omega)) ?_
  dsimp only [Go.Proofs.YthcfakmmomfcaaaDoor.lk]
  (refine F_litZ rfl rfl rfl (by decide) (by simp [fillS, zeros, setLs, setL, Value.cells, List.range, List.range.loop]; rfl) (by rfl) rfl rfl (.yes rfl rfl rfl rfl) ?_; intro b41 E41 hE41 hs41)
  replace hs39 := hs39.mono hE41
  replace hs34 := hs34.mono hE41
  replace hs15 := hs15.mono hE41
  replace hs6 := hs6.mono hE41
  refine F_callv (k := 37) rfl (.mk rfl rfl rfl rfl) rfl rfl (.yes rfl rfl rfl rfl) (fun _ => of_1 _ _ _ _ _ (by assumption) (by omega)) ?_
  dsimp only [Go.Proofs.YthcfakmmomfcaaaDoor.lk]
  (refine F_litZ rfl rfl rfl (by decide) (by simp [fillS, zeros, setLs, setL, Value.cells, List.range, List.range.loop]; rfl) (by rfl) rfl rfl (.yes rfl rfl rfl rfl) ?_; intro b43 E43 hE43 hs43)
  replace hs41 := hs41.mono hE43
  replace hs39 := hs39.mono hE43
  replace hs34 := hs34.mono hE43
  replace hs15 := hs15.mono hE43
  replace hs6 := hs6.mono hE43
  refine F_callv (k := 37) rfl (.mk rfl rfl rfl rfl) rfl rfl (.yes rfl rfl rfl rfl) (fun _ => ofL_call' _ _ _ _ _ _ (by assumption) (by omega) (by omega)) ?_
  dsimp only [Go.Proofs.YthcfakmmomfcaaaDoor.lk]
  refine F_callv (k := 38) rfl (.mk rfl rfl rfl rfl) rfl rfl (.yes rfl rfl rfl rfl) (fun _ => joins1_call _ _) ?_
  refine F_pure rfl (fun _ _ => V_pick_t rfl rfl rfl) rfl rfl (.none rfl) ?_
  refine F_pure rfl (fun _ _ => V_move rfl rfl) rfl rfl (.none rfl) ?_
  (refine F_litZ rfl rfl rfl (by decide) (by simp [fillS, zeros, setLs, setL, Value.cells, List.range, List.range.loop]; rfl) (by rfl) rfl rfl (.yes rfl rfl rfl rfl) ?_; intro b48 E48 hE48 hs48)
  replace hs43 := hs43.mono hE48
  replace hs41 := hs41.mono hE48
  replace hs39 := hs39.mono hE48
  replace hs34 := hs34.mono hE48
  replace hs15 := hs15.mono hE48
  replace hs6 := hs6.mono hE48
  refine F_callv (k := 37) rfl (.mk rfl rfl rfl rfl) rfl rfl (.yes rfl rfl rfl rfl) (fun _ => ofL_call' _ _ _ _ _ _ (by assumption) (by omega) (by omega)) ?_
  dsimp only [Go.Proofs.YthcfakmmomfcaaaDoor.lk]
  (refine F_litZ rfl rfl rfl (by decide) (by simp [fillS, zeros, setLs, setL, Value.cells, List.range, List.range.loop]; rfl) (by rfl) rfl rfl (.yes rfl rfl rfl rfl) ?_; intro b50 E50 hE50 hs50)
  replace hs48 := hs48.mono hE50
  replace hs43 := hs43.mono hE50
  replace hs41 := hs41.mono hE50
  replace hs39 := hs39.mono hE50
  replace hs34 := hs34.mono hE50
  replace hs15 := hs15.mono hE50
  replace hs6 := hs6.mono hE50
  refine F_callv (k := 37) rfl (.mk rfl rfl rfl rfl) rfl rfl (.yes rfl rfl rfl rfl) (fun _ => of_1 _ _ _ _ _ (by assumption) (by omega)) ?_
  dsimp only [Go.Proofs.YthcfakmmomfcaaaDoor.lk]
  (refine F_litZ rfl rfl rfl (by decide) (by simp [fillS, zeros, setLs, setL, Value.cells, List.range, List.range.loop]; rfl) (by rfl) rfl rfl (.yes rfl rfl rfl rfl) ?_; intro b52 E52 hE52 hs52)
  replace hs50 := hs50.mono hE52
  replace hs48 := hs48.mono hE52
  replace hs43 := hs43.mono hE52
  replace hs41 := hs41.mono hE52
  replace hs39 := hs39.mono hE52
  replace hs34 := hs34.mono hE52
  replace hs15 := hs15.mono hE52
  replace hs6 := hs6.mono hE52
  refine F_callv (k := 37) rfl (.mk rfl rfl rfl rfl) rfl rfl (.yes rfl rfl rfl rfl) (fun _ => of_lit' _ _ _ _ _ _ _ (by assumption) (by omega) (by omega) (by omega)) ?_
  dsimp only [Go.Proofs.YthcfakmmomfcaaaDoor.lk]
  refine F_callv (k := 38) rfl (.mk rfl rfl rfl rfl) rfl rfl (.yes rfl rfl rfl rfl) (fun _ => joinsT_call' _ _) ?_
  refine F_pure rfl (fun _ _ => V_pick_t rfl rfl rfl) rfl rfl (.none rfl) ?_
  refine F_pure rfl (fun _ _ => V_move rfl rfl) rfl rfl (.none rfl) ?_
  (refine F_litZ rfl rfl rfl (by decide) (by simp [fillS, zeros, setLs, setL, Value.cells, List.range, List.range.loop]; rfl) (by rfl) rfl rfl (.yes rfl rfl rfl rfl) ?_; intro b57 E57 hE57 hs57)
  replace hs52 := hs52.mono hE57
  replace hs50 := hs50.mono hE57
  replace hs48 := hs48.mono hE57
  replace hs43 := hs43.mono hE57
  replace hs41 := hs41.mono hE57
  replace hs39 := hs39.mono hE57
  replace hs34 := hs34.mono hE57
  replace hs15 := hs15.mono hE57
  replace hs6 := hs6.mono hE57
  refine F_callv (k := 37) rfl (.mk rfl rfl rfl rfl) rfl rfl (.yes rfl rfl rfl rfl) (fun _ => of_1 _ _ _ _ _ (by assumption) (by omega)) ?_
  dsimp only [Go.Proofs.YthcfakmmomfcaaaDoor.lk]
  (refine F_litZ rfl rfl rfl (by decide) (by simp [fillS, zeros, setLs, setL, Value.cells, List.range, List.range.loop]; rfl) (by rfl) rfl rfl (.yes rfl rfl rfl rfl) ?_; intro b59 E59 hE59 hs59)
  replace hs57 := hs57.mono hE59
  replace hs52 := hs52.mono hE59
  replace hs50 := hs50.mono hE59
  replace hs48 := hs48.mono hE59
  replace hs43 := hs43.mono hE59
  replace hs41 := hs41.mono hE59
  replace hs39 := hs39.mono hE59
  replace hs34 := hs34.mono hE59
  replace hs15 := hs15.mono hE59
  replace hs6 := hs6.mono hE59
  refine F_callv (k := 37) rfl (.mk rfl rfl rfl rfl) rfl rfl (.yes rfl rfl rfl rfl) (fun _ => ofL_call' _ _ _ _ _ _ (by assumption) (by omega) (by omega)) ?_
  dsimp only [Go.Proofs.YthcfakmmomfcaaaDoor.lk]
  refine F_callv (k := 43) rfl (.mk rfl rfl rfl rfl) rfl rfl (.yes rfl rfl rfl rfl) (fun _ => compares1_call _ _) ?_
  refine F_pure rfl (fun _ _ => V_pick_t rfl rfl rfl) rfl rfl (.none rfl) ?_
  refine F_pure rfl (fun _ _ => V_move rfl rfl) rfl rfl (.none rfl) ?_
  (refine F_litZ rfl rfl rfl (by decide) (by simp [fillS, zeros, setLs, setL, Value.cells, List.range, List.range.loop]; rfl) (by rfl) rfl rfl (.yes rfl rfl rfl rfl) ?_; intro b64 E64 hE64 hs64)
  replace hs59 := hs59.mono hE64
  replace hs57 := hs57.mono hE64
  replace hs52 := hs52.mono hE64
  replace hs50 := hs50.mono hE64
  replace hs48 := hs48.mono hE64
  replace hs43 := hs43.mono hE64
  replace hs41 := hs41.mono hE64
  replace hs39 := hs39.mono hE64
  replace hs34 := hs34.mono hE64
  replace hs15 := hs15.mono hE64
  replace hs6 := hs6.mono hE64
  refine F_callv (k := 37) rfl (.mk rfl rfl rfl rfl) rfl rfl (.yes rfl rfl rfl rfl) (fun _ => of_1 _ _ _ _ _ (by assumption) (by omega)) ?_
  dsimp only [Go.Proofs.YthcfakmmomfcaaaDoor.lk]
  (refine F_litZ rfl rfl rfl (by decide) (by simp [fillS, zeros, setLs, setL, Value.cells, List.range, List.range.loop]; rfl) (by rfl) rfl rfl (.yes rfl rfl rfl rfl) ?_; intro b66 E66 hE66 hs66)
  replace hs64 := hs64.mono hE66
  replace hs59 := hs59.mono hE66
  replace hs57 := hs57.mono hE66
  replace hs52 := hs52.mono hE66
  replace hs50 := hs50.mono hE66
  replace hs48 := hs48.mono hE66
  replace hs43 := hs43.mono hE66
  replace hs41 := hs41.mono hE66
  replace hs39 := hs39.mono hE66
  replace hs34 := hs34.mono hE66
  replace hs15 := hs15.mono hE66
  replace hs6 := hs6.mono hE66
  refine F_callv (k := 37) rfl (.mk rfl rfl rfl rfl) rfl rfl (.yes rfl rfl rfl rfl) (fun _ => ofL_call' _ _ _ _ _ _ (by assumption) (by omega) (by omega)) ?_
  dsimp only [Go.Proofs.YthcfakmmomfcaaaDoor.lk]
  refine F_callv (k := 43) rfl (.mk rfl rfl rfl rfl) rfl rfl (.yes rfl rfl rfl rfl) (fun _ => comparesT_call' _ _) ?_
  refine F_pure rfl (fun _ _ => V_pick_t rfl rfl rfl) rfl rfl (.none rfl) ?_
  refine F_pure rfl (fun _ _ => V_assign rfl rfl) rfl rfl (.none rfl) ?_
  (refine F_end (.nil _) ?_; dsimp only [List.drop])
  refine G_end (X_then (G_ret ?_))
  refine G_leaveS (.drop _ (.nil _)) (by exact (.cons (.tmp rfl) (.nil))) rfl ?_ ?_
  · exact ((((((((((((((hE6.trans hE4).trans hE9).trans hE15).trans hE34).trans hE39).trans hE41).trans hE43).trans hE48).trans hE50).trans hE52).trans hE57).trans hE59).trans hE64).trans hE66)
  exact ⟨(by kernel_rfl), rfl⟩
end
end Go.Proofs.YthcfakmmomfcaaaDoor
set_option linter.unusedSimpArgs false
set_option linter.unusedVariables false
set_option maxHeartbeats 2000000
set_option maxRecDepth 20000
namespace Go.Proofs.YthcfakmmomfcaaaDoor
open Go.RowKit
/-! Looks as keys of a map. -/
abbrev Lk : Type := Int × Int × Int × Int × Int
abbrev kL (x : Lk) : Value := lk x.1 x.2.1 x.2.2.1 x.2.2.2.1 x.2.2.2.2
theorem run_eqL (a b : Lk) (w : World) : (Op.equal 25 (kL a) (kL b)).run Tryd.prog w = .ok (decide (a = b)) w := by
  obtain ⟨a0, a1, a2, a3, a4⟩ := a
  obtain ⟨b0, b1, b2, b3, b4⟩ := b
  simp only [Prod.mk.injEq]
  by_cases h0 : a0 = b0 <;> by_cases h1 : a1 = b1 <;> by_cases h2 : a2 = b2 <;> by_cases h3 : a3 = b3 <;> by_cases h4 : a4 = b4 <;> simp [go_sem, Op.equal, Op.maxDepth, Op.eqFields, h0, h1, h2, h3, h4, run_eqArr4 (P := Tryd.prog) 9997]
theorem find_askingL (a : Lk) (w : World) : ∀ (kv : List (Lk × Value)) (j i : Nat), (Instr.findAsking 25 (kL a) (ents kL kv j) i).run Tryd.prog w = .ok (mfind kv a i) w := by
  intro kv
  induction kv with
  | nil => intro j i; simp [ents, Instr.findAsking, mfind]
  | cons p l ih =>
    intro j i
    obtain ⟨b, v⟩ := p
    simp only [ents, Instr.findAsking, Sem.run_bind, run_eqL, Result.andThen, mfind]
    by_cases e : a = b
    · simp [e]
    · simp [e, ih]
theorem chk_int {b : Bool} {m : Nat} {t : TypeId} {sz : Nat} {ag : Bool} {v : Value} {w : World} (ht : Ty Tryd.prog t (.int .i64) sz ag) : (Instr.checkKey b (m + 1) t v).run Tryd.prog w = .ok () w := by
  unfold Instr.checkKey
  simp only [Sem.run_bind, ht.run, Result.andThen]
  rfl
theorem chk_arr (b : Bool) (m : Nat) (a0 a1 a2 a3 : Int) (w : World) : (Instr.checkKey b (m + 2) 23 (.agg #[.int .i64 a0, .int .i64 a1, .int .i64 a2, .int .i64 a3])).run Tryd.prog w = .ok () w := by
  have ht : Ty Tryd.prog 3 (.int .i64) 1 false := inferInstance
  have hr : List.range' 0 4 = [0, 1, 2, 3] := rfl
  have hf : ∀ (w : World) (v : Value), (Instr.checkKey b (m + 1) 3 v).run Tryd.prog w = .ok () w := fun w v => chk_int ht
  unfold Instr.checkKey
  simp [go_sem, hr, part, ht.size, ht.agg', hf, Result.andThen, List.forIn_cons]
instance keyL : KeyT Tryd.prog 25 kL where
  chk a b w := by
    obtain ⟨a0, a1, a2, a3, a4⟩ := a
    rw [show (10000 : Nat) = 9999 + 1 from rfl]
    unfold Instr.checkKey
    have ht : Ty Tryd.prog 3 (.int .i64) 1 false := inferInstance
    have ht2 : Ty Tryd.prog 23 (.array 4 3) 4 true := inferInstance
    have hf : ∀ (w : World) (v : Value), (Instr.checkKey b 9999 3 v).run Tryd.prog w = .ok () w := fun w v => chk_int ht
    have hf2 := fun (w : World) => chk_arr b 9997 a1 a2 a3 a4 w
    simp [go_sem, part, ht.size, ht.agg', ht2.size, ht2.agg', hf, hf2, Result.andThen]
  find a kv w := by
    simp only [Instr.findKey, Sem.run_bind, (inferInstance : Ty Tryd.prog 25 _ _ _).run, Result.andThen]
    cases kv with
    | nil => simp [ents, Instr.findNow, mfind]
    | cons p l =>
      simp only [ents, Instr.findNow, Instr.sameNow]
      exact find_askingL a w (p :: l) 0 0
  bits a := by simp [Instr.sameBits]
end Go.Proofs.YthcfakmmomfcaaaDoor
namespace Go.Proofs.YthcfakmmomfcaaaDoor
/-! Plain: the tree of all looks. -/
def lookT (t : Nat) : Nat → List (List Int)
  | 0 => [[]]
  | f + 1 => [] :: (List.range t).flatMap fun x : Nat => (lookT t f).map fun l => (x : Int) :: l
def lenT (t : Nat) : Nat → Nat
  | 0 => 1
  | f + 1 => 1 + t * lenT t f
theorem flat_len {α β : Type} (g : α → List β) (c : Nat) : ∀ (l : List α), (∀ x, x ∈ l → (g x).length = c) → (l.flatMap g).length = l.length * c := by
  intro l
  induction l with
  | nil => intro _; simp
  | cons a l ih =>
    intro h
    rw [List.flatMap_cons, List.length_append, h a (.head _), ih (fun x hx => h x (.tail _ hx)), List.length_cons, Nat.succ_mul, Nat.add_comm]
theorem lookT_len (t : Nat) : ∀ f, (lookT t f).length = lenT t f := by
  intro f
  induction f with
  | zero => rfl
  | succ f ih =>
    rw [lookT, List.length_cons, flat_len _ (lenT t f) _ (fun x _ => by rw [List.length_map, ih]), List.length_range, lenT, Nat.add_comm]
theorem lenT_pos (t : Nat) : ∀ f, 0 < lenT t f := by
  intro f
  cases f with
  | zero => exact Nat.one_pos
  | succ f => rw [lenT]; omega
theorem flat_get {α β : Type} (g : α → List β) (c : Nat) (hc : 0 < c) : ∀ (l : List α), (∀ x, x ∈ l → (g x).length = c) → ∀ i, (l.flatMap g)[i]? = (l[i / c]?).bind fun x => (g x)[i % c]? := by
  intro l
  induction l with
  | nil => intro _ i; simp
  | cons a l ih =>
    intro h i
    have ha := h a (.head _)
    rw [List.flatMap_cons]
    by_cases hi : i < c
    · rw [List.getElem?_append_left (by omega), Nat.div_eq_of_lt hi, Nat.mod_eq_of_lt hi]
      rfl
    · rw [List.getElem?_append_right (by omega), ha, ih (fun x hx => h x (.tail _ hx)) (i - c)]
      have e1 : i / c = (i - c) / c + 1 := by
        rw [Nat.div_eq i c, if_pos ⟨hc, by omega⟩]
      have e2 : (i - c) % c = i % c := by rw [← Nat.mod_eq_sub_mod (by omega)]
      rw [e1, e2, List.getElem?_cons_succ]
/-- the look with number i, if there is one -/
theorem lookT_zero (t f : Nat) : (lookT t f)[0]? = some [] := by cases f <;> rfl
theorem lookT_succ (t f i : Nat) (hi : i < t * lenT t f) : (lookT t (f + 1))[i + 1]? = ((lookT t f)[i % lenT t f]?).map fun l => ((i / lenT t f : Nat) : Int) :: l := by
  have hp := lenT_pos t f
  rw [lookT, List.getElem?_cons_succ, flat_get _ (lenT t f) hp _ (fun x _ => by rw [List.length_map, lookT_len])]
  have h1 : i / lenT t f < t := (Nat.div_lt_iff_lt_mul hp).2 hi
  rw [List.getElem?_eq_getElem (by rw [List.length_range]; exact h1), Option.bind_some, List.getElem_range, List.getElem?_map]
/-- the number of a look -/
def numT (t : Nat) : Nat → List Int → Nat
  | _, [] => 0
  | 0, _ :: _ => 0
  | f + 1, x :: l => 1 + x.toNat * lenT t f + numT t f l
abbrev okT (t f : Nat) (l : List Int) : Prop := l.length ≤ f ∧ ∀ x, x ∈ l → 0 ≤ x ∧ x < t
theorem numT_lt (t : Nat) : ∀ f l, okT t f l → numT t f l < lenT t f := by
  intro f
  induction f with
  | zero =>
    intro l h
    have : l = [] := List.eq_nil_of_length_eq_zero (by have := h.1; omega)
    subst this
    exact Nat.one_pos
  | succ f ih =>
    intro l h
    cases l with
    | nil => exact lenT_pos _ _
    | cons x l =>
      have hx := h.2 x (.head _)
      have hl := ih l ⟨by have := h.1; simp only [List.length_cons] at this; omega, fun y hy => h.2 y (.tail _ hy)⟩
      rw [numT, lenT]
      have h2 : x.toNat + 1 ≤ t := by omega
      have h3 : (x.toNat + 1) * lenT t f ≤ t * lenT t f := Nat.mul_le_mul_right _ h2
      rw [Nat.succ_mul] at h3
      omega
theorem lookT_num (t : Nat) : ∀ f l, okT t f l → (lookT t f)[numT t f l]? = some l := by
  intro f
  induction f with
  | zero =>
    intro l h
    have : l = [] := List.eq_nil_of_length_eq_zero (by have := h.1; omega)
    subst this
    rfl
  | succ f ih =>
    intro l h
    cases l with
    | nil => rfl
    | cons x l =>
      have hx := h.2 x (.head _)
      have ho : okT t f l := ⟨by have := h.1; simp only [List.length_cons] at this; omega, fun y hy => h.2 y (.tail _ hy)⟩
      have hl := numT_lt t f l ho
      have hp := lenT_pos t f
      have h2 : x.toNat + 1 ≤ t := by omega
      have h3 : (x.toNat + 1) * lenT t f ≤ t * lenT t f := Nat.mul_le_mul_right _ h2
      rw [Nat.succ_mul] at h3
      rw [numT, show 1 + x.toNat * lenT t f + numT t f l = (x.toNat * lenT t f + numT t f l) + 1 by omega, lookT_succ _ _ _ (by omega)]
      have e1 : (x.toNat * lenT t f + numT t f l) % lenT t f = numT t f l := by
        rw [Nat.add_comm, Nat.mul_comm, Nat.add_mul_mod_self_left, Nat.mod_eq_of_lt hl]
      have e2 : (x.toNat * lenT t f + numT t f l) / lenT t f = x.toNat := by
        rw [Nat.add_comm, Nat.mul_comm, Nat.add_mul_div_left _ _ hp, Nat.div_eq_of_lt hl, Nat.zero_add]
      rw [e1, e2, ih l ho, Option.map_some, Int.toNat_of_nonneg hx.1]
theorem lookT_at (t : Nat) : ∀ f i l, (lookT t f)[i]? = some l → okT t f l ∧ numT t f l = i := by
  intro f
  induction f with
  | zero =>
    intro i l h
    cases i with
    | zero => cases h; exact ⟨⟨Nat.le_refl _, fun x h => by cases h⟩, rfl⟩
    | succ i => simp [lookT] at h
  | succ f ih =>
    intro i l h
    cases i with
    | zero => rw [lookT_zero] at h; cases h; exact ⟨⟨Nat.zero_le _, fun x h => by cases h⟩, rfl⟩
    | succ i =>
      have hlt : i < t * lenT t f := by
        have := (List.getElem?_eq_some_iff.1 h).1
        rw [lookT_len, lenT] at this
        omega
      rw [lookT_succ _ _ _ hlt, Option.map_eq_some_iff] at h
      obtain ⟨r, h1, rfl⟩ := h
      obtain ⟨h2, h3⟩ := ih _ _ h1
      have hp := lenT_pos t f
      refine ⟨⟨by simp only [List.length_cons]; have := h2.1; omega, fun x hx => ?_⟩, ?_⟩
      · rcases List.mem_cons.1 hx with rfl | hx
        · have : i / lenT t f < t := (Nat.div_lt_iff_lt_mul hp).2 hlt
          exact ⟨Int.natCast_nonneg _, by exact_mod_cast this⟩
        · exact h2.2 x hx
      · rw [numT, h3, Int.toNat_natCast]
        have := Nat.div_add_mod i (lenT t f)
        rw [Nat.mul_comm] at this
        omega
/-- looks that begin with p -/
theorem lookT_unfold (t f : Nat) (p : List Int) : (lookT t (f + 1)).map (p ++ ·) = p :: (List.range t).flatMap fun x : Nat => (lookT t f).map ((p ++ [(x : Int)]) ++ ·) := by
  rw [lookT, List.map_cons, List.append_nil, List.map_flatMap]
  congr 1
  congr 1
  funext x
  rw [List.map_map]
  apply List.map_congr_left
  intro l _
  simp
end Go.Proofs.YthcfakmmomfcaaaDoor
set_option linter.unusedSimpArgs false
set_option linter.unusedVariables false
set_option maxHeartbeats 2000000
set_option maxRecDepth 20000
namespace Go.Proofs.YthcfakmmomfcaaaDoor
open Go.RowKit
/-! The iterator of all looks. -/
theorem take_gd (p : List Int) (h : p.length ≤ 4) : [gd p 0, gd p 1, gd p 2, gd p 3].take p.length = p := by
  rcases p with _ | ⟨a, _ | ⟨b, _ | ⟨c, _ | ⟨d, _ | ⟨e, r⟩⟩⟩⟩⟩
  · rfl
  · rfl
  · rfl
  · rfl
  · rfl
  · simp only [List.length_cons] at h; omega
abbrev ablk (c1 c2 c3 : Nat) (p : List Int) (k t : Nat) (L : List Res) : List Res :=
  .blk c1 (.cells (lkC (p.length : Nat) (gd p 0) (gd p 1) (gd p 2) (gd p 3)) 25 (0, 0)) :: .blk c2 (.cells #[.int .i64 (k : Nat)] 3 (0, 0)) :: .blk c3 (.cells #[.int .i64 (t : Nat)] 3 (0, 0)) :: L
abbrev lkP (p : List Int) : Value := lk (p.length : Nat) (gd p 0) (gd p 1) (gd p 2) (gd p 3)
theorem lkP_eq (p : List Int) (h : p.length ≤ 4) : lkL p = lkP p := by
  have : min p.length 4 = p.length := by omega
  simp only [lkL, lkP, this]
def preI (t f : Nat) (p : List Int) (i : Nat) : List (List Int) := p :: (List.range i).flatMap fun v : Nat => (lookT t f).map ((p ++ [(v : Int)]) ++ ·)
theorem preI_all (t f : Nat) (p : List Int) : (lookT t (f + 1)).map (p ++ ·) = preI t f p t := lookT_unfold t f p
theorem preI_zero (t f : Nat) (p : List Int) : preI t f p 0 = [p] := by simp [preI]
theorem preI_succ (t f : Nat) (p : List Int) (i : Nat) : preI t f p (i + 1) = preI t f p i ++ (lookT t f).map ((p ++ [(i : Int)]) ++ ·) := by
  simp only [preI, List.range_succ, List.flatMap_append, List.flatMap_cons, List.flatMap_nil, List.append_nil, List.cons_append]
theorem preI_mono (t f : Nat) (p : List Int) (i : Nat) : ∀ d, preI t f p i <+: preI t f p (i + d) := by
  intro d
  induction d with
  | zero => exact List.prefix_refl _
  | succ d ih => exact ih.trans (by rw [← Nat.add_assoc, preI_succ]; exact List.prefix_append _ _)
theorem preI_pre {t f : Nat} {p : List Int} {i : Nat} (hi : i < t) {pre : List (List Int)} (h : pre <+: (lookT t f).map ((p ++ [(i : Int)]) ++ ·)) : preI t f p i ++ pre <+: preI t f p t := by
  have h1 : preI t f p i ++ pre <+: preI t f p (i + 1) := by
    rw [preI_succ]
    exact (List.prefix_append_right_inj _).2 h
  have h2 := preI_mono t f p (i + 1) (t - (i + 1))
  rw [show i + 1 + (t - (i + 1)) = t by omega] at h2
  exact h1.trans h2
theorem preI_one (t f : Nat) (p : List Int) (i : Nat) : [p] <+: preI t f p i := ⟨_, rfl⟩
theorem G.lower {n : Nat} {ds : List Deferred} {fs : List (Nat × Value)} {E0 E : Env} {L : List Res} {X : Act → World → Prop} (h : E0.Le E) (g : G n ds fs E0 L X) : G n ds fs E L X := fun a w ha hw => g a w ha (hw.weaken h)
theorem permA (X A M : List Res) (l : List Res) : (l ++ ((X ++ A) ++ M)).Perm ((l ++ (X ++ M)) ++ A) := by
  rw [List.append_assoc l]
  refine List.Perm.append_left _ ?_
  rw [List.append_assoc, List.append_assoc]
  exact List.Perm.append_left _ List.perm_append_comm
theorem permA7 (a b c d e f g : Res) (X A M : List Res) : (a :: b :: c :: (d :: e :: f :: g :: (X ++ A) ++ M)).Perm ((a :: b :: c :: d :: e :: f :: g :: (X ++ M)) ++ A) := permA X A M [a, b, c, d, e, f, g]
theorem permB (a b c d e : Res) (R : List Res) : (a :: b :: c :: d :: e :: R).Perm (b :: c :: d :: e :: a :: R) := (List.perm_append_comm (l₁ := [a]) (l₂ := [b, c, d, e])).append_right R
theorem permC (b c d e : Res) (X A : List Res) : (b :: c :: d :: e :: (X ++ A)).Perm (X ++ (b :: c :: d :: e :: A)) := List.perm_append_comm_assoc [b, c, d, e] X A
theorem G_norm {P : Program} {ro : Option Nat} {n : Nat} {ds : List Deferred} {fs : List (Nat × Value)} {E : Env} {L : List Res} {fn : Func} {R : Ending → World → Prop} (h : G n ds fs E L (fun a w => bodyPostM (Wd ro) 0 P fn R .ret a w)) : G n ds fs E L (fun a w => bodyPostM (Wd ro) 0 P fn R .normal a w) := h
section
variable (E : Env) (L : List Res)
theorem all_call (p : List Int) (k t : Nat) : CallS Tryd.prog 58 #[lkP p, .int .i64 (t : Nat), .int .i64 (k : Nat)] E L (fun r E' L' => ∃ R, (∃ c1 c2 c3, r = .func (.func 66) #[] #[.pointer (some ⟨c1, 0, none⟩), .pointer (some ⟨c2, 0, none⟩), .pointer (some ⟨c3, 0, none⟩)] ∧ E = E' ∧
    R = .both (.both (.blk c1 (.cells (lkC (p.length : Nat) (gd p 0) (gd p 1) (gd p 2) (gd p 3)) 25 (0, 0))) (.blk c2 (.cells #[.int .i64 (k : Nat)] 3 (0, 0)))) (.blk c3 (.cells #[.int .i64 (t : Nat)] 3 (0, 0)))) ∧ L' = R :: L) := by
  refine CallS.intro (l := [_, _, _]) _ Tryd.func58 rfl Tryd.ntmps58 rfl ?_
  refine G_seq (G_region ?_)
  (refine G_boxA rfl rfl rfl rfl (.none rfl) ?_; intro b3)
  (refine G_box1 rfl rfl rfl rfl rfl (.none rfl) ?_; intro b4)
  (refine G_box1 rfl rfl rfl rfl rfl (.none rfl) ?_; intro b5)
  refine G_val (V_assign rfl rfl) rfl rfl (.none rfl) ?_
  refine G_end (X_then (G_seq (G_region ?_)))
  refine G_val (V_makeFunc rfl rfl rfl) rfl rfl (.none rfl) ?_
  refine G_val (V_assign rfl rfl) rfl rfl (.none rfl) ?_
  refine G_end (X_then (G_ret ?_))
  refine G.front (.tail _ (.head _ _)) ?_
  refine G.front (.tail _ (.head _ _)) ?_
  refine G.front (.tail _ (.tail _ (.head _ _))) ?_
  refine G.both ?_
  refine G.both ?_
  refine G_leave 0 (by exact (.cons (.tmp rfl) (.nil))) rfl ?_ ?_
  · exact .refl _
  · exact ⟨_, ⟨_, _, _, rfl, rfl, rfl⟩, rfl⟩
theorem iter_all (t : Nat) (ht : t ≤ 8) : ∀ (f : Nat) (p : List Int), p.length + f ≤ 4 → ∀ (c1 c2 c3 : Nat) (E : Env),
    Iter Tryd.prog 66 #[.pointer (some ⟨c1, 0, none⟩), .pointer (some ⟨c2, 0, none⟩), .pointer (some ⟨c3, 0, none⟩)] (fun l : List Int => [lkP l].toArray) ((lookT t f).map (p ++ ·)) E (ablk c1 c2 c3 p (p.length + f) t []) := by
  intro f
  induction f with
  | zero =>
    intro p hp c1 c2 c3 E y E0 L0 Inv InvX hE0 h0 hy
    refine CallS.intro (L := ablk c1 c2 c3 p (p.length + 0) t L0) (l := [.func (.yield y) #[] #[], .pointer (some ⟨c1, 0, none⟩), .pointer (some ⟨c2, 0, none⟩), .pointer (some ⟨c3, 0, none⟩)]) _ Tryd.func66 rfl Tryd.ntmps66 rfl ?_
    refine G_seq (G_region ?_)
    (refine G_box1 rfl rfl rfl rfl rfl (.none rfl) ?_; intro b4)
    refine G_end (X_then (G_seq (G_seq (G_region ?_))))
    refine G_val (V_load rfl rfl (Cell.own1 (.head _))) rfl rfl (.none rfl) ?_
    refine G_val (V_loadA rfl rfl (Cells.own (.tail _ (.head _))) rfl) rfl rfl (.none rfl) ?_
    refine G_yield (.mk rfl rfl rfl rfl) rfl rfl (.none rfl) (hy [] p E0 L0 (.blk b4 (.cells #[.func (.yield y) #[] #[]] _ (0, 0)) :: ablk c1 c2 c3 p (p.length + 0) t []) (.refl _) (by simp [lookT]) h0) ?_
    rintro r2 E' L' hE' ⟨L3, rfl, (⟨rfl, hI'⟩ | ⟨rfl, hI'⟩)⟩
    · simp only [List.cons_append, List.nil_append]
      refine G_val (V_not rfl rfl) rfl rfl (.none rfl) ?_
      refine G_val (V_move rfl rfl) rfl rfl (.none rfl) ?_
      refine G.bool_f 11 rfl (by kernel_rfl) ?_
      refine G_val (V_fieldAddr rfl rfl (by decide)) rfl rfl (.yes rfl rfl rfl rfl) ?_
      refine G_val (V_load rfl rfl (Cell.own (.tail _ (.head _)) rfl)) rfl rfl (.yes rfl rfl rfl rfl) ?_
      refine G_val (V_load rfl rfl (Cell.own1 (.tail _ (.tail _ (.head _))))) rfl rfl (.yes rfl rfl rfl rfl) ?_
      refine G_val (V_geq rfl rfl rfl) rfl rfl (.yes rfl rfl rfl rfl) ?_
      refine G_val (V_pick_f rfl rfl rfl) rfl rfl (.none rfl) ?_
      refine G_end (X_then ?_)
      refine G_cond_t rfl (decide_eq_true (by omega)) ?_
      refine G_ret (X_then_ret ?_)
      exact G_leave_n 1 .nil rfl hE' ⟨ablk c1 c2 c3 p (p.length + 0) t [], L3, rfl, .inl (by simpa [lookT] using hI')⟩
    · simp only [List.cons_append, List.nil_append]
      refine G_val (V_not rfl rfl) rfl rfl (.none rfl) ?_
      refine G_val (V_move rfl rfl) rfl rfl (.none rfl) ?_
      refine G.bool_t 11 rfl (by kernel_rfl) ?_
      refine G_stay (.no rfl rfl rfl rfl) rfl rfl ?_
      refine G_stay (.no rfl rfl rfl rfl) rfl rfl ?_
      refine G_stay (.no rfl rfl rfl rfl) rfl rfl ?_
      refine G_stay (.no rfl rfl rfl rfl) rfl rfl ?_
      refine G_val (V_pick_t rfl rfl rfl) rfl rfl (.none rfl) ?_
      refine G_end (X_then ?_)
      refine G_cond_t rfl rfl ?_
      refine G_ret (X_then_ret ?_)
      exact G_leave_n 1 .nil rfl hE' ⟨ablk c1 c2 c3 p (p.length + 0) t [], L3, rfl, .inr ⟨_, by simp [lookT], hI'⟩⟩
  | succ f ih =>
    intro p hp c1 c2 c3 E y E0 L0 Inv InvX hE0 h0 hy
    refine CallS.intro (L := ablk c1 c2 c3 p (p.length + (f + 1)) t L0) (l := [.func (.yield y) #[] #[], .pointer (some ⟨c1, 0, none⟩), .pointer (some ⟨c2, 0, none⟩), .pointer (some ⟨c3, 0, none⟩)]) _ Tryd.func66 rfl Tryd.ntmps66 rfl ?_
    rw [preI_all] at hy ⊢
    refine G_seq (G_region ?_)
    (refine G_box1 rfl rfl rfl rfl rfl (.none rfl) ?_; intro b4)
    refine G_end (X_then (G_seq (G_seq (G_region ?_))))
    refine G_val (V_load rfl rfl (Cell.own1 (.head _))) rfl rfl (.none rfl) ?_
    refine G_val (V_loadA rfl rfl (Cells.own (.tail _ (.head _))) rfl) rfl rfl (.none rfl) ?_
    refine G_yield (.mk rfl rfl rfl rfl) rfl rfl (.none rfl) (hy [] p E0 L0 (.blk b4 (.cells #[.func (.yield y) #[] #[]] _ (0, 0)) :: ablk c1 c2 c3 p (p.length + (f + 1)) t []) (.refl _) (preI_one _ _ _ _) h0) ?_
    rintro r2 E' L' hE' ⟨L3, rfl, (⟨rfl, hI'⟩ | ⟨rfl, hI'⟩)⟩
    · simp only [List.cons_append, List.nil_append]
      refine G_val (V_not rfl rfl) rfl rfl (.none rfl) ?_
      refine G_val (V_move rfl rfl) rfl rfl (.none rfl) ?_
      refine G.bool_f 11 rfl (by kernel_rfl) ?_
      refine G_val (V_fieldAddr rfl rfl (by decide)) rfl rfl (.yes rfl rfl rfl rfl) ?_
      refine G_val (V_load rfl rfl (Cell.own (.tail _ (.head _)) rfl)) rfl rfl (.yes rfl rfl rfl rfl) ?_
      refine G_val (V_load rfl rfl (Cell.own1 (.tail _ (.tail _ (.head _))))) rfl rfl (.yes rfl rfl rfl rfl) ?_
      refine G_val (V_geq rfl rfl rfl) rfl rfl (.yes rfl rfl rfl rfl) ?_
      refine G_val (V_pick_f rfl rfl rfl) rfl rfl (.none rfl) ?_
      refine G_end (X_then ?_)
      refine G_cond_f rfl (decide_eq_false (by omega)) ?_
      refine G_skip (X_then (G_seq (G_region ?_)))
      refine G_val (V_load rfl rfl (Cell.own1 (.tail _ (.tail _ (.tail _ (.head _)))))) rfl rfl (.none rfl) ?_
      refine G_val (V_move rfl rfl) rfl rfl (.none rfl) ?_
      refine G_end (X_then (G_block ?_))
      refine G_loopD (α := Nat × List Nat × Env × List Res) (fun x => x.2.1.map mark) (fun x => [(1, .pointer (some ⟨c1, 0, none⟩)), (2, .pointer (some ⟨c2, 0, none⟩)), (3, .pointer (some ⟨c3, 0, none⟩)), (4, .pointer (some ⟨b4, 0, none⟩)), (17, .int .i64 (t : Nat)), (18, .int .i64 (x.1 : Nat))]) (fun x => x.2.2.1)
        (fun x => .blk b4 (.cells #[.func (.yield y) #[] #[]] _ (0, 0)) :: ablk c1 c2 c3 p (p.length + (f + 1)) t (x.2.1.map dblk ++ x.2.2.2))
        (fun x => x.1 ≤ t ∧ E0.Le x.2.2.1 ∧ Inv (preI t f p x.1) x.2.2.1 x.2.2.2) (fun x => t - x.1) (0, [], E', L3) ⟨Nat.zero_le _, hE', by rw [preI_zero]; exact hI'⟩ rfl ⟨rfl, rfl, rfl, rfl, rfl, rfl, trivial⟩ rfl rfl ?_
      rintro ⟨i, Ds, E1, L1⟩ ⟨hi, hE1, hI1⟩
      simp only at hi hE1 hI1 ⊢
      have htk := take_gd p (by omega)
      have hio := i64s_one p
      by_cases hlt : i < t
      · dsimp only [ablk]
        have hE1' := hE1
        refine G_seq (G_region ?_)
        refine G_val (V_lss rfl rfl rfl) rfl rfl (.none rfl) ?_
        refine G_end (X_then (G_seq ?_))
        refine G_cond_t rfl (decide_eq_true (by omega)) ?_
        refine G_skip (X_then (G_seq (G_block (G_seq (G_region ?_)))))
        refine G_val (V_move rfl rfl) rfl rfl (.none rfl) ?_
        refine G_val (V_assign rfl rfl) rfl rfl (.none rfl) ?_
        refine G_end (X_then (G_seq ?_))
        refine G_drawX 9 [(0, 1), (2, 0), (6, 1), (7, 1), (1, 3), (3, 2), (4, 3), (5, 3), (8, 3)] mixed (by kernel_rfl) ?_
        refine F_load rfl (.tail _ (.head _)) (V_loadA rfl rfl (Cells.own (.head _)) rfl) rfl rfl (.none rfl) ?_
        refine F_pure rfl (fun _ _ => V_move rfl rfl) rfl rfl (.none rfl) ?_
        refine F_load rfl (.tail _ (.tail _ (.tail _ (.head _)))) (V_load rfl rfl (Cell.own1 (.head _))) rfl rfl (.none rfl) ?_
        refine F_load rfl (.tail _ (.tail _ (.head _))) (V_load rfl rfl (Cell.own1 (.head _))) rfl rfl (.none rfl) ?_
        refine F_callO (k := 48) rfl (.mk rfl rfl rfl rfl) rfl rfl (.none rfl) (fun L0 => list_call _ L0 p.length _ _ _ _ (by omega)) ?_
        rintro r1 E1 R1 hE1 ⟨g, k1, rfl, rfl, rfl⟩
        rw [htk]
        (refine F_litZ rfl rfl rfl (by decide) (by simp [fillS, zeros, setLs, setL, Value.cells, List.range, List.range.loop]; rfl) (by rfl) rfl rfl (.none rfl) ?_; intro b24 E24 hE24 hs24)
        (refine F_append2 rfl rfl rfl rfl (by assumption) (by simp [Value.oneCell', strs, i64s]) (by omega) (by omega) rfl rfl (.none rfl) (fun _ _ => (.head _ _ _)) ?_; intro b25 c25 N25; dsimp only [List.cons_append])
        have e25 : i64s p ++ [Value.int .i64 (i : Nat)] = i64s (p ++ [(i : Int)]) := by simp [i64s]
        have hpl : (p ++ [(i : Int)]).length = p.length + 1 := by simp
        rw [e25]
        refine F_callvM (k := 46) rfl (.mk rfl rfl rfl rfl) rfl rfl (.none rfl) (fun M => of_call _ _ _ _ _ (p ++ [(i : Int)]) (Rd.sl (List.mem_append_right _ (.head _)) (by rw [i64s, List.length_map, hpl, Nat.mul_one]))) ?_
        rw [lkP_eq _ (by rw [hpl]; omega)]
        refine F_callO (k := 58) rfl (.mk rfl rfl rfl rfl) rfl rfl (.none rfl) (fun L0 => all_call _ L0 (p ++ [(i : Int)]) (p.length + (f + 1)) t) ?_
        rintro r5 E5 R5 hE5 ⟨d1, d2, d3, rfl, rfl, rfl⟩
        refine F_end (.keep _ (.drop _ (.keep _ (.keep _ (.keep _ (.keep _ (.suf N25 (.nil _)))))))) ?_
        dsimp only [List.drop]
        refine G.lower hE24 ?_
        refine G.unboth ?_
        refine G.unboth ?_
        refine G_end (X_then (G_block ?_))
        have hnum : p.length + (f + 1) = (p ++ [(i : Int)]).length + f := by rw [hpl]; omega
        refine G_rangeI (σ := Env × List Res) (enc := fun l : List Int => [lkP l]) rfl (ih (p ++ [(i : Int)]) (by rw [hpl]; omega) d1 d2 d3 E1) (fun s => s.1)
          (fun s => .blk b4 (.cells #[.func (.yield y) #[] #[]] _ (0, 0)) :: ablk c1 c2 c3 p (p.length + (f + 1)) t (Ds.map dblk ++ s.2))
          (fun pre s => E1.Le s.1 ∧ Inv (preI t f p i ++ pre) s.1 s.2)
          (fun c pre s => c = .ret ∧ E1.Le s.1 ∧ ∃ pre', pre' <+: preI t f p t ∧ InvX pre' s.1 s.2) (E1, L1) ⟨.refl _, by rw [List.append_nil]; exact hI1⟩ rfl (by rw [← hnum]; exact List.Perm.refl _) rfl (fun _ => rfl) ?_ ?_ ?_
        · rintro l D tm fn M pre x ⟨E2, L2⟩ hpre ⟨hE2, hI2⟩ hE2'
          dsimp only [ablk]
          refine G_region ?_
          (refine G_alloc rfl rfl rfl (.none rfl) ?_; intro b6)
          refine G_storeA rfl rfl rfl rfl (by simp [Value.oneCell']) rfl (.none rfl) (.head _ _ _) rfl ?_
          refine G_end (X_then ?_)
          refine G_begin (.tail _ (.head _ _ _)) ?_
          refine G_block (G_seq (G_region ?_))
          refine G_val (V_load rfl rfl (Cell.own1 (.tail _ (.tail _ (.tail _ (.head _)))))) rfl rfl (.none rfl) ?_
          refine G_val (V_loadA rfl rfl (Cells.own (.head _)) rfl) rfl rfl (.none rfl) ?_
          refine G.perm _ (permA7 _ _ _ _ _ _ _ (Ds.map dblk) L2 M) ?_
          refine G_yield (.mk rfl rfl rfl rfl) rfl rfl (.none rfl) (hy (preI t f p i ++ pre) x E2 L2 _ (hE1'.trans hE2) (by rw [List.append_assoc]; exact preI_pre hlt hpre) hI2) ?_
          rintro r3 E3 L3' hE3 ⟨L4, rfl, (⟨rfl, hI3⟩ | ⟨rfl, hI3⟩)⟩
          · refine G.perm _ (permA7 _ _ _ _ _ _ _ (Ds.map dblk) L4 M).symm ?_
            refine G_val (V_not rfl rfl) rfl rfl (.none rfl) ?_
            refine G_end (X_then ?_)
            refine G_cond_f rfl (by kernel_rfl) ?_
            refine G_skip (X_block ?_)
            refine G.drop ?_
            exact G_rEnd (E3, L4) ⟨hE2.trans hE3, by rw [← List.append_assoc]; exact hI3⟩ rfl hE3 rfl
          · refine G.perm _ (permA7 _ _ _ _ _ _ _ (Ds.map dblk) L4 M).symm ?_
            refine G_val (V_not rfl rfl) rfl rfl (.none rfl) ?_
            refine G_end (X_then ?_)
            refine G_cond_t rfl (by kernel_rfl) ?_
            refine G_ret (X_block_ret ?_)
            refine G.drop ?_
            exact G_rRet (E3, L4) ⟨rfl, hE2.trans hE3, _, by rw [List.append_assoc]; exact preI_pre hlt hpre, hI3⟩ rfl hE3 rfl
        · rintro D ⟨E2, L2⟩ ⟨hE2, hI2⟩ hE2'
          refine X_block (X_block (X_then (G_region ?_)))
          refine G_val (V_add_i64 rfl rfl rfl (by omega) (by omega)) rfl rfl (.none rfl) ?_
          refine G_val (V_move rfl rfl) rfl rfl (.none rfl) ?_
          refine G_end (X_then ?_)
          rw [← preI_succ] at hI2
          refine G.perm _ (permB _ _ _ _ _ _) ?_
          exact G_againD (i + 1, D :: Ds, E2, L2) ⟨hlt, hE1'.trans hE2, hI2⟩ (by simp only; omega) rfl ⟨rfl, rfl, rfl, rfl, rfl, rfl, trivial⟩ rfl rfl
        · rintro D c pre ⟨E2, L2⟩ hpre ⟨rfl, hE2, pre', hp', hI2⟩ hE2'
          refine G_ret (X_block_ret (X_block_ret (X_then_ret (X_then_ret (X_block_ret ?_)))))
          refine G.perm _ ((permC _ _ _ _ (Ds.map dblk) L2).cons _) ?_
          refine G_leave_ms (D :: Ds) ?_
          exact G_leave 4 .nil rfl (hE1'.trans hE2) ⟨[], L2, rfl, .inr ⟨_, hp', hI2⟩⟩
      · obtain rfl : i = t := by omega
        refine G_seq (G_region ?_)
        refine G_val (V_lss rfl rfl rfl) rfl rfl (.none rfl) ?_
        refine G_end (X_then (G_seq ?_))
        refine G_cond_f rfl (decide_eq_false (by omega)) ?_
        refine G_exit (X_then_exit (X_then_exit (X_block_hit ?_)))
        refine G.perm _ (permC _ _ _ _ (Ds.map dblk) L1) ?_
        refine G_norm (G_leave_ms Ds ?_)
        exact G_leave 4 .nil rfl hE1 ⟨[], L1, rfl, .inl hI1⟩
    · simp only [List.cons_append, List.nil_append]
      refine G_val (V_not rfl rfl) rfl rfl (.none rfl) ?_
      refine G_val (V_move rfl rfl) rfl rfl (.none rfl) ?_
      refine G.bool_t 11 rfl (by kernel_rfl) ?_
      refine G_stay (.no rfl rfl rfl rfl) rfl rfl ?_
      refine G_stay (.no rfl rfl rfl rfl) rfl rfl ?_
      refine G_stay (.no rfl rfl rfl rfl) rfl rfl ?_
      refine G_stay (.no rfl rfl rfl rfl) rfl rfl ?_
      refine G_val (V_pick_t rfl rfl rfl) rfl rfl (.none rfl) ?_
      refine G_end (X_then ?_)
      refine G_cond_t rfl rfl ?_
      refine G_ret (X_then_ret ?_)
      exact G_leave_n 1 .nil rfl hE' ⟨ablk c1 c2 c3 p (p.length + (f + 1)) t [], L3, rfl, .inr ⟨_, preI_one _ _ _ _, hI'⟩⟩
end
end Go.Proofs.YthcfakmmomfcaaaDoor
set_option linter.unusedSimpArgs false
set_option linter.unusedVariables false
set_option maxHeartbeats 2000000
set_option maxRecDepth 20000
namespace Go.Proofs.YthcfakmmomfcaaaDoor
open Go.RowKit
/-! All. -/
abbrev toLk (l : List Int) : Lk := ((l.length : Nat), gd l 0, gd l 1, gd l 2, gd l 3)
def lksC (ls : List (List Int)) : List Value := ls.flatMap fun l => [.int .i64 (l.length : Nat), .int .i64 (gd l 0), .int .i64 (gd l 1), .int .i64 (gd l 2), .int .i64 (gd l 3)]
theorem lksC_snoc (ls : List (List Int)) (x : List Int) : lksC (ls ++ [x]) = lksC ls ++ [.int .i64 (x.length : Nat), .int .i64 (gd x 0), .int .i64 (gd x 1), .int .i64 (gd x 2), .int .i64 (gd x 3)] := by
  simp [lksC]
theorem toLk_inj {a b : List Int} (ha : a.length ≤ 4) (hb : b.length ≤ 4) (h : toLk a = toLk b) : a = b := by
  simp only [toLk, Prod.mk.injEq] at h
  obtain ⟨h0, h1, h2, h3, h4⟩ := h
  rw [← take_gd a ha, ← take_gd b hb, h1, h2, h3, h4]
  congr 1
  omega
theorem lenT_le {t : Nat} (ht : t ≤ 8) {f : Nat} (hf : f ≤ 4) : lenT t f ≤ 4681 := by
  have h1 : lenT t 1 ≤ 9 := by simp only [lenT]; omega
  have h2 : lenT t 2 ≤ 73 := by have := Nat.mul_le_mul ht h1; rw [lenT]; omega
  have h3 : lenT t 3 ≤ 585 := by have := Nat.mul_le_mul ht h2; rw [lenT]; omega
  have h4 : lenT t 4 ≤ 4681 := by have := Nat.mul_le_mul ht h3; rw [lenT]; omega
  rcases f with _ | _ | _ | _ | _ | f
  · simp [lenT]
  · simp only [Nat.zero_add]; omega
  · exact Nat.le_trans h2 (by omega)
  · exact Nat.le_trans h3 (by omega)
  · exact h4
  · omega
theorem lookT_pre {t f : Nat} {pre : List (List Int)} {x : List Int} (h : pre ++ [x] <+: lookT t f) : okT t f x ∧ x ∉ pre ∧ (∀ y, y ∈ pre → okT t f y) := by
  obtain ⟨r, hr⟩ := h
  have hx : (lookT t f)[pre.length]? = some x := by rw [← hr]; simp
  have hy : ∀ j y, pre[j]? = some y → (lookT t f)[j]? = some y := fun j y hj => by
    have := (List.getElem?_eq_some_iff.1 hj).1
    rw [← hr, List.append_assoc, List.getElem?_append_left this]; exact hj
  obtain ⟨h1, h2⟩ := lookT_at t f _ _ hx
  refine ⟨h1, fun hm => ?_, fun y hm => ?_⟩
  · obtain ⟨j, hj⟩ := List.mem_iff_getElem?.1 hm
    have h3 := (lookT_at t f _ _ (hy j x hj)).2
    have := (List.getElem?_eq_some_iff.1 hj).1
    omega
  · obtain ⟨j, hj⟩ := List.mem_iff_getElem?.1 hm
    exact (lookT_at t f _ _ (hy j y hj)).1
def seenL (ls : List (List Int)) : List (Lk × Value) := ls.map fun l => (toLk l, .bool true)
theorem seen_none : ∀ (ls : List (List Int)) (x : List Int), x.length ≤ 4 → (∀ y, y ∈ ls → y.length ≤ 4) → x ∉ ls → mget (seenL ls) (toLk x) = none ∧ ∀ v, mput (seenL ls) (toLk x) v = seenL ls ++ [(toLk x, v)] := by
  intro ls
  induction ls with
  | nil => intro x _ _ _; exact ⟨rfl, fun _ => rfl⟩
  | cons y ls ih =>
    intro x hx hl hn
    have hne : toLk x ≠ toLk y := fun e => hn (by rw [toLk_inj hx (hl y (.head _)) e]; exact .head _)
    obtain ⟨h1, h2⟩ := ih x hx (fun z hz => hl z (.tail _ hz)) (fun h => hn (.tail _ h))
    constructor
    · show mget ((toLk y, _) :: seenL ls) _ = none
      rw [mget, if_neg hne, h1]
    · intro v
      show mput ((toLk y, _) :: seenL ls) _ v = _
      rw [mput, if_neg hne, h2]
      rfl
theorem seen_snoc (ls : List (List Int)) (x : List Int) : seenL ls ++ [(toLk x, .bool true)] = seenL (ls ++ [x]) := by simp [seenL]
def allM (terms k : Int) : List (List Int) × Int := if terms < 1 ∨ 8 < terms ∨ k < 0 ∨ 4 < k then ([], 2) else (lookT terms.toNat k.toNat, 0)
section
variable (E : Env) (L : List Res)
theorem all_call' (k t : Nat) : CallS Tryd.prog 58 #[lk 0 0 0 0 0, .int .i64 (t : Nat), .int .i64 (k : Nat)] E L (fun r E' L' => ∃ R, (∃ c1 c2 c3, r = .func (.func 66) #[] #[.pointer (some ⟨c1, 0, none⟩), .pointer (some ⟨c2, 0, none⟩), .pointer (some ⟨c3, 0, none⟩)] ∧ E = E' ∧
    R = .both (.both (.blk c1 (.cells (lkC 0 0 0 0 0) 25 (0, 0))) (.blk c2 (.cells #[.int .i64 (k : Nat)] 3 (0, 0)))) (.blk c3 (.cells #[.int .i64 (t : Nat)] 3 (0, 0)))) ∧ L' = R :: L) := all_call E L [] k t
theorem All_call (terms k : Int) : CallS Tryd.prog 35 #[.int .i64 terms, .int .i64 k] E L (fun r E' L' => ∃ p c, r = .tuple #[.slice p (allM terms k).1.length c, .int .i64 (allM terms k).2] ∧ SlE E' 5 p (allM terms k).1.length (lksC (allM terms k).1) ∧ L = L') := by
  unfold allM
  by_cases h : terms < 1 ∨ 8 < terms ∨ k < 0 ∨ 4 < k
  · rw [if_pos h]
    have hnil : SlE E 5 none 0 (lksC []) := SlE.nil
    refine CallS.intro (l := [_, _]) _ Tryd.func35 rfl Tryd.ntmps35 rfl ?_
    refine G_seq (G_region ?_)
    refine G_val (V_assign rfl rfl) rfl rfl (.none rfl) ?_
    refine G_val (V_assign rfl rfl) rfl rfl (.none rfl) ?_
    refine G_end (X_then (G_seq (G_seq (G_region ?_))))
    refine G_val (V_move rfl rfl) rfl rfl (.none rfl) ?_
    refine G_val (V_lss rfl rfl rfl) rfl rfl (.none rfl) ?_
    refine G_val (V_move rfl rfl) rfl rfl (.none rfl) ?_
    apply G_joinOr 3 11 14 rfl
    · intro H1
      dsimp only [List.take]
      simp only [Bool.and_eq_true, Bool.or_eq_true, Bool.not_eq_true', Bool.not_eq_false', Bool.and_eq_false_iff, Bool.or_eq_false_iff, Bool.not_not, decide_eq_true_eq, decide_eq_false_iff_not, ne_eq, Decidable.not_not, Bool.decide_eq_true] at H1
      refine G_stay (.no rfl rfl rfl rfl) rfl rfl ?_
      refine G_stay (.no rfl rfl rfl rfl) rfl rfl ?_
      refine G_val (V_pick_t rfl rfl rfl) rfl rfl (.none rfl) ?_
      refine G_end ?_
      exact JQ_end 3 rfl rfl (by kernel_rfl)
    · intro H2
      dsimp only [List.take]
      simp only [Bool.and_eq_true, Bool.or_eq_true, Bool.not_eq_true', Bool.not_eq_false', Bool.and_eq_false_iff, Bool.or_eq_false_iff, Bool.not_not, decide_eq_true_eq, decide_eq_false_iff_not, ne_eq, Decidable.not_not, Bool.decide_eq_true] at H2
      refine G_val (V_move rfl rfl) rfl rfl (.yes rfl rfl rfl rfl) ?_
      refine G_val (V_gtr rfl rfl rfl) rfl rfl (.yes rfl rfl rfl rfl) ?_
      refine G_val (V_pick_f rfl rfl rfl) rfl rfl (.none rfl) ?_
      refine G_end ?_
      exact JQ_end 3 rfl rfl (by kernel_rfl)
    dsimp only [List.drop]
    refine G_val (V_move rfl rfl) rfl rfl (.none rfl) ?_
    apply G_joinOr 3 15 18 rfl
    · intro H3
      dsimp only [List.take]
      simp only [Bool.and_eq_true, Bool.or_eq_true, Bool.not_eq_true', Bool.not_eq_false', Bool.and_eq_false_iff, Bool.or_eq_false_iff, Bool.not_not, decide_eq_true_eq, decide_eq_false_iff_not, ne_eq, Decidable.not_not, Bool.decide_eq_true] at H3
      refine G_stay (.no rfl rfl rfl rfl) rfl rfl ?_
      refine G_stay (.no rfl rfl rfl rfl) rfl rfl ?_
      refine G_val (V_pick_t rfl rfl rfl) rfl rfl (.none rfl) ?_
      refine G_end ?_
      exact JQ_end 3 rfl rfl (by kernel_rfl)
    · intro H4
      dsimp only [List.take]
      simp only [Bool.and_eq_true, Bool.or_eq_true, Bool.not_eq_true', Bool.not_eq_false', Bool.and_eq_false_iff, Bool.or_eq_false_iff, Bool.not_not, decide_eq_true_eq, decide_eq_false_iff_not, ne_eq, Decidable.not_not, Bool.decide_eq_true] at H4
      refine G_val (V_move rfl rfl) rfl rfl (.yes rfl rfl rfl rfl) ?_
      refine G_val (V_lss rfl rfl rfl) rfl rfl (.yes rfl rfl rfl rfl) ?_
      refine G_val (V_pick_f rfl rfl rfl) rfl rfl (.none rfl) ?_
      refine G_end ?_
      exact JQ_end 3 rfl rfl (by kernel_rfl)
    dsimp only [List.drop]
    refine G_val (V_move rfl rfl) rfl rfl (.none rfl) ?_
    apply G_joinOr 3 19 22 rfl
    · intro H5
      dsimp only [List.take]
      simp only [Bool.and_eq_true, Bool.or_eq_true, Bool.not_eq_true', Bool.not_eq_false', Bool.and_eq_false_iff, Bool.or_eq_false_iff, Bool.not_not, decide_eq_true_eq, decide_eq_false_iff_not, ne_eq, Decidable.not_not, Bool.decide_eq_true] at H5
      refine G_stay (.no rfl rfl rfl rfl) rfl rfl ?_
      refine G_stay (.no rfl rfl rfl rfl) rfl rfl ?_
      refine G_val (V_pick_t rfl rfl rfl) rfl rfl (.none rfl) ?_
      refine G_end ?_
      exact JQ_end 3 rfl rfl (by kernel_rfl)
    · intro H6
      dsimp only [List.take]
      simp only [Bool.and_eq_true, Bool.or_eq_true, Bool.not_eq_true', Bool.not_eq_false', Bool.and_eq_false_iff, Bool.or_eq_false_iff, Bool.not_not, decide_eq_true_eq, decide_eq_false_iff_not, ne_eq, Decidable.not_not, Bool.decide_eq_true] at H6
      refine G_val (V_move rfl rfl) rfl rfl (.yes rfl rfl rfl rfl) ?_
      refine G_val (V_gtr rfl rfl rfl) rfl rfl (.yes rfl rfl rfl rfl) ?_
      refine G_val (V_pick_f rfl rfl rfl) rfl rfl (.none rfl) ?_
      refine G_end ?_
      exact JQ_end 3 rfl rfl (by kernel_rfl)
    dsimp only [List.drop]
    refine G_end (X_then ?_)
    refine G_cond rfl (fun H7 => ?_) (fun H7 => ?_)
    · simp only [Bool.and_eq_true, Bool.or_eq_true, Bool.not_eq_true', Bool.not_eq_false', Bool.and_eq_false_iff, Bool.or_eq_false_iff, Bool.not_not, decide_eq_true_eq, decide_eq_false_iff_not, ne_eq, Decidable.not_not, Bool.decide_eq_true] at H7
      refine G_seq (G_region ?_)
      refine G_val (V_assign rfl rfl) rfl rfl (.none rfl) ?_
      refine G_val (V_assign rfl rfl) rfl rfl (.none rfl) ?_
      refine G_end (X_then (G_ret (X_then_ret ?_)))
      refine G_leaveS (.nil _) (by exact (.cons (.tmp rfl) (.cons (.tmp rfl) (.nil)))) rfl ?_ ?_
      · exact (.refl _)
      exact ⟨_, ⟨_, ⟨rfl, ⟨(by assumption), rfl⟩⟩⟩⟩
    simp only [Bool.and_eq_true, Bool.or_eq_true, Bool.not_eq_true', Bool.not_eq_false', Bool.and_eq_false_iff, Bool.or_eq_false_iff, Bool.not_not, decide_eq_true_eq, decide_eq_false_iff_not, ne_eq, Decidable.not_not, Bool.decide_eq_true] at H7
    (exfalso; omega)
  rw [if_neg h]
  obtain ⟨t, rfl⟩ : ∃ t : Nat, terms = t := ⟨terms.toNat, by omega⟩
  obtain ⟨f, rfl⟩ : ∃ f : Nat, k = f := ⟨k.toNat, by omega⟩
  simp only [Int.toNat_natCast]
  refine CallS.intro (l := [_, _]) _ Tryd.func35 rfl Tryd.ntmps35 rfl ?_
  refine G_seq (G_region ?_)
  refine G_val (V_assign rfl rfl) rfl rfl (.none rfl) ?_
  refine G_val (V_assign rfl rfl) rfl rfl (.none rfl) ?_
  refine G_end (X_then (G_seq (G_seq (G_region ?_))))
  refine G_val (V_move rfl rfl) rfl rfl (.none rfl) ?_
  refine G_val (V_lss rfl rfl rfl) rfl rfl (.none rfl) ?_
  refine G_val (V_move rfl rfl) rfl rfl (.none rfl) ?_
  refine G.bool_f 11 rfl (decide_eq_false (by omega)) ?_
  refine G_val (V_move rfl rfl) rfl rfl (.yes rfl rfl rfl rfl) ?_
  refine G_val (V_gtr rfl rfl rfl) rfl rfl (.yes rfl rfl rfl rfl) ?_
  refine G_val (V_pick_f rfl rfl rfl) rfl rfl (.none rfl) ?_
  refine G_val (V_move rfl rfl) rfl rfl (.none rfl) ?_
  refine G.bool_f 15 rfl (decide_eq_false (by omega)) ?_
  refine G_val (V_move rfl rfl) rfl rfl (.yes rfl rfl rfl rfl) ?_
  refine G_val (V_lss rfl rfl rfl) rfl rfl (.yes rfl rfl rfl rfl) ?_
  refine G_val (V_pick_f rfl rfl rfl) rfl rfl (.none rfl) ?_
  refine G_val (V_move rfl rfl) rfl rfl (.none rfl) ?_
  refine G.bool_f 19 rfl (decide_eq_false (by omega)) ?_
  refine G_val (V_move rfl rfl) rfl rfl (.yes rfl rfl rfl rfl) ?_
  refine G_val (V_gtr rfl rfl rfl) rfl rfl (.yes rfl rfl rfl rfl) ?_
  refine G_val (V_pick_f rfl rfl rfl) rfl rfl (.none rfl) ?_
  refine G_end (X_then ?_)
  refine G_cond_f rfl (decide_eq_false (by omega)) ?_
  refine G_skip (X_then (G_seq (G_region ?_)))
  (refine G_makeMap kL rfl rfl rfl (.none rfl) ?_; intro b23)
  (refine G_alloc rfl rfl rfl (.none rfl) ?_; intro b6)
  refine G_store1 rfl rfl rfl rfl rfl rfl (.none rfl) (.head _ _ _) ?_
  refine G_end (X_then (G_seq (G_region ?_)))
  (refine G_alloc rfl rfl rfl (.none rfl) ?_; intro b7)
  refine G_end (X_then (G_seq (G_seq (G_region ?_))))
  refine G_val (V_build rfl rfl (by simp [fillV, setLs, setL, Value.cells]; rfl)) rfl rfl (.none rfl) ?_
  refine G_val (V_move rfl rfl) rfl rfl (.none rfl) ?_
  refine G_val (V_move rfl rfl) rfl rfl (.none rfl) ?_
  refine G_call (k := 58) (.mk rfl rfl rfl rfl) rfl rfl (.none rfl) (all_call' _ _ _ _) ?_
  rintro r1 E2 L3 hE4 ⟨z5, ⟨⟨z6, ⟨z7, ⟨z8, ⟨rfl, ⟨rfl, rfl⟩⟩⟩⟩⟩, rfl⟩⟩
  refine G_end (X_then (G_block ?_))
  refine G.unboth ?_
  refine G.unboth ?_
  refine G.nilSl 25 5 ?_
  have hmap : (lookT t f).map (([] : List Int) ++ ·) = lookT t f := by simp
  have it : Iter Tryd.prog 66 #[.pointer (some ⟨z6, 0, none⟩), .pointer (some ⟨z7, 0, none⟩), .pointer (some ⟨z8, 0, none⟩)] (fun l : List Int => [lkP l].toArray) (lookT t f) E
      [.blk z6 (.cells (lkC 0 0 0 0 0) 25 (0, 0)), .blk z7 (.cells #[.int .i64 (f : Nat)] 3 (0, 0)), .blk z8 (.cells #[.int .i64 (t : Nat)] 3 (0, 0))] := by
    have := iter_all t (by omega) f [] (by simp only [List.length_nil]; omega) z6 z7 z8 E
    rw [hmap, show ([] : List Int).length + f = f from Nat.zero_add f] at this
    exact this
  have hlen := lenT_le (t := t) (f := f) (by omega) (by omega)
  have hll := lookT_len t f
  refine G_rangeI (σ := List (List Int) × Option Addr × Nat) (enc := fun l : List Int => [lkP l]) rfl it (fun _ => E)
    (fun s => .sl 25 5 s.2.1 s.1.length s.2.2 (lksC s.1) :: .blk b7 (.cells #[.slice s.2.1 s.1.length s.2.2] 48 (0, 0)) :: .blk b6 (.cells #[.map (some b23)] 75 (0, 0)) :: .blk b23 (mobj kL (seenL s.1)) :: L)
    (fun pre s => s.1 = pre) (fun _ _ _ => False) ([], none, 0) rfl rfl ((List.perm_append_comm (l₁ := [_]) (l₂ := [_, _, _])).append_right _) rfl (fun _ => rfl) ?_ ?_ ?_
  · rintro l D tm fn M pre x ⟨ls, a, c⟩ hpre rfl hE
    obtain ⟨hok, hni, hall⟩ := lookT_pre hpre
    obtain ⟨hg, hp⟩ := seen_none ls x (by have := hok.1; omega) (fun y hy => by have := (hall y hy).1; omega) hni
    have hle := hpre.length_le
    rw [hll] at hle
    simp only [List.length_append, List.length_singleton] at hle
    simp only [List.cons_append]
    refine G_region ?_
    (refine G_alloc rfl rfl rfl (.none rfl) ?_; intro b8)
    refine G_storeA rfl rfl rfl rfl (by simp [Value.oneCell']) rfl (.none rfl) (.head _ _ _) rfl ?_
    refine G_end (X_then ?_)
    refine G_begin (.tail _ (.head _ _ _)) ?_
    refine G_block (G_seq (G_region ?_))
    refine G_val (V_load rfl rfl (Cell.own1 (.tail _ (.tail _ (.tail _ (.tail _ (.tail _ (.head _)))))))) rfl rfl (.none rfl) ?_
    refine G_val (V_loadA rfl rfl (Cells.own (.head _)) rfl) rfl rfl (.none rfl) ?_
    refine G_val (V_lookup kL (toLk x) rfl rfl rfl (.tail _ (.tail _ (.tail _ (.tail _ (.tail _ (.tail _ (.head _)))))))) rfl rfl (.none rfl) ?_
    rw [hg]
    refine G_val (V_not rfl rfl) rfl rfl (.none rfl) ?_
    refine G_end (X_then ?_)
    refine G_cond_t rfl (by kernel_rfl) ?_
    refine G_seq (G_region ?_)
    refine G_val (V_load rfl rfl (Cell.own1 (.tail _ (.tail _ (.tail _ (.tail _ (.tail _ (.head _)))))))) rfl rfl (.none rfl) ?_
    refine G_val (V_loadA rfl rfl (Cells.own (.head _)) rfl) rfl rfl (.none rfl) ?_
    refine G_mapUpdate kL (toLk x) (.inl rfl) rfl rfl rfl rfl (.none rfl) (.tail _ (.tail _ (.tail _ (.tail _ (.tail _ (.tail _ (.head _ _ _))))))) ?_
    rw [hp, seen_snoc]
    refine G_end (X_then (G_region ?_))
    refine G_val (V_load rfl rfl (Cell.own1 (.tail _ (.tail _ (.tail _ (.tail _ (.head _))))))) rfl rfl (.none rfl) ?_
    refine G_val (V_loadA rfl rfl (Cells.own (.head _)) rfl) rfl rfl (.none rfl) ?_
    (refine G_lit rfl rfl (by decide) (by simp [fillS, zeros, setLs, setL, Value.cells, List.range, List.range.loop]; rfl) rfl rfl (.none rfl) ?_; intro b37)
    (refine G_append rfl rfl rfl (Rd.lit (.head _) rfl) (by simp [Value.oneCell']) (by omega) (by omega) rfl rfl (.none rfl) (fun _ _ => (.tail _ (.tail _ (.tail _ (.tail _ (.head _ _ _)))))) ?_; intro a38 c38; refine G.rm (.head _ _) ?_)
    refine G_store1 rfl rfl rfl rfl rfl rfl (.none rfl) (.tail _ (.tail _ (.tail _ (.tail _ (.head _ _ _))))) ?_
    refine G_end (X_block ?_)
    rw [← lksC_snoc]
    refine G.drop ?_
    exact G_rEnd (ls ++ [x], a38, c38) rfl rfl (.refl _) (by simp only [List.length_append, List.length_singleton, List.cons_append])
  · rintro D ⟨ls, a, c⟩ rfl hE
    refine X_block (X_then (G_seq (G_region ?_)))
    refine G_val (V_load rfl rfl (Cell.own1 (.tail _ (.tail _ (.head _))))) rfl rfl (.none rfl) ?_
    refine G_val (V_assign rfl rfl) rfl rfl (.none rfl) ?_
    refine G_val (V_assign rfl rfl) rfl rfl (.none rfl) ?_
    refine G_end (X_then (G_ret ?_))
    refine G_leave_ms [D] ?_
    refine G.freezeSl (.head _ _) ?_
    intro E1 hE1 hs1 _
    simp only at hs1
    refine G_leaveS (.drop _ (.drop _ (.drop _ (.nil _)))) (by exact (.cons (.tmp rfl) (.cons (.tmp rfl) (.nil)))) rfl ?_ ?_
    · exact hE1
    exact ⟨_, ⟨_, ⟨rfl, ⟨(by assumption), rfl⟩⟩⟩⟩
  · rintro D c pre s _ h
    exact h.elim
end
end Go.Proofs.YthcfakmmomfcaaaDoor
set_option linter.unusedSimpArgs false
set_option linter.unusedVariables false
set_option maxHeartbeats 2000000
set_option maxRecDepth 20000
namespace Go.Proofs.YthcfakmmomfcaaaDoor
open Go.RowKit
/-! The reference all. -/
theorem lksC_one (ls : List (List Int)) : ∀ v, v ∈ lksC ls → v.oneCell' = true := by
  intro v hv
  simp only [lksC, List.mem_flatMap, List.mem_cons, List.not_mem_nil, or_false] at hv
  obtain ⟨l, _, h⟩ := hv
  rcases h with rfl | rfl | rfl | rfl | rfl <;> rfl
theorem lksC_app (a b : List (List Int)) : lksC a ++ lksC b = lksC (a ++ b) := by simp [lksC]
theorem preI_len {t f : Nat} (p : List Int) (ht : t ≤ 8) (hf : f + 1 ≤ 4) {i : Nat} (hi : i ≤ t) : (preI t f p i).length ≤ 4681 := by
  have h1 := (preI_mono t f p i (t - i)).length_le
  rw [show i + (t - i) = t by omega, ← preI_all, List.length_map, lookT_len] at h1
  exact Nat.le_trans h1 (lenT_le ht hf)
theorem Rall_call (t : Nat) (ht : t ≤ 8) : ∀ (f : Nat) (p : List Int), p.length + f ≤ 4 → ∀ (E : Env) (L : List Res),
    CallS Tryd.prog 57 #[.int .i64 (t : Nat), .int .i64 (p.length + f : Nat), lkP p] E L (fun r E' L' => ∃ q c, r = .slice q ((lookT t f).map (p ++ ·)).length c ∧ SlE E' 5 q ((lookT t f).map (p ++ ·)).length (lksC ((lookT t f).map (p ++ ·))) ∧ L = L') := by
  intro f
  induction f with
  | zero =>
    intro p hp E L
    have hz : (lookT t 0).map (p ++ ·) = [p] := by simp [lookT]
    have hl : lksC [p] = [.int .i64 (p.length : Nat), .int .i64 (gd p 0), .int .i64 (gd p 1), .int .i64 (gd p 2), .int .i64 (gd p 3)] := rfl
    rw [hz, hl]
    refine CallS.intro (l := [_, _, _]) _ Tryd.func57 rfl Tryd.ntmps57 rfl ?_
    refine G_seq (G_region ?_)
    (refine G_boxA rfl rfl rfl rfl (.none rfl) ?_; intro b5)
    refine G_val (V_assign rfl rfl) rfl rfl (.none rfl) ?_
    refine G_end (X_then (G_seq (G_region ?_)))
    refine G_val (V_loadA rfl rfl (Cells.own (.head _)) rfl) rfl rfl (.none rfl) ?_
    (refine G_lit rfl rfl (by decide) (by simp [fillS, zeros, setLs, setL, Value.cells, List.range, List.range.loop]; rfl) rfl rfl (.none rfl) ?_; intro b11)
    refine G_val (V_assign rfl rfl) rfl rfl (.none rfl) ?_
    refine G_end (X_then (G_seq (G_seq (G_region ?_))))
    refine G_val (V_fieldAddr rfl rfl (by decide)) rfl rfl (.none rfl) ?_
    refine G_val (V_load rfl rfl (Cell.own (.tail _ (.head _)) rfl)) rfl rfl (.none rfl) ?_
    refine G_val (V_move rfl rfl) rfl rfl (.none rfl) ?_
    refine G_val (V_eql rfl rfl rfl) rfl rfl (.none rfl) ?_
    refine G_end (X_then ?_)
    refine G_cond_t rfl (decide_eq_true (by omega)) ?_
    refine G_seq (G_region ?_)
    refine G_val (V_move rfl rfl) rfl rfl (.none rfl) ?_
    refine G_val (V_assign rfl rfl) rfl rfl (.none rfl) ?_
    refine G_end (X_then (G_ret (X_then_ret ?_)))
    refine G.freezeB (k := 1) (sz := 5) (.head _ _) rfl ?_
    intro E9 hE9 hs9
    refine G_leaveS (.drop _ (.nil _)) (by exact (.cons (.tmp rfl) (.nil))) rfl ?_ ?_
    · exact hE9
    exact ⟨_, ⟨_, ⟨rfl, ⟨(by assumption), rfl⟩⟩⟩⟩
  | succ f ih =>
    intro p hp E L
    rw [preI_all]
    refine CallS.intro (l := [_, _, _]) _ Tryd.func57 rfl Tryd.ntmps57 rfl ?_
    refine G_seq (G_region ?_)
    (refine G_boxA rfl rfl rfl rfl (.none rfl) ?_; intro b5)
    refine G_val (V_assign rfl rfl) rfl rfl (.none rfl) ?_
    refine G_end (X_then (G_seq (G_region ?_)))
    refine G_val (V_loadA rfl rfl (Cells.own (.head _)) rfl) rfl rfl (.none rfl) ?_
    (refine G_lit rfl rfl (by decide) (by simp [fillS, zeros, setLs, setL, Value.cells, List.range, List.range.loop]; rfl) rfl rfl (.none rfl) ?_; intro b11)
    refine G_val (V_assign rfl rfl) rfl rfl (.none rfl) ?_
    refine G_end (X_then (G_seq (G_seq (G_region ?_))))
    refine G_val (V_fieldAddr rfl rfl (by decide)) rfl rfl (.none rfl) ?_
    refine G_val (V_load rfl rfl (Cell.own (.tail _ (.head _)) rfl)) rfl rfl (.none rfl) ?_
    refine G_val (V_move rfl rfl) rfl rfl (.none rfl) ?_
    refine G_val (V_eql rfl rfl rfl) rfl rfl (.none rfl) ?_
    refine G_end (X_then ?_)
    refine G_cond_f rfl (decide_eq_false (by omega)) ?_
    refine G_skip (X_then (G_seq (G_seq (G_region ?_))))
    refine G_val (V_assign rfl rfl) rfl rfl (.none rfl) ?_
    refine G_end (X_then (G_block ?_))
    refine G.blkSl (b := b11) (l := lksC [p]) (k := 1) (sz := 5) rfl (by decide) ?_
    refine G_loop (α := Nat × Option Addr × Nat × Env) (fun x => [(0, .int .i64 (t : Nat)), (1, .int .i64 (p.length + (f + 1) : Nat)), (5, .pointer (some ⟨b5, 0, none⟩)), (7, .slice x.2.1 (preI t f p x.1).length x.2.2.1), (8, .int .i64 (x.1 : Nat))]) (fun x => x.2.2.2)
      (fun x => .sl 25 5 x.2.1 (preI t f p x.1).length x.2.2.1 (lksC (preI t f p x.1)) :: .blk b5 (.cells (lkC (p.length : Nat) (gd p 0) (gd p 1) (gd p 2) (gd p 3)) 25 (0, 0)) :: L)
      (fun x => x.1 ≤ t ∧ E.Le x.2.2.2) (fun x => t - x.1) (0, some ⟨b11, 0, none⟩, 1, E) ⟨Nat.zero_le _, .refl _⟩ ⟨rfl, rfl, rfl, rfl, rfl, trivial⟩ rfl rfl ?_
    rintro ⟨i, q, c, E1⟩ ⟨hi, hE1⟩
    simp only at hi hE1 ⊢
    by_cases hlt : i < t
    · refine G_seq ?_
      refine G_seq (G_region ?_)
      refine G_val (V_move rfl rfl) rfl rfl (.none rfl) ?_
      refine G_val (V_move rfl rfl) rfl rfl (.none rfl) ?_
      refine G_val (V_lss rfl rfl rfl) rfl rfl (.none rfl) ?_
      refine G_end (X_then ?_)
      refine G_cond_t rfl (decide_eq_true (by omega)) ?_
      refine G_skip (X_then (G_seq (G_block (G_seq (G_region ?_)))))
      refine G_val (V_loadA rfl rfl (Cells.own (.tail _ (.head _))) rfl) rfl rfl (.none rfl) ?_
      (refine G_alloc rfl rfl rfl (.none rfl) ?_; intro b9)
      refine G_storeA rfl rfl rfl rfl (by simp [Value.oneCell']) rfl (.none rfl) (.head _ _ _) rfl ?_
      refine G_end (X_then (G_seq (G_region ?_)))
      refine G_val (V_fieldAddr rfl rfl (by decide)) rfl rfl (.none rfl) ?_
      refine G_val (V_load rfl rfl (Cell.own (.head _) rfl)) rfl rfl (.none rfl) ?_
      refine G_val (V_move rfl rfl) rfl rfl (.none rfl) ?_
      refine G_val (V_fieldAddr rfl rfl (by decide)) rfl rfl (.none rfl) ?_
      refine G_val (V_idxAddrArr rfl rfl rfl (by omega) (by omega)) rfl rfl (.none rfl) ?_
      refine G_storeB rfl rfl rfl rfl rfl rfl (.none rfl) (.head _ _ _) (by show _ < 5; omega) ?_
      show G _ _ _ _ (Res.blk b9 (.cells (List.set [.int .i64 (p.length : Nat), .int .i64 (gd p 0), .int .i64 (gd p 1), .int .i64 (gd p 2), .int .i64 (gd p 3)] (0 + 1 + ((p.length : Nat) : Int).toNat * 1) (.int .i64 (i : Nat))).toArray 25 (0, 0)) :: _) _
      rw [ofC_set2 p p.length p.length (by omega) rfl]
      refine G_end (X_then (G_seq (G_region ?_)))
      refine G_val (V_fieldAddr rfl rfl (by decide)) rfl rfl (.none rfl) ?_
      refine G_val (V_load rfl rfl (Cell.own (.head _) rfl)) rfl rfl (.none rfl) ?_
      refine G_val (V_add_i64 rfl rfl rfl (by omega) (by omega)) rfl rfl (.none rfl) ?_
      refine G_val (V_fieldAddr rfl rfl (by decide)) rfl rfl (.none rfl) ?_
      refine G_storeAt rfl rfl rfl rfl rfl rfl (.none rfl) (.head _ _ _) (Nat.le_of_ble_eq_true rfl) (by simp only [putAll, Nat.zero_add, Nat.reduceAdd, List.setIfInBounds_toArray, List.set_cons_succ, List.set_cons_zero]; rfl) ?_
      refine G_end (X_then (G_region ?_))
      refine G_val (V_move rfl rfl) rfl rfl (.none rfl) ?_
      refine G_val (V_move rfl rfl) rfl rfl (.none rfl) ?_
      refine G_val (V_move rfl rfl) rfl rfl (.none rfl) ?_
      refine G_val (V_loadA rfl rfl (Cells.own (.head _)) rfl) rfl rfl (.none rfl) ?_
      have hpl : (p ++ [(i : Int)]).length = p.length + 1 := by simp
      have hc := ih (p ++ [(i : Int)]) (by rw [hpl]; omega) E1 (.blk b9 (.cells #[.int .i64 ((p.length : Nat) + 1), .int .i64 (gd (p ++ [(i : Int)]) 0), .int .i64 (gd (p ++ [(i : Int)]) 1), .int .i64 (gd (p ++ [(i : Int)]) 2), .int .i64 (gd (p ++ [(i : Int)]) 3)] 25 (0, 0)) :: .sl 25 5 q (preI t f p i).length c (lksC (preI t f p i)) :: .blk b5 (.cells (lkC (p.length : Nat) (gd p 0) (gd p 1) (gd p 2) (gd p 3)) 25 (0, 0)) :: L)
      simp only [lkP, hpl] at hc
      rw [show p.length + 1 + f = p.length + (f + 1) by omega, show ((p.length + 1 : Nat) : Int) = (p.length : Int) + 1 by omega] at hc
      refine G_call (k := 57) (.mk rfl rfl rfl rfl) rfl rfl (.none rfl) hc ?_
      rintro r2 E2 L2 hE2 ⟨q2, k2, rfl, hs2, rfl⟩
      have hone := lksC_one ((lookT t f).map ((p ++ [(i : Int)]) ++ ·))
      have hln := preI_len (t := t) (f := f) p ht (by omega) (i := i + 1) hlt
      rw [preI_succ, List.length_append] at hln
      refine G_append rfl rfl rfl (SlE.rd hs2) hone (by omega) (by omega) rfl rfl (.none rfl) (fun _ _ => .tail _ (.head _ _ _)) ?_
      intro a37 c37
      rw [lksC_app, ← preI_succ, ← List.length_append, ← preI_succ]
      refine G_val (V_assign rfl rfl) rfl rfl (.none rfl) ?_
      refine G_end (X_block (X_then (G_region ?_)))
      refine G_val (V_move rfl rfl) rfl rfl (.none rfl) ?_
      refine G_val (V_add_i64 rfl rfl rfl (by omega) (by omega)) rfl rfl (.none rfl) ?_
      refine G_val (V_assign rfl rfl) rfl rfl (.none rfl) ?_
      refine G_end (X_then ?_)
      refine G.drop ?_
      exact G_again (i + 1, _, _, _) ⟨hlt, hE1.trans hE2⟩ (by simp only; omega) ⟨rfl, rfl, rfl, rfl, rfl, trivial⟩ rfl rfl
    · obtain rfl : i = t := by omega
      refine G_seq (G_seq (G_region ?_))
      refine G_val (V_move rfl rfl) rfl rfl (.none rfl) ?_
      refine G_val (V_move rfl rfl) rfl rfl (.none rfl) ?_
      refine G_val (V_lss rfl rfl rfl) rfl rfl (.none rfl) ?_
      refine G_end (X_then ?_)
      refine G_cond_f rfl (decide_eq_false (by omega)) ?_
      refine G_exit (X_then_exit (X_then_exit (X_block_hit (X_then (G_seq (G_region ?_))))))
      refine G_val (V_move rfl rfl) rfl rfl (.none rfl) ?_
      refine G_val (V_assign rfl rfl) rfl rfl (.none rfl) ?_
      refine G_end (X_then (G_ret ?_))
      refine G.freezeSl (.head _ _) ?_
      intro E9 hE9 hs9 hc9
      refine G_leaveS (.drop _ (.nil _)) (by exact (.cons (.tmp rfl) (.nil))) rfl ?_ ?_
      · exact (hE1.trans hE9)
      exact ⟨_, ⟨_, ⟨rfl, ⟨(by assumption), rfl⟩⟩⟩⟩
end Go.Proofs.YthcfakmmomfcaaaDoor
