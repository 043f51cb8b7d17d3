/-
  Rules and contracts, packed: D12, D22, D23, D13, D14, D15.
-/
import Derived.Test.YtaoinojdijbhaaaQ7
set_option maxHeartbeats 1000000
set_option linter.unusedSimpArgs false
set_option linter.unusedVariables false
set_option maxHeartbeats 2000000
set_option maxRecDepth 20000
namespace Go.Proofs.Ytaoinojdijbhaaa
open Go.RowKit
theorem wrap_lo {a : Int} (h1 : -9223372036854775808 ≤ a) (h2 : a < -9223372036854775792) : IntKind.i64.wrap (a - 16) = a + 18446744073709551600 := by
  simp [IntKind.wrap, IntKind.signed, IntKind.bits]
  split <;> omega
section
variable (E : Env) (L : List Res)
theorem Empty_call (gv : Value) (g : Gr) (hg : GrE E gv g) (hl : Light g) (rp : Option Addr) (rc : Nat) (r : List Int) (hr : SlE E 1 rp r.length (i64s r)) (h12 : r.length ≤ 1000) (hri : ∀ s, s ∈ r → -9223372036854775808 ≤ s ∧ s ≤ 9223372036854775807) :
    CallV Try.prog 46 #[gv, .slice rp r.length rc] E L (.tuple #[.bool (emptyM g r).1, .int .i64 (emptyM g r).2]) := by
  have hg0 := hg
  obtain ⟨tp, tc, np, nc, pp, pc, rfl, ht, hn, ⟨rows, hrows, hps, hre⟩, k1, k2, k3⟩ := hg
  have q2 := hl.n
  refine CallS.toV (CallS.intro (l := [_, _]) _ Try.func46 rfl Try.ntmps46 rfl ?_)
  by_cases hv : gcheck g = 0
  · have hva := valid_of hv
    have hy := nullM_len hva
    have e := okL_pos hv (nullM g)
    have e2 : emptyM g r = if r.any (fun s => !termB g s && !ntB g s) = true then (false, 14) else (r.all (goodB false (nullM g)), 0) := by rw [emptyM, if_pos hv]
    refine G_seq (G_region ?_)
    (refine G_boxA rfl rfl rfl rfl (.none rfl) ?_; intro b2)
    refine G_val (V_assign rfl rfl) rfl rfl (.none rfl) ?_
    refine G_val (V_assign rfl rfl) rfl rfl (.none rfl) ?_
    refine G_end (X_then (G_seq (G_region ?_)))
    refine G_val (V_loadA rfl rfl (Cells.own (.head _)) rfl) rfl rfl (.none rfl) ?_
    refine G_call (k := 38) (.mk rfl rfl rfl rfl) rfl rfl (.none rfl) (Nullable_call _ _ _ _ (by assumption) (by assumption)) ?_
    rintro r1 E2 L3 hE4 ⟨z5, ⟨z6, ⟨rfl, ⟨Z7, rfl⟩⟩⟩⟩
    replace hr := hr.mono hE4
    replace hg0 := hg0.mono hE4
    replace ht := ht.mono hE4
    replace hn := hn.mono hE4
    replace hps := hps.mono hE4
    refine G_val (V_move rfl rfl) rfl rfl (.none rfl) ?_
    refine G_val (V_extract rfl rfl rfl) rfl rfl (.none rfl) ?_
    refine G_val (V_extract rfl rfl rfl) rfl rfl (.none rfl) ?_
    refine G_val (V_assign rfl rfl) rfl rfl (.none rfl) ?_
    refine G_val (V_assign rfl rfl) rfl rfl (.none rfl) ?_
    refine G_end (X_then (G_seq (G_seq (G_region ?_))))
    refine G_val (V_move rfl rfl) rfl rfl (.none rfl) ?_
    refine G_val (V_neq rfl rfl rfl) rfl rfl (.none rfl) ?_
    refine G_end (X_then ?_)
    refine G_cond_f rfl (decide_eq_false (by omega)) ?_
    refine G_skip (X_then (G_seq (G_region ?_)))
    refine G_val (V_assign rfl rfl) rfl rfl (.none rfl) ?_
    refine G_end (X_then (G_seq (G_seq (G_region ?_))))
    refine G_val (V_move rfl rfl) rfl rfl (.none rfl) ?_
    refine G_val (V_lenS rfl rfl) rfl rfl (.none rfl) ?_
    refine G_val (V_move rfl rfl) rfl rfl (.none rfl) ?_
    refine G_end (X_then (G_block ?_))
    rw [e, hy] at Z7 ⊢
    refine G_loop (α := Nat) (fun i => [(2, .pointer (some ⟨b2, 0, none⟩)), (6, .slice z5 g.names.length z6), (8, .bool ((r.take i).all (goodB false (nullM g)))), (20, .slice rp r.length rc), (21, .int .i64 r.length), (22, .int .i64 i)]) (fun _ => E2) (fun _ => GB b2 g tp tc np nc pp pc :: L)
      (fun i => i ≤ r.length ∧ ∀ k, k < i → (hk : k < r.length) → (!termB g r[k] && !ntB g r[k]) = false) (fun i => r.length - i) 0 ⟨Nat.zero_le _, fun k hk => by cases hk⟩ ⟨rfl, rfl, rfl, rfl, rfl, rfl, trivial⟩ rfl rfl ?_
    rintro i ⟨hi, hall⟩
    by_cases hlt : i < r.length
    · have hx := i64s_at hlt
      have hrb := hri _ (List.getElem_mem hlt)
      have htake : (r.take (i + 1)).all (goodB false (nullM g)) = ((r.take i).all (goodB false (nullM g)) && goodB false (nullM g) r[i]) := by rw [List.take_succ_eq_append_getElem hlt, List.all_append]; simp
      have again : (!termB g r[i] && !ntB g r[i]) = false → ∀ k, k < i + 1 → (hk : k < r.length) → (!termB g r[k] && !ntB g r[k]) = false := by
        intro h k hk hk2
        by_cases he : k = i
        · subst he; exact h
        · exact hall k (by omega) hk2
      by_cases hnt : 16 ≤ r[i] ∧ r[i] < 16 + (g.names.length : Int)
      · have hgood : (!termB g r[i] && !ntB g r[i]) = false := by simp [ntB, hnt.1, hnt.2]
        have hlt3 : (r[i] - 16).toNat < (nullM g).length := by omega
        have hb := bools_at hlt3
        have hg : goodB false (nullM g) r[i] = (nullM g)[(r[i] - 16).toNat] := by rw [goodB, if_neg (by omega), bget, List.getElem?_eq_getElem hlt3]; rfl
        rw [hg] at htake
        refine G_seq (G_region ?_)
        refine G_val (V_lss rfl rfl rfl) rfl rfl (.none rfl) ?_
        refine G_end (X_then (G_seq ?_))
        refine G_cond_t rfl (decide_eq_true (by omega)) ?_
        refine G_skip (X_then (G_seq (G_block (G_seq (G_region ?_)))))
        refine G_val (V_idxAddr rfl rfl rfl (SlE.rd (by assumption)) (by omega) (by omega)) rfl rfl (.none rfl) ?_
        refine G_val (V_loadS rfl rfl (SlE.rd (by assumption)) (by assumption) (by simp)) rfl rfl (.none rfl) ?_
        refine G_val (V_assign rfl rfl) rfl rfl (.none rfl) ?_
        refine G_end (X_then (G_seq (G_region ?_)))
        refine G_val (V_move rfl rfl) rfl rfl (.none rfl) ?_
        refine G_val (V_sub_i64 rfl rfl rfl (by omega) (by omega)) rfl rfl (.none rfl) ?_
        refine G_val (V_assign rfl rfl) rfl rfl (.none rfl) ?_
        refine G_end (X_then (G_block (G_seq (G_region ?_))))
        refine G_val (V_move rfl rfl) rfl rfl (.none rfl) ?_
        refine G_val (V_geq rfl rfl rfl) rfl rfl (.none rfl) ?_
        refine G_val (V_move rfl rfl) rfl rfl (.none rfl) ?_
        refine G.bool_t 31 rfl (decide_eq_true (by omega)) ?_
        refine G_val (V_move rfl rfl) rfl rfl (.yes rfl rfl rfl rfl) ?_
        refine G_val (V_move rfl rfl) rfl rfl (.yes rfl rfl rfl rfl) ?_
        refine G_val (V_lenS rfl rfl) rfl rfl (.yes rfl rfl rfl rfl) ?_
        refine G_val (V_lss rfl rfl rfl) rfl rfl (.yes rfl rfl rfl rfl) ?_
        refine G_val (V_pick_t rfl rfl rfl) rfl rfl (.none rfl) ?_
        refine G_val (V_assign rfl rfl) rfl rfl (.none rfl) ?_
        refine G_end (X_then ?_)
        refine G_cond_t rfl (decide_eq_true (by omega)) ?_
        refine G_region ?_
        refine G_val (V_move rfl rfl) rfl rfl (.none rfl) ?_
        refine G_val (V_move rfl rfl) rfl rfl (.none rfl) ?_
        apply G_joinAnd 5 38 43 rfl
        · intro H1
          dsimp only [List.take]
          refine G_val (V_move rfl rfl) rfl rfl (.yes rfl rfl rfl rfl) ?_
          refine G_val (V_move rfl rfl) rfl rfl (.yes rfl rfl rfl rfl) ?_
          refine G_val (V_idxAddr rfl rfl rfl (SlE.rd (by assumption)) (by omega) (by omega)) rfl rfl (.yes rfl rfl rfl rfl) ?_
          refine G_val (V_loadS rfl rfl (SlE.rd (by assumption)) (by assumption) (by simp)) rfl rfl (.yes rfl rfl rfl rfl) ?_
          refine G_val (V_pick_t rfl rfl rfl) rfl rfl (.none rfl) ?_
          refine G_end ?_
          exact JQ_end 5 rfl rfl (by kernel_rfl)
        · intro H2
          dsimp only [List.take]
          refine G_stay (.no rfl rfl rfl rfl) rfl rfl ?_
          refine G_stay (.no rfl rfl rfl rfl) rfl rfl ?_
          refine G_stay (.no rfl rfl rfl rfl) rfl rfl ?_
          refine G_stay (.no rfl rfl rfl rfl) rfl rfl ?_
          refine G_val (V_pick_f rfl rfl rfl) rfl rfl (.none rfl) ?_
          refine G_end ?_
          exact JQ_end 5 rfl rfl (by kernel_rfl)
        dsimp only [List.drop]
        refine G_val (V_assign rfl rfl) rfl rfl (.none rfl) ?_
        refine G_end (X_block (X_block (X_then (G_region ?_))))
        refine G_val (V_add_i64 rfl rfl rfl (by omega) (by omega)) rfl rfl (.none rfl) ?_
        refine G_val (V_move rfl rfl) rfl rfl (.none rfl) ?_
        refine G_end (X_then ?_)
        rw [← htake]
        exact G_again (i + 1) ⟨hlt, again hgood⟩ (by omega) ⟨rfl, rfl, rfl, rfl, rfl, rfl, trivial⟩ rfl rfl
      · by_cases ht : 0 ≤ r[i] ∧ r[i] < g.toks.length
        · have hgood : (!termB g r[i] && !ntB g r[i]) = false := by simp [termB, ht.1, ht.2]
          have hg : goodB false (nullM g) r[i] = false := by rw [goodB, if_pos (by have := hva.toks; omega)]
          rw [hg, Bool.and_false] at htake
          refine G_seq (G_region ?_)
          refine G_val (V_lss rfl rfl rfl) rfl rfl (.none rfl) ?_
          refine G_end (X_then (G_seq ?_))
          refine G_cond_t rfl (decide_eq_true (by omega)) ?_
          refine G_skip (X_then (G_seq (G_block (G_seq (G_region ?_)))))
          refine G_val (V_idxAddr rfl rfl rfl (SlE.rd (by assumption)) (by omega) (by omega)) rfl rfl (.none rfl) ?_
          refine G_val (V_loadS rfl rfl (SlE.rd (by assumption)) (by assumption) (by simp)) rfl rfl (.none rfl) ?_
          refine G_val (V_assign rfl rfl) rfl rfl (.none rfl) ?_
          refine G_end (X_then (G_seq (G_region ?_)))
          refine G_val (V_move rfl rfl) rfl rfl (.none rfl) ?_
          refine G_val (V_sub_i64 rfl rfl rfl (by omega) (by omega)) rfl rfl (.none rfl) ?_
          refine G_val (V_assign rfl rfl) rfl rfl (.none rfl) ?_
          refine G_end (X_then (G_block (G_seq (G_region ?_))))
          refine G_val (V_move rfl rfl) rfl rfl (.none rfl) ?_
          refine G_val (V_geq rfl rfl rfl) rfl rfl (.none rfl) ?_
          refine G_val (V_move rfl rfl) rfl rfl (.none rfl) ?_
          apply G_joinAnd 5 31 36 rfl
          · intro H1
            dsimp only [List.take]
            simp only [Bool.and_eq_true, Bool.or_eq_true, Bool.not_eq_true', Bool.not_eq_false', Bool.and_eq_false_iff, Bool.or_eq_false_iff, Bool.not_not, decide_eq_true_eq, decide_eq_false_iff_not, ne_eq, Decidable.not_not, Bool.decide_eq_true] at H1
            refine G_val (V_move rfl rfl) rfl rfl (.yes rfl rfl rfl rfl) ?_
            refine G_val (V_move rfl rfl) rfl rfl (.yes rfl rfl rfl rfl) ?_
            refine G_val (V_lenS rfl rfl) rfl rfl (.yes rfl rfl rfl rfl) ?_
            refine G_val (V_lss rfl rfl rfl) rfl rfl (.yes rfl rfl rfl rfl) ?_
            refine G_val (V_pick_t rfl rfl rfl) rfl rfl (.none rfl) ?_
            refine G_end ?_
            exact JQ_end 5 rfl rfl (by kernel_rfl)
          · intro H2
            dsimp only [List.take]
            simp only [Bool.and_eq_true, Bool.or_eq_true, Bool.not_eq_true', Bool.not_eq_false', Bool.and_eq_false_iff, Bool.or_eq_false_iff, Bool.not_not, decide_eq_true_eq, decide_eq_false_iff_not, ne_eq, Decidable.not_not, Bool.decide_eq_true] at H2
            refine G_stay (.no rfl rfl rfl rfl) rfl rfl ?_
            refine G_stay (.no rfl rfl rfl rfl) rfl rfl ?_
            refine G_stay (.no rfl rfl rfl rfl) rfl rfl ?_
            refine G_stay (.no rfl rfl rfl rfl) rfl rfl ?_
            refine G_val (V_pick_f rfl rfl rfl) rfl rfl (.none rfl) ?_
            refine G_end ?_
            exact JQ_end 5 rfl rfl (by kernel_rfl)
          dsimp only [List.drop]
          refine G_val (V_assign rfl rfl) rfl rfl (.none rfl) ?_
          refine G_end (X_then ?_)
          refine G_cond rfl (fun H3 => ?_) (fun H3 => ?_)
          · simp only [Bool.and_eq_true, Bool.or_eq_true, Bool.not_eq_true', Bool.not_eq_false', Bool.and_eq_false_iff, Bool.or_eq_false_iff, Bool.not_not, decide_eq_true_eq, decide_eq_false_iff_not, ne_eq, Decidable.not_not, Bool.decide_eq_true] at H3
            (exfalso; omega)
          simp only [Bool.and_eq_true, Bool.or_eq_true, Bool.not_eq_true', Bool.not_eq_false', Bool.and_eq_false_iff, Bool.or_eq_false_iff, Bool.not_not, decide_eq_true_eq, decide_eq_false_iff_not, ne_eq, Decidable.not_not, Bool.decide_eq_true] at H3
          refine G_seq (G_region ?_)
          refine G_val (V_move rfl rfl) rfl rfl (.none rfl) ?_
          refine G_val (V_geq rfl rfl rfl) rfl rfl (.none rfl) ?_
          refine G_val (V_move rfl rfl) rfl rfl (.none rfl) ?_
          refine G.bool_t 47 rfl (decide_eq_true (by omega)) ?_
          refine G_val (V_move rfl rfl) rfl rfl (.yes rfl rfl rfl rfl) ?_
          refine G_val (V_fieldAddr rfl rfl (by decide)) rfl rfl (.yes rfl rfl rfl rfl) ?_
          refine G_val (V_load rfl rfl (Cell.own (.head _) rfl)) rfl rfl (.yes rfl rfl rfl rfl) ?_
          refine G_val (V_lenS rfl rfl) rfl rfl (.yes rfl rfl rfl rfl) ?_
          refine G_val (V_lss rfl rfl rfl) rfl rfl (.yes rfl rfl rfl rfl) ?_
          refine G_val (V_pick_t rfl rfl rfl) rfl rfl (.none rfl) ?_
          refine G_val (V_assign rfl rfl) rfl rfl (.none rfl) ?_
          refine G_end (X_then ?_)
          refine G_cond_t rfl (decide_eq_true (by omega)) ?_
          refine G_region ?_
          refine G_val (V_assign rfl rfl) rfl rfl (.none rfl) ?_
          refine G_end (X_block (X_block (X_then (G_region ?_))))
          refine G_val (V_add_i64 rfl rfl rfl (by omega) (by omega)) rfl rfl (.none rfl) ?_
          refine G_val (V_move rfl rfl) rfl rfl (.none rfl) ?_
          refine G_end (X_then ?_)
          exact G_again (i + 1) ⟨hlt, again hgood⟩ (by omega) ⟨rfl, rfl, by rw [htake]; rfl, rfl, rfl, rfl, trivial⟩ rfl rfl
        · have hbad : (!termB g r[i] && !ntB g r[i]) = true := by
            have h1 : termB g r[i] = false := by simp [termB]; omega
            have h2 : ntB g r[i] = false := by simp [ntB]; omega
            rw [h1, h2]; rfl
          have e3 : emptyM g r = (false, 14) := by rw [e2, if_pos (any_of hlt hbad)]
          rw [e3]
          by_cases hwr : r[i] < -9223372036854775792
          · have hwv : IntKind.i64.wrap (r[i] - 16) = r[i] + 18446744073709551600 := wrap_lo hrb.1 hwr
            refine G_seq (G_region ?_)
            refine G_val (V_lss rfl rfl rfl) rfl rfl (.none rfl) ?_
            refine G_end (X_then (G_seq ?_))
            refine G_cond_t rfl (decide_eq_true (by omega)) ?_
            refine G_skip (X_then (G_seq (G_block (G_seq (G_region ?_)))))
            refine G_val (V_idxAddr rfl rfl rfl (SlE.rd (by assumption)) (by omega) (by omega)) rfl rfl (.none rfl) ?_
            refine G_val (V_loadS rfl rfl (SlE.rd (by assumption)) (by assumption) (by simp)) rfl rfl (.none rfl) ?_
            refine G_val (V_assign rfl rfl) rfl rfl (.none rfl) ?_
            refine G_end (X_then (G_seq (G_region ?_)))
            refine G_val (V_move rfl rfl) rfl rfl (.none rfl) ?_
            refine G_val (V_sub rfl rfl rfl) rfl rfl (.none rfl) ?_
            refine G_val (V_assign rfl rfl) rfl rfl (.none rfl) ?_
            refine G_end (X_then (G_block (G_seq (G_region ?_))))
            refine G_val (V_move rfl rfl) rfl rfl (.none rfl) ?_
            refine G_val (V_geq rfl rfl rfl) rfl rfl (.none rfl) ?_
            refine G_val (V_move rfl rfl) rfl rfl (.none rfl) ?_
            refine G.bool_t 31 rfl (decide_eq_true (by omega)) ?_
            refine G_val (V_move rfl rfl) rfl rfl (.yes rfl rfl rfl rfl) ?_
            refine G_val (V_move rfl rfl) rfl rfl (.yes rfl rfl rfl rfl) ?_
            refine G_val (V_lenS rfl rfl) rfl rfl (.yes rfl rfl rfl rfl) ?_
            refine G_val (V_lss rfl rfl rfl) rfl rfl (.yes rfl rfl rfl rfl) ?_
            refine G_val (V_pick_t rfl rfl rfl) rfl rfl (.none rfl) ?_
            refine G_val (V_assign rfl rfl) rfl rfl (.none rfl) ?_
            refine G_end (X_then ?_)
            refine G_cond_f rfl (decide_eq_false (by omega)) ?_
            refine G_seq (G_region ?_)
            refine G_val (V_move rfl rfl) rfl rfl (.none rfl) ?_
            refine G_val (V_geq rfl rfl rfl) rfl rfl (.none rfl) ?_
            refine G_val (V_move rfl rfl) rfl rfl (.none rfl) ?_
            refine G.bool_f 47 rfl (decide_eq_false (by omega)) ?_
            refine G_stay (.no rfl rfl rfl rfl) rfl rfl ?_
            refine G_stay (.no rfl rfl rfl rfl) rfl rfl ?_
            refine G_stay (.no rfl rfl rfl rfl) rfl rfl ?_
            refine G_stay (.no rfl rfl rfl rfl) rfl rfl ?_
            refine G_stay (.no rfl rfl rfl rfl) rfl rfl ?_
            refine G_val (V_pick_f rfl rfl rfl) rfl rfl (.none rfl) ?_
            refine G_val (V_assign rfl rfl) rfl rfl (.none rfl) ?_
            refine G_end (X_then ?_)
            refine G_cond_f rfl rfl ?_
            refine G_seq (G_region ?_)
            refine G_val (V_assign rfl rfl) rfl rfl (.none rfl) ?_
            refine G_val (V_assign rfl rfl) rfl rfl (.none rfl) ?_
            refine G_end (X_then (G_ret (X_block_ret (X_block_ret (X_then_ret (X_then_ret (X_block_ret (X_then_ret ?_))))))))
            refine G_leaveS (.drop _ (.nil _)) (by exact (.cons (.tmp rfl) (.cons (.tmp rfl) (.nil)))) rfl ?_ ?_
            · exact hE4
            exact ⟨(by kernel_rfl), rfl⟩
          · refine G_seq ?_
            refine G_region ?_
            refine G_val (V_lss rfl rfl rfl) rfl rfl (.none rfl) ?_
            refine G_end (X_then (G_seq ?_))
            refine G_cond_t rfl (decide_eq_true (by omega)) ?_
            refine G_skip (X_then (G_seq (G_block (G_seq (G_region ?_)))))
            refine G_val (V_idxAddr rfl rfl rfl (SlE.rd (by assumption)) (by omega) (by omega)) rfl rfl (.none rfl) ?_
            refine G_val (V_loadS rfl rfl (SlE.rd (by assumption)) (by assumption) (by simp)) rfl rfl (.none rfl) ?_
            refine G_val (V_assign rfl rfl) rfl rfl (.none rfl) ?_
            refine G_end (X_then (G_seq (G_region ?_)))
            refine G_val (V_move rfl rfl) rfl rfl (.none rfl) ?_
            refine G_val (V_sub_i64 rfl rfl rfl (by omega) (by omega)) rfl rfl (.none rfl) ?_
            refine G_val (V_assign rfl rfl) rfl rfl (.none rfl) ?_
            refine G_end (X_then (G_block (G_seq (G_region ?_))))
            refine G_val (V_move rfl rfl) rfl rfl (.none rfl) ?_
            refine G_val (V_geq rfl rfl rfl) rfl rfl (.none rfl) ?_
            refine G_val (V_move rfl rfl) rfl rfl (.none rfl) ?_
            apply G_joinAnd 5 31 36 rfl
            · intro H1
              dsimp only [List.take]
              simp only [Bool.and_eq_true, Bool.or_eq_true, Bool.not_eq_true', Bool.not_eq_false', Bool.and_eq_false_iff, Bool.or_eq_false_iff, Bool.not_not, decide_eq_true_eq, decide_eq_false_iff_not, ne_eq, Decidable.not_not, Bool.decide_eq_true] at H1
              refine G_val (V_move rfl rfl) rfl rfl (.yes rfl rfl rfl rfl) ?_
              refine G_val (V_move rfl rfl) rfl rfl (.yes rfl rfl rfl rfl) ?_
              refine G_val (V_lenS rfl rfl) rfl rfl (.yes rfl rfl rfl rfl) ?_
              refine G_val (V_lss rfl rfl rfl) rfl rfl (.yes rfl rfl rfl rfl) ?_
              refine G_val (V_pick_t rfl rfl rfl) rfl rfl (.none rfl) ?_
              refine G_end ?_
              exact JQ_end 5 rfl rfl (by kernel_rfl)
            · intro H2
              dsimp only [List.take]
              simp only [Bool.and_eq_true, Bool.or_eq_true, Bool.not_eq_true', Bool.not_eq_false', Bool.and_eq_false_iff, Bool.or_eq_false_iff, Bool.not_not, decide_eq_true_eq, decide_eq_false_iff_not, ne_eq, Decidable.not_not, Bool.decide_eq_true] at H2
              refine G_stay (.no rfl rfl rfl rfl) rfl rfl ?_
              refine G_stay (.no rfl rfl rfl rfl) rfl rfl ?_
              refine G_stay (.no rfl rfl rfl rfl) rfl rfl ?_
              refine G_stay (.no rfl rfl rfl rfl) rfl rfl ?_
              refine G_val (V_pick_f rfl rfl rfl) rfl rfl (.none rfl) ?_
              refine G_end ?_
              exact JQ_end 5 rfl rfl (by kernel_rfl)
            dsimp only [List.drop]
            refine G_val (V_assign rfl rfl) rfl rfl (.none rfl) ?_
            refine G_end (X_then ?_)
            refine G_cond rfl (fun H3 => ?_) (fun H3 => ?_)
            · simp only [Bool.and_eq_true, Bool.or_eq_true, Bool.not_eq_true', Bool.not_eq_false', Bool.and_eq_false_iff, Bool.or_eq_false_iff, Bool.not_not, decide_eq_true_eq, decide_eq_false_iff_not, ne_eq, Decidable.not_not, Bool.decide_eq_true] at H3
              (exfalso; omega)
            simp only [Bool.and_eq_true, Bool.or_eq_true, Bool.not_eq_true', Bool.not_eq_false', Bool.and_eq_false_iff, Bool.or_eq_false_iff, Bool.not_not, decide_eq_true_eq, decide_eq_false_iff_not, ne_eq, Decidable.not_not, Bool.decide_eq_true] at H3
            refine G_seq (G_region ?_)
            refine G_val (V_move rfl rfl) rfl rfl (.none rfl) ?_
            refine G_val (V_geq rfl rfl rfl) rfl rfl (.none rfl) ?_
            refine G_val (V_move rfl rfl) rfl rfl (.none rfl) ?_
            apply G_joinAnd 6 47 53 rfl
            · intro H4
              dsimp only [List.take]
              simp only [Bool.and_eq_true, Bool.or_eq_true, Bool.not_eq_true', Bool.not_eq_false', Bool.and_eq_false_iff, Bool.or_eq_false_iff, Bool.not_not, decide_eq_true_eq, decide_eq_false_iff_not, ne_eq, Decidable.not_not, Bool.decide_eq_true] at H4
              refine G_val (V_move rfl rfl) rfl rfl (.yes rfl rfl rfl rfl) ?_
              refine G_val (V_fieldAddr rfl rfl (by decide)) rfl rfl (.yes rfl rfl rfl rfl) ?_
              refine G_val (V_load rfl rfl (Cell.own (.head _) rfl)) rfl rfl (.yes rfl rfl rfl rfl) ?_
              refine G_val (V_lenS rfl rfl) rfl rfl (.yes rfl rfl rfl rfl) ?_
              refine G_val (V_lss rfl rfl rfl) rfl rfl (.yes rfl rfl rfl rfl) ?_
              refine G_val (V_pick_t rfl rfl rfl) rfl rfl (.none rfl) ?_
              refine G_end ?_
              exact JQ_end 6 rfl rfl (by kernel_rfl)
            · intro H5
              dsimp only [List.take]
              simp only [Bool.and_eq_true, Bool.or_eq_true, Bool.not_eq_true', Bool.not_eq_false', Bool.and_eq_false_iff, Bool.or_eq_false_iff, Bool.not_not, decide_eq_true_eq, decide_eq_false_iff_not, ne_eq, Decidable.not_not, Bool.decide_eq_true] at H5
              refine G_stay (.no rfl rfl rfl rfl) rfl rfl ?_
              refine G_stay (.no rfl rfl rfl rfl) rfl rfl ?_
              refine G_stay (.no rfl rfl rfl rfl) rfl rfl ?_
              refine G_stay (.no rfl rfl rfl rfl) rfl rfl ?_
              refine G_stay (.no rfl rfl rfl rfl) rfl rfl ?_
              refine G_val (V_pick_f rfl rfl rfl) rfl rfl (.none rfl) ?_
              refine G_end ?_
              exact JQ_end 6 rfl rfl (by kernel_rfl)
            dsimp only [List.drop]
            refine G_val (V_assign rfl rfl) rfl rfl (.none rfl) ?_
            refine G_end (X_then ?_)
            refine G_cond rfl (fun H6 => ?_) (fun H6 => ?_)
            · simp only [Bool.and_eq_true, Bool.or_eq_true, Bool.not_eq_true', Bool.not_eq_false', Bool.and_eq_false_iff, Bool.or_eq_false_iff, Bool.not_not, decide_eq_true_eq, decide_eq_false_iff_not, ne_eq, Decidable.not_not, Bool.decide_eq_true] at H6
              (exfalso; omega)
            simp only [Bool.and_eq_true, Bool.or_eq_true, Bool.not_eq_true', Bool.not_eq_false', Bool.and_eq_false_iff, Bool.or_eq_false_iff, Bool.not_not, decide_eq_true_eq, decide_eq_false_iff_not, ne_eq, Decidable.not_not, Bool.decide_eq_true] at H6
            refine G_seq (G_region ?_)
            refine G_val (V_assign rfl rfl) rfl rfl (.none rfl) ?_
            refine G_val (V_assign rfl rfl) rfl rfl (.none rfl) ?_
            refine G_end (X_then (G_ret (X_block_ret (X_block_ret (X_then_ret (X_then_ret (X_block_ret (X_then_ret ?_))))))))
            refine G_leaveS (.drop _ (.nil _)) (by exact (.cons (.tmp rfl) (.cons (.tmp rfl) (.nil)))) rfl ?_ ?_
            · exact hE4
            exact ⟨(by kernel_rfl), rfl⟩
    · have e3 : emptyM g r = (r.all (goodB false (nullM g)), 0) := by rw [e2, if_neg (by rw [any_none fun k hk => hall k (by omega) hk]; decide)]
      have e4 : r.take i = r := List.take_of_length_le (by omega)
      rw [e3, e4]
      refine G_seq (G_region ?_)
      refine G_val (V_lss rfl rfl rfl) rfl rfl (.none rfl) ?_
      refine G_end (X_then (G_seq ?_))
      refine G_cond_f rfl (decide_eq_false (by omega)) ?_
      refine G_exit (X_then_exit (X_then_exit (X_block_hit (X_then (G_seq (G_region ?_))))))
      refine G_val (V_move rfl rfl) rfl rfl (.none rfl) ?_
      refine G_val (V_assign rfl rfl) rfl rfl (.none rfl) ?_
      refine G_val (V_assign rfl rfl) rfl rfl (.none rfl) ?_
      refine G_end (X_then (G_ret ?_))
      refine G_leaveS (.drop _ (.nil _)) (by exact (.cons (.tmp rfl) (.cons (.tmp rfl) (.nil)))) rfl ?_ ?_
      · exact hE4
      exact ⟨rfl, rfl⟩
  · have e := okL_neg hv (nullM g)
    rw [emptyM, if_neg hv]
    refine G_seq (G_region ?_)
    (refine G_boxA rfl rfl rfl rfl (.none rfl) ?_; intro b2)
    refine G_val (V_assign rfl rfl) rfl rfl (.none rfl) ?_
    refine G_val (V_assign rfl rfl) rfl rfl (.none rfl) ?_
    refine G_end (X_then (G_seq (G_region ?_)))
    refine G_val (V_loadA rfl rfl (Cells.own (.head _)) rfl) rfl rfl (.none rfl) ?_
    refine G_call (k := 38) (.mk rfl rfl rfl rfl) rfl rfl (.none rfl) (Nullable_call _ _ _ _ (by assumption) (by assumption)) ?_
    rintro r1 E2 L3 hE4 ⟨z5, ⟨z6, ⟨rfl, ⟨Z7, rfl⟩⟩⟩⟩
    replace hr := hr.mono hE4
    replace hg0 := hg0.mono hE4
    replace ht := ht.mono hE4
    replace hn := hn.mono hE4
    replace hps := hps.mono hE4
    refine G_val (V_move rfl rfl) rfl rfl (.none rfl) ?_
    refine G_val (V_extract rfl rfl rfl) rfl rfl (.none rfl) ?_
    refine G_val (V_extract rfl rfl rfl) rfl rfl (.none rfl) ?_
    refine G_val (V_assign rfl rfl) rfl rfl (.none rfl) ?_
    refine G_val (V_assign rfl rfl) rfl rfl (.none rfl) ?_
    refine G_end (X_then (G_seq (G_seq (G_region ?_))))
    refine G_val (V_move rfl rfl) rfl rfl (.none rfl) ?_
    refine G_val (V_neq rfl rfl rfl) rfl rfl (.none rfl) ?_
    refine G_end (X_then ?_)
    refine G_cond_t rfl (decide_eq_true (by omega)) ?_
    refine G_seq (G_region ?_)
    refine G_val (V_move rfl rfl) rfl rfl (.none rfl) ?_
    refine G_val (V_assign rfl rfl) rfl rfl (.none rfl) ?_
    refine G_val (V_assign rfl rfl) rfl rfl (.none rfl) ?_
    refine G_end (X_then (G_ret (X_then_ret ?_)))
    refine G_leaveS (.drop _ (.nil _)) (by exact (.cons (.tmp rfl) (.cons (.tmp rfl) (.nil)))) rfl ?_ ?_
    · exact hE4
    exact ⟨rfl, rfl⟩
end
end Go.Proofs.Ytaoinojdijbhaaa
set_option linter.unusedSimpArgs false
set_option linter.unusedVariables false
set_option maxHeartbeats 2000000
set_option maxRecDepth 20000
namespace Go.Proofs.Ytaoinojdijbhaaa
open Go.RowKit
theorem bools_nB {E : Env} {p : Option Addr} {n : Nat} {l : List Bool} (h : SlE E 1 p n (bools l)) : n = l.length := by have := h.1; simp [bools] at this; exact this.symm
def unB : List Value → Option (List Bool)
  | [] => some []
  | .bool b :: l => (unB l).map (b :: ·)
  | _ :: _ => none
theorem unB_eq : ∀ (l : List Value) (xs : List Bool), unB l = some xs → l = bools xs := by
  intro l
  induction l with
  | nil => intro xs h; rw [← Option.some.inj h]; rfl
  | cons v l ih =>
    intro xs h
    cases v with
    | bool b =>
      obtain ⟨ys, h1, rfl⟩ := Option.map_eq_some_iff.1 h
      rw [ih ys h1]; rfl
    | _ => cases h
theorem SlE.toB {E : Env} {sz : Nat} {a : Option Addr} {n : Nat} {l : List Value} {xs : List Bool} (h : SlE E sz a n l) (e : unB l = some xs) : SlE E sz a n (bools xs) := by rw [← unB_eq l xs e]; exact h
def shownG (ps : List Pr) : Gr := ⟨1, [[97], [98]], [115], [[65], [66], [67]], 16, ps⟩
abbrev firstG : Gr := shownG [(16, [0, 17]), (17, [1]), (17, []), (18, [18, 0])]
abbrev secondG : Gr := shownG [(16, [17, 17]), (17, [18, 18]), (17, [0]), (18, [])]
abbrev thirdG : Gr := shownG [(16, [0]), (17, [1]), (18, [16])]
section
variable (E : Env) (L : List Res)
theorem same_call (p q : Option Addr) (n m c d : Nat) (xs ys : List Bool) (hx : SlE E 1 p n (bools xs)) (hy : SlE E 1 q m (bools ys)) (hn : n ≤ 9223372036854775806) (hm : m ≤ 9223372036854775806) :
    CallV Try.prog 35 #[.slice p n c, .slice q m d] E L (.bool (decide (xs = ys))) := by
  have e1 := bools_nB hx
  have e2 := bools_nB hy
  subst e1 e2
  refine CallS.toV (CallS.intro (l := [_, _]) _ Try.func35 rfl Try.ntmps35 rfl ?_)
  by_cases hlen : xs.length ≠ ys.length
  · have hne : xs ≠ ys := fun h => hlen (congrArg List.length h)
    refine G_seq (G_region ?_)
    refine G_val (V_assign rfl rfl) rfl rfl (.none rfl) ?_
    refine G_end (X_then (G_seq (G_seq (G_region ?_))))
    refine G_val (V_move rfl rfl) rfl rfl (.none rfl) ?_
    refine G_val (V_lenS rfl rfl) rfl rfl (.none rfl) ?_
    refine G_val (V_move rfl rfl) rfl rfl (.none rfl) ?_
    refine G_val (V_lenS rfl rfl) rfl rfl (.none rfl) ?_
    refine G_val (V_neq rfl rfl rfl) rfl rfl (.none rfl) ?_
    refine G_end (X_then ?_)
    refine G_cond_t rfl (decide_eq_true (by omega)) ?_
    refine G_seq (G_region ?_)
    refine G_val (V_assign rfl rfl) rfl rfl (.none rfl) ?_
    refine G_end (X_then (G_ret (X_then_ret ?_)))
    refine G_leaveS (.nil _) (by exact (.cons (.tmp rfl) (.nil))) rfl ?_ ?_
    · exact (.refl _)
    exact ⟨(by (simp [resVal, *]; done)), (by rfl)⟩
  refine G_seq (G_region ?_)
  refine G_val (V_assign rfl rfl) rfl rfl (.none rfl) ?_
  refine G_end (X_then (G_seq (G_seq (G_region ?_))))
  refine G_val (V_move rfl rfl) rfl rfl (.none rfl) ?_
  refine G_val (V_lenS rfl rfl) rfl rfl (.none rfl) ?_
  refine G_val (V_move rfl rfl) rfl rfl (.none rfl) ?_
  refine G_val (V_lenS rfl rfl) rfl rfl (.none rfl) ?_
  refine G_val (V_neq rfl rfl rfl) rfl rfl (.none rfl) ?_
  refine G_end (X_then ?_)
  refine G_cond_f rfl (decide_eq_false (by omega)) ?_
  refine G_skip (X_then (G_seq (G_seq (G_region ?_))))
  refine G_val (V_assign rfl rfl) rfl rfl (.none rfl) ?_
  refine G_end (X_then (G_block ?_))
  refine G_loop (α := Nat) (fun k => [(0, .slice p xs.length c), (1, .slice q ys.length d), (5, .int .i64 k)]) (fun _ => E) (fun _ => L)
    (fun k => k ≤ xs.length ∧ xs.take k = ys.take k) (fun k => xs.length - k) 0 ⟨Nat.zero_le _, by simp⟩ ⟨rfl, rfl, rfl, trivial⟩ rfl rfl ?_
  rintro k ⟨hk, hall⟩
  by_cases hlt : k < xs.length
  · have hlt' : k < ys.length := by omega
    have h1 := bools_at hlt
    have h2 := bools_at hlt'
    by_cases he : xs[k] = ys[k]
    · refine G_seq ?_
      refine G_seq (G_region ?_)
      refine G_val (V_move rfl rfl) rfl rfl (.none rfl) ?_
      refine G_val (V_move rfl rfl) rfl rfl (.none rfl) ?_
      refine G_val (V_lenS rfl rfl) rfl rfl (.none rfl) ?_
      refine G_val (V_lss rfl rfl rfl) rfl rfl (.none rfl) ?_
      refine G_end (X_then ?_)
      refine G_cond_t rfl (decide_eq_true (by omega)) ?_
      refine G_skip (X_then (G_seq (G_block (G_seq ?_))))
      refine G_draw mixed (by kernel_rfl) ?_
      refine Q_val (V_move rfl rfl) rfl rfl (.none rfl) ?_
      refine Q_val (V_move rfl rfl) rfl rfl (.none rfl) ?_
      refine Q_val (V_idxAddr rfl rfl rfl (SlE.rd (by assumption)) (by omega) (by omega)) rfl rfl (.none rfl) ?_
      refine Q_val (V_loadS rfl rfl (SlE.rd (by assumption)) (by assumption) (by simp)) rfl rfl (.none rfl) ?_
      refine Q_val (V_move rfl rfl) rfl rfl (.none rfl) ?_
      refine Q_val (V_move rfl rfl) rfl rfl (.none rfl) ?_
      refine Q_val (V_idxAddr rfl rfl rfl (SlE.rd (by assumption)) (by omega) (by omega)) rfl rfl (.none rfl) ?_
      refine Q_val (V_loadS rfl rfl (SlE.rd (by assumption)) (by assumption) (by simp)) rfl rfl (.none rfl) ?_
      refine Q_val (V_bneq rfl rfl rfl) rfl rfl (.none rfl) ?_
      refine Q_end ?_
      refine X_then ?_
      refine G_cond_f rfl (by simp [*]; done) ?_
      refine G_skip (X_block (X_then (G_region ?_)))
      refine G_val (V_move rfl rfl) rfl rfl (.none rfl) ?_
      refine G_val (V_add_i64 rfl rfl rfl (by omega) (by omega)) rfl rfl (.none rfl) ?_
      refine G_val (V_assign rfl rfl) rfl rfl (.none rfl) ?_
      refine G_end (X_then ?_)
      exact G_again (k + 1) ⟨hlt, take_next hall hlt hlt' he⟩ (by omega) ⟨rfl, rfl, rfl, trivial⟩ rfl rfl
    · have hne : xs ≠ ys := fun h => he (by subst h; rfl)
      refine G_seq (G_seq (G_region ?_))
      refine G_val (V_move rfl rfl) rfl rfl (.none rfl) ?_
      refine G_val (V_move rfl rfl) rfl rfl (.none rfl) ?_
      refine G_val (V_lenS rfl rfl) rfl rfl (.none rfl) ?_
      refine G_val (V_lss rfl rfl rfl) rfl rfl (.none rfl) ?_
      refine G_end (X_then ?_)
      refine G_cond_t rfl (decide_eq_true (by omega)) ?_
      refine G_skip (X_then (G_seq (G_block (G_seq ?_))))
      refine G_draw mixed (by kernel_rfl) ?_
      refine Q_val (V_move rfl rfl) rfl rfl (.none rfl) ?_
      refine Q_val (V_move rfl rfl) rfl rfl (.none rfl) ?_
      refine Q_val (V_idxAddr rfl rfl rfl (SlE.rd (by assumption)) (by omega) (by omega)) rfl rfl (.none rfl) ?_
      refine Q_val (V_loadS rfl rfl (SlE.rd (by assumption)) (by assumption) (by simp)) rfl rfl (.none rfl) ?_
      refine Q_val (V_move rfl rfl) rfl rfl (.none rfl) ?_
      refine Q_val (V_move rfl rfl) rfl rfl (.none rfl) ?_
      refine Q_val (V_idxAddr rfl rfl rfl (SlE.rd (by assumption)) (by omega) (by omega)) rfl rfl (.none rfl) ?_
      refine Q_val (V_loadS rfl rfl (SlE.rd (by assumption)) (by assumption) (by simp)) rfl rfl (.none rfl) ?_
      refine Q_val (V_bneq rfl rfl rfl) rfl rfl (.none rfl) ?_
      refine Q_end ?_
      refine X_then ?_
      refine G_cond_t rfl (decide_eq_true (by omega)) ?_
      refine G_seq (G_region ?_)
      refine G_val (V_assign rfl rfl) rfl rfl (.none rfl) ?_
      refine G_end (X_then (G_ret (X_block_ret (X_then_ret (X_then_ret (X_block_ret (X_then_ret ?_)))))))
      refine G_leaveS (.nil _) (by exact (.cons (.tmp rfl) (.nil))) rfl ?_ ?_
      · exact (.refl _)
      exact ⟨(by (simp [resVal, *]; done)), (by rfl)⟩
  · have heq : xs = ys := by rw [List.take_of_length_le (by omega), List.take_of_length_le (by omega)] at hall; exact hall
    refine G_seq (G_seq (G_region ?_))
    refine G_val (V_move rfl rfl) rfl rfl (.none rfl) ?_
    refine G_val (V_move rfl rfl) rfl rfl (.none rfl) ?_
    refine G_val (V_lenS rfl rfl) rfl rfl (.none rfl) ?_
    refine G_val (V_lss rfl rfl rfl) rfl rfl (.none rfl) ?_
    refine G_end (X_then ?_)
    refine G_cond_f rfl (decide_eq_false (by omega)) ?_
    refine G_exit (X_then_exit (X_then_exit (X_block_hit (X_then (G_seq (G_region ?_))))))
    refine G_val (V_assign rfl rfl) rfl rfl (.none rfl) ?_
    refine G_end (X_then (G_ret ?_))
    refine G_leaveS (.nil _) (by exact (.cons (.tmp rfl) (.nil))) rfl ?_ ?_
    · exact (.refl _)
    exact ⟨(by (simp [resVal, *]; done)), (by rfl)⟩
theorem p_call (l : Int) (a : Option Addr) (n c : Nat) : CallV Try.prog 90 #[.int .i64 l, .slice a n c] E L (.agg #[.int .i64 l, .slice a n c]) := by
  refine CallS.toV (CallS.intro (l := [_, _]) _ Try.func90 rfl Try.ntmps90 rfl ?_)
  refine G_seq (G_region ?_)
  (refine G_alloc rfl rfl rfl (.none rfl) ?_; intro b4)
  refine G_end (X_then (G_seq (G_region ?_)))
  refine G_val (V_move rfl rfl) rfl rfl (.none rfl) ?_
  refine G_val (V_move rfl rfl) rfl rfl (.none rfl) ?_
  refine G_val (V_build rfl rfl (by simp [fillV, setLs, setL, Value.cells]; rfl)) rfl rfl (.none rfl) ?_
  refine G_storeA rfl rfl rfl rfl (by simp [Value.oneCell']) rfl (.none rfl) (.head _ _ _) rfl ?_
  refine G_end (X_then (G_ret ?_))
  refine G_leaveS (.drop _ (.nil _)) (by exact (.cons (.cellA rfl (Cells.own (.head _)) rfl) (.nil))) rfl ?_ ?_
  · exact (.refl _)
  exact ⟨rfl, rfl⟩
theorem shown_own (pp : Option Addr) (n pc : Nat) : CallS Try.prog 89 #[.slice pp n pc] E L (fun r E' L' => ∃ b3 b4, r = .agg #[.int .i64 1, .slice (some ⟨b3, 0, none⟩) 2 2, .string (S [115]), .slice (some ⟨b4, 0, none⟩) 3 3, .int .i64 16, .slice pp n pc] ∧ E = E' ∧
    L' = .blk b4 (.cells #[.string (S [65]), .string (S [66]), .string (S [67])] 9 (0, 0)) :: .blk b3 (.cells #[.string (S [97]), .string (S [98])] 9 (0, 0)) :: L) := by
  refine CallS.intro (l := [_]) _ Try.func89 rfl Try.ntmps89 rfl ?_
  refine G_seq (G_region ?_)
  (refine G_alloc rfl rfl rfl (.none rfl) ?_; intro b2)
  refine G_end (X_then (G_seq (G_region ?_)))
  (refine G_lit2 rfl rfl rfl rfl rfl rfl rfl (.none rfl) ?_; intro b3)
  (refine G_lit rfl rfl (by decide) (by simp [fillS, zeros, setLs, setL, Value.cells, List.range, List.range.loop]; rfl) rfl rfl (.none rfl) ?_; intro b4)
  refine G_val (V_move rfl rfl) rfl rfl (.none rfl) ?_
  refine G_val (V_build rfl rfl (by simp [fillV, setLs, setL, Value.cells]; rfl)) rfl rfl (.none rfl) ?_
  refine G_storeA rfl rfl rfl rfl (by simp [Value.oneCell']) rfl (.none rfl) (.tail _ (.tail _ (.head _ _ _))) rfl ?_
  refine G_end (X_then (G_ret ?_))
  refine G_leaveS (.keep _ (.keep _ (.drop _ (.nil _)))) (by exact (.cons (.cellA rfl (Cells.own (.tail _ (.tail _ (.head _)))) rfl) (.nil))) rfl ?_ ?_
  · exact (.refl _)
  exact ⟨_, ⟨_, ⟨rfl, ⟨rfl, rfl⟩⟩⟩⟩
theorem shown_own' (pp : Option Addr) (n pc : Nat) (ps : List Pr) (h : PsE E pp n ps) (hc : n ≤ pc) : CallS Try.prog 89 #[.slice pp n pc] E L (fun r E' L' => GrE E' r (shownG ps) ∧ L' = L) :=
  fun w hw => (shown_own E L pp n pc w hw).mono fun _ _ ⟨r, E', L', he, hE, hs, b3, b4, hr, _, hL⟩ => by
    subst hL hr
    obtain ⟨E2, hE2, hs2, hok2⟩ := hs.freeze
    obtain ⟨E3, hE3, hs3, hok3⟩ := hs2.freeze
    have e1 := h.len
    subst e1
    refine ⟨_, E3, L, he, (hE.trans hE2).trans hE3, hs3, ?_, rfl⟩
    exact GrE.mk (g := shownG ps) (SlE.lit (l := strs [[97], [98]]) hok3 rfl) ((SlE.lit (l := strs [[65], [66], [67]]) hok2 rfl).mono hE3) (h.mono ((hE.trans hE2).trans hE3)) (Nat.le_refl _) (Nat.le_refl _) hc
theorem first_call : CallS Try.prog 50 #[] E L (fun r E' L' => GrE E' r firstG ∧ L' = L) := by
  refine CallS.intro (l := []) _ Try.func50 rfl Try.ntmps50 rfl ?_
  refine G_seq (G_region ?_)
  (refine G_alloc rfl rfl rfl (.none rfl) ?_; intro b0)
  refine G_end (X_then (G_seq (G_region ?_)))
  (refine G_litZ rfl rfl (by decide) (by simp [fillS, zeros, setLs, setL, Value.cells, List.range, List.range.loop]; rfl) (by rfl) rfl rfl (.none rfl) ?_; intro b1 E1 hE1 hs1)
  refine G_callv (k := 90) (.mk rfl rfl rfl rfl) rfl rfl (.none rfl) (p_call _ _ _ _ _ _) ?_
  (refine G_litZ rfl rfl (by decide) (by simp [fillS, zeros, setLs, setL, Value.cells, List.range, List.range.loop]; rfl) (by rfl) rfl rfl (.none rfl) ?_; intro b3 E3 hE3 hs3)
  replace hs1 := hs1.mono hE3
  refine G_callv (k := 90) (.mk rfl rfl rfl rfl) rfl rfl (.none rfl) (p_call _ _ _ _ _ _) ?_
  refine G_callv (k := 90) (.mk rfl rfl rfl rfl) rfl rfl (.none rfl) (p_call _ _ _ _ _ _) ?_
  (refine G_litZ rfl rfl (by decide) (by simp [fillS, zeros, setLs, setL, Value.cells, List.range, List.range.loop]; rfl) (by rfl) rfl rfl (.none rfl) ?_; intro b6 E6 hE6 hs6)
  replace hs3 := hs3.mono hE6
  replace hs1 := hs1.mono hE6
  refine G_callv (k := 90) (.mk rfl rfl rfl rfl) rfl rfl (.none rfl) (p_call _ _ _ _ _ _) ?_
  (refine G_litZ rfl rfl (by decide) (by simp [fillS, zeros, setLs, setL, Value.cells, List.range, List.range.loop]; rfl) (by rfl) rfl rfl (.none rfl) ?_; intro b8 E8 hE8 hs8)
  replace hs6 := hs6.mono hE8
  replace hs3 := hs3.mono hE8
  replace hs1 := hs1.mono hE8
  have hps : PsE E8 (some ⟨b8, 0, none⟩) 4 [(16, [0, 17]), (17, [1]), (17, []), (18, [18, 0])] := by
    refine ⟨[(some ⟨b1, 0, none⟩, 2, (16, [0, 17])), (some ⟨b3, 0, none⟩, 1, (17, [1])), (none, 0, (17, [])), (some ⟨b6, 0, none⟩, 2, (18, [18, 0]))], rfl, hs8, fun r hr => ?_⟩
    simp only [List.mem_cons, List.not_mem_nil, or_false] at hr
    rcases hr with rfl | rfl | rfl | rfl <;> first | assumption | exact SlE.nil
  refine G_call (k := 89) (.mk rfl rfl rfl rfl) rfl rfl (.none rfl) (shown_own' _ _ _ _ _ _ (by assumption) (by omega)) ?_
  rintro r1 E2 L3 hE4 ⟨Z5, rfl⟩
  replace hs8 := hs8.mono hE4
  replace hs6 := hs6.mono hE4
  replace hs3 := hs3.mono hE4
  replace hs1 := hs1.mono hE4
  replace hps := hps.mono hE4
  have hgr : GrE E2 r1 firstG := by assumption
  have hg0 := hgr
  obtain ⟨tp, tc, np, nc, pp, pc, rfl, _⟩ := hgr
  refine G_storeA rfl rfl rfl rfl (by simp [Value.oneCell']) rfl (.none rfl) (.head _ _ _) rfl ?_
  refine G_end (X_then (G_ret ?_))
  refine G_leaveS (.drop _ (.nil _)) (by exact (.cons (.cellA rfl (Cells.own (.head _)) rfl) (.nil))) rfl ?_ ?_
  · exact ((((hE1.trans hE3).trans hE6).trans hE8).trans hE4)
  exact ⟨(by assumption), rfl⟩
theorem second_call : CallS Try.prog 51 #[] E L (fun r E' L' => GrE E' r secondG ∧ L' = L) := by
  refine CallS.intro (l := []) _ Try.func51 rfl Try.ntmps51 rfl ?_
  refine G_seq (G_region ?_)
  (refine G_alloc rfl rfl rfl (.none rfl) ?_; intro b0)
  refine G_end (X_then (G_seq (G_region ?_)))
  (refine G_litZ rfl rfl (by decide) (by simp [fillS, zeros, setLs, setL, Value.cells, List.range, List.range.loop]; rfl) (by rfl) rfl rfl (.none rfl) ?_; intro b1 E1 hE1 hs1)
  refine G_callv (k := 90) (.mk rfl rfl rfl rfl) rfl rfl (.none rfl) (p_call _ _ _ _ _ _) ?_
  (refine G_litZ rfl rfl (by decide) (by simp [fillS, zeros, setLs, setL, Value.cells, List.range, List.range.loop]; rfl) (by rfl) rfl rfl (.none rfl) ?_; intro b3 E3 hE3 hs3)
  replace hs1 := hs1.mono hE3
  refine G_callv (k := 90) (.mk rfl rfl rfl rfl) rfl rfl (.none rfl) (p_call _ _ _ _ _ _) ?_
  (refine G_litZ rfl rfl (by decide) (by simp [fillS, zeros, setLs, setL, Value.cells, List.range, List.range.loop]; rfl) (by rfl) rfl rfl (.none rfl) ?_; intro b5 E5 hE5 hs5)
  replace hs3 := hs3.mono hE5
  replace hs1 := hs1.mono hE5
  refine G_callv (k := 90) (.mk rfl rfl rfl rfl) rfl rfl (.none rfl) (p_call _ _ _ _ _ _) ?_
  refine G_callv (k := 90) (.mk rfl rfl rfl rfl) rfl rfl (.none rfl) (p_call _ _ _ _ _ _) ?_
  (refine G_litZ rfl rfl (by decide) (by simp [fillS, zeros, setLs, setL, Value.cells, List.range, List.range.loop]; rfl) (by rfl) rfl rfl (.none rfl) ?_; intro b8 E8 hE8 hs8)
  replace hs5 := hs5.mono hE8
  replace hs3 := hs3.mono hE8
  replace hs1 := hs1.mono hE8
  have hps : PsE E8 (some ⟨b8, 0, none⟩) 4 [(16, [17, 17]), (17, [18, 18]), (17, [0]), (18, [])] := by
    refine ⟨[(some ⟨b1, 0, none⟩, 2, (16, [17, 17])), (some ⟨b3, 0, none⟩, 2, (17, [18, 18])), (some ⟨b5, 0, none⟩, 1, (17, [0])), (none, 0, (18, []))], rfl, hs8, fun r hr => ?_⟩
    simp only [List.mem_cons, List.not_mem_nil, or_false] at hr
    rcases hr with rfl | rfl | rfl | rfl <;> first | assumption | exact SlE.nil
  refine G_call (k := 89) (.mk rfl rfl rfl rfl) rfl rfl (.none rfl) (shown_own' _ _ _ _ _ _ (by assumption) (by omega)) ?_
  rintro r1 E2 L3 hE4 ⟨Z5, rfl⟩
  replace hs8 := hs8.mono hE4
  replace hs5 := hs5.mono hE4
  replace hs3 := hs3.mono hE4
  replace hs1 := hs1.mono hE4
  replace hps := hps.mono hE4
  have hgr : GrE E2 r1 secondG := by assumption
  have hg0 := hgr
  obtain ⟨tp, tc, np, nc, pp, pc, rfl, _⟩ := hgr
  refine G_storeA rfl rfl rfl rfl (by simp [Value.oneCell']) rfl (.none rfl) (.head _ _ _) rfl ?_
  refine G_end (X_then (G_ret ?_))
  refine G_leaveS (.drop _ (.nil _)) (by exact (.cons (.cellA rfl (Cells.own (.head _)) rfl) (.nil))) rfl ?_ ?_
  · exact ((((hE1.trans hE3).trans hE5).trans hE8).trans hE4)
  exact ⟨(by assumption), rfl⟩
theorem third_call : CallS Try.prog 52 #[] E L (fun r E' L' => GrE E' r thirdG ∧ L' = L) := by
  refine CallS.intro (l := []) _ Try.func52 rfl Try.ntmps52 rfl ?_
  refine G_seq (G_region ?_)
  (refine G_alloc rfl rfl rfl (.none rfl) ?_; intro b0)
  refine G_end (X_then (G_seq (G_region ?_)))
  (refine G_litZ rfl rfl (by decide) (by simp [fillS, zeros, setLs, setL, Value.cells, List.range, List.range.loop]; rfl) (by rfl) rfl rfl (.none rfl) ?_; intro b1 E1 hE1 hs1)
  refine G_callv (k := 90) (.mk rfl rfl rfl rfl) rfl rfl (.none rfl) (p_call _ _ _ _ _ _) ?_
  (refine G_litZ rfl rfl (by decide) (by simp [fillS, zeros, setLs, setL, Value.cells, List.range, List.range.loop]; rfl) (by rfl) rfl rfl (.none rfl) ?_; intro b3 E3 hE3 hs3)
  replace hs1 := hs1.mono hE3
  refine G_callv (k := 90) (.mk rfl rfl rfl rfl) rfl rfl (.none rfl) (p_call _ _ _ _ _ _) ?_
  (refine G_litZ rfl rfl (by decide) (by simp [fillS, zeros, setLs, setL, Value.cells, List.range, List.range.loop]; rfl) (by rfl) rfl rfl (.none rfl) ?_; intro b5 E5 hE5 hs5)
  replace hs3 := hs3.mono hE5
  replace hs1 := hs1.mono hE5
  refine G_callv (k := 90) (.mk rfl rfl rfl rfl) rfl rfl (.none rfl) (p_call _ _ _ _ _ _) ?_
  (refine G_litZ rfl rfl (by decide) (by simp [fillS, zeros, setLs, setL, Value.cells, List.range, List.range.loop]; rfl) (by rfl) rfl rfl (.none rfl) ?_; intro b7 E7 hE7 hs7)
  replace hs5 := hs5.mono hE7
  replace hs3 := hs3.mono hE7
  replace hs1 := hs1.mono hE7
  have hps : PsE E7 (some ⟨b7, 0, none⟩) 3 [(16, [0]), (17, [1]), (18, [16])] := by
    refine ⟨[(some ⟨b1, 0, none⟩, 1, (16, [0])), (some ⟨b3, 0, none⟩, 1, (17, [1])), (some ⟨b5, 0, none⟩, 1, (18, [16]))], rfl, hs7, fun r hr => ?_⟩
    simp only [List.mem_cons, List.not_mem_nil, or_false] at hr
    rcases hr with rfl | rfl | rfl <;> first | assumption | exact SlE.nil
  refine G_call (k := 89) (.mk rfl rfl rfl rfl) rfl rfl (.none rfl) (shown_own' _ _ _ _ _ _ (by assumption) (by omega)) ?_
  rintro r1 E2 L3 hE4 ⟨Z5, rfl⟩
  replace hs7 := hs7.mono hE4
  replace hs5 := hs5.mono hE4
  replace hs3 := hs3.mono hE4
  replace hs1 := hs1.mono hE4
  replace hps := hps.mono hE4
  have hgr : GrE E2 r1 thirdG := by assumption
  have hg0 := hgr
  obtain ⟨tp, tc, np, nc, pp, pc, rfl, _⟩ := hgr
  refine G_storeA rfl rfl rfl rfl (by simp [Value.oneCell']) rfl (.none rfl) (.head _ _ _) rfl ?_
  refine G_end (X_then (G_ret ?_))
  refine G_leaveS (.drop _ (.nil _)) (by exact (.cons (.cellA rfl (Cells.own (.head _)) rfl) (.nil))) rfl ?_ ?_
  · exact ((((hE1.trans hE3).trans hE5).trans hE7).trans hE4)
  exact ⟨(by assumption), rfl⟩
end
end Go.Proofs.Ytaoinojdijbhaaa
set_option linter.unusedSimpArgs false
set_option linter.unusedVariables false
set_option maxHeartbeats 2000000
set_option maxRecDepth 20000
namespace Go.Proofs.Ytaoinojdijbhaaa
open Go.RowKit
theorem firstL : Light firstG := lightB_iff.1 (by decide)
theorem secondL : Light secondG := lightB_iff.1 (by decide)
theorem thirdL : Light thirdG := lightB_iff.1 (by decide)
theorem firstC : gcheck firstG = 0 := by kernel_rfl
theorem secondC : gcheck secondG = 0 := by kernel_rfl
theorem thirdC : gcheck thirdG = 0 := by kernel_rfl
theorem first_yields : yieldsM firstG = [true, true, false] := by kernel_rfl
theorem second_trees : treesM secondG = [7, 3, 1] := by kernel_rfl
theorem third_red : redM thirdG = (1, 15) := by kernel_rfl
section
variable (E : Env) (L : List Res)
theorem awake_call : CallV Try.prog 31 #[] E L (.bool true) := by
  refine CallS.toV (CallS.intro (l := []) _ Try.func31 rfl Try.ntmps31 rfl ?_)
  have l1 := firstL
  have l2 := secondL
  have l3 := thirdL
  have c1 := firstC
  have c2 := secondC
  have c3 := thirdC
  have e1 : okL firstG (yieldsM firstG) = [true, true, false] := by rw [okL_pos c1, first_yields]
  have e2 : okL secondG (treesM secondG) = [7, 3, 1] := by rw [okL_pos c2, second_trees]
  have e3 := third_red
  have e31 : (redM thirdG).1 = 1 := by rw [e3]
  have e32 : (redM thirdG).2 = 15 := by rw [e3]
  have n1 : (okL firstG (yieldsM firstG)).length = 3 := by rw [e1]; rfl
  have n2 : (okL secondG (treesM secondG)).length = 3 := by rw [e2]; rfl
  refine G_seq (G_region ?_)
  refine G_val (V_assign rfl rfl) rfl rfl (.none rfl) ?_
  refine G_end (X_then (G_seq (G_region ?_)))
  refine G_call (k := 50) (.mk rfl rfl rfl rfl) rfl rfl (.none rfl) (first_call _ _) ?_
  rintro r1 E2 L3 hE4 ⟨Z5, rfl⟩
  refine G_call (k := 33) (.mk rfl rfl rfl rfl) rfl rfl (.none rfl) (Yields_call _ _ _ _ (by assumption) (by assumption)) ?_
  rintro r6 E7 L8 hE9 ⟨z10, ⟨z11, ⟨rfl, ⟨Z12, rfl⟩⟩⟩⟩
  replace Z5 := Z5.mono hE9
  refine G_val (V_move rfl rfl) rfl rfl (.none rfl) ?_
  refine G_val (V_extract rfl rfl rfl) rfl rfl (.none rfl) ?_
  refine G_val (V_extract rfl rfl rfl) rfl rfl (.none rfl) ?_
  refine G_val (V_assign rfl rfl) rfl rfl (.none rfl) ?_
  refine G_val (V_assign rfl rfl) rfl rfl (.none rfl) ?_
  refine G_end (X_then (G_seq (G_region ?_)))
  refine G_call (k := 51) (.mk rfl rfl rfl rfl) rfl rfl (.none rfl) (second_call _ _) ?_
  rintro r13 E14 L15 hE16 ⟨Z17, rfl⟩
  replace Z12 := Z12.mono hE16
  replace Z5 := Z5.mono hE16
  refine G_call (k := 42) (.mk rfl rfl rfl rfl) rfl rfl (.none rfl) (Trees_call _ _ _ _ (by assumption) (by assumption)) ?_
  rintro r18 E19 L20 hE21 ⟨z22, ⟨z23, ⟨rfl, ⟨Z24, rfl⟩⟩⟩⟩
  replace Z17 := Z17.mono hE21
  replace Z12 := Z12.mono hE21
  replace Z5 := Z5.mono hE21
  refine G_val (V_move rfl rfl) rfl rfl (.none rfl) ?_
  refine G_val (V_extract rfl rfl rfl) rfl rfl (.none rfl) ?_
  refine G_val (V_extract rfl rfl rfl) rfl rfl (.none rfl) ?_
  refine G_val (V_assign rfl rfl) rfl rfl (.none rfl) ?_
  refine G_val (V_assign rfl rfl) rfl rfl (.none rfl) ?_
  refine G_end (X_then (G_seq (G_region ?_)))
  refine G_call (k := 52) (.mk rfl rfl rfl rfl) rfl rfl (.none rfl) (third_call _ _) ?_
  rintro r25 E26 L27 hE28 ⟨Z29, rfl⟩
  replace Z24 := Z24.mono hE28
  replace Z17 := Z17.mono hE28
  replace Z12 := Z12.mono hE28
  replace Z5 := Z5.mono hE28
  refine G_callv (k := 44) (.mk rfl rfl rfl rfl) rfl rfl (.none rfl) (Reduced_call _ _ _ _ (by assumption) (by assumption)) ?_
  refine G_val (V_move rfl rfl) rfl rfl (.none rfl) ?_
  refine G_val (V_extract rfl rfl rfl) rfl rfl (.none rfl) ?_
  refine G_val (V_extract rfl rfl rfl) rfl rfl (.none rfl) ?_
  refine G_val (V_assign rfl rfl) rfl rfl (.none rfl) ?_
  refine G_val (V_assign rfl rfl) rfl rfl (.none rfl) ?_
  refine G_end (X_then (G_seq (G_region ?_)))
  refine G_val (V_move rfl rfl) rfl rfl (.none rfl) ?_
  refine G_val (V_eql rfl rfl rfl) rfl rfl (.none rfl) ?_
  refine G_val (V_move rfl rfl) rfl rfl (.none rfl) ?_
  refine G.bool_t 24 rfl (by kernel_rfl) ?_
  refine G_val (V_move rfl rfl) rfl rfl (.yes rfl rfl rfl rfl) ?_
  (refine G_litZ rfl rfl (by decide) (by simp [fillS, zeros, setLs, setL, Value.cells, List.range, List.range.loop]; rfl) (by rfl) rfl rfl (.yes rfl rfl rfl rfl) ?_; intro b26 E26 hE26 hs26)
  replace Z29 := Z29.mono hE26
  replace Z24 := Z24.mono hE26
  replace Z17 := Z17.mono hE26
  replace Z12 := Z12.mono hE26
  replace Z5 := Z5.mono hE26
  refine G_callv (k := 35) (.mk rfl rfl rfl rfl) rfl rfl (.yes rfl rfl rfl rfl) (same_call _ _ _ _ _ _ _ _ _ _ (by assumption) (by exact SlE.toB (by assumption) rfl) (by omega) (by omega)) ?_
  refine G_val (V_pick_t rfl rfl rfl) rfl rfl (.none rfl) ?_
  refine G_val (V_move rfl rfl) rfl rfl (.none rfl) ?_
  refine G.bool_t 29 rfl (by kernel_rfl) ?_
  refine G_val (V_move rfl rfl) rfl rfl (.yes rfl rfl rfl rfl) ?_
  refine G_val (V_eql rfl rfl rfl) rfl rfl (.yes rfl rfl rfl rfl) ?_
  refine G_val (V_pick_t rfl rfl rfl) rfl rfl (.none rfl) ?_
  refine G_val (V_move rfl rfl) rfl rfl (.none rfl) ?_
  refine G.bool_t 33 rfl (by kernel_rfl) ?_
  refine G_val (V_move rfl rfl) rfl rfl (.yes rfl rfl rfl rfl) ?_
  (refine G_litZ rfl rfl (by decide) (by simp [fillS, zeros, setLs, setL, Value.cells, List.range, List.range.loop]; rfl) (by rfl) rfl rfl (.yes rfl rfl rfl rfl) ?_; intro b35 E35 hE35 hs35)
  replace hs26 := hs26.mono hE35
  replace Z29 := Z29.mono hE35
  replace Z24 := Z24.mono hE35
  replace Z17 := Z17.mono hE35
  replace Z12 := Z12.mono hE35
  replace Z5 := Z5.mono hE35
  refine G_callv (k := 27) (.mk rfl rfl rfl rfl) rfl rfl (.yes rfl rfl rfl rfl) (SameInts_call' _ _ _ _ _ _ _ _ _ _ (by assumption) (by exact SlE.toI (by assumption) rfl) (by omega) (by omega)) ?_
  refine G_val (V_pick_t rfl rfl rfl) rfl rfl (.none rfl) ?_
  refine G_val (V_move rfl rfl) rfl rfl (.none rfl) ?_
  refine G.bool_t 38 rfl (by kernel_rfl) ?_
  refine G_val (V_move rfl rfl) rfl rfl (.yes rfl rfl rfl rfl) ?_
  refine G_val (V_eql rfl rfl rfl) rfl rfl (.yes rfl rfl rfl rfl) ?_
  refine G_val (V_pick_t rfl rfl rfl) rfl rfl (.none rfl) ?_
  refine G_val (V_move rfl rfl) rfl rfl (.none rfl) ?_
  refine G.bool_t 42 rfl (by kernel_rfl) ?_
  refine G_val (V_move rfl rfl) rfl rfl (.yes rfl rfl rfl rfl) ?_
  refine G_val (V_eql rfl rfl rfl) rfl rfl (.yes rfl rfl rfl rfl) ?_
  refine G_val (V_pick_t rfl rfl rfl) rfl rfl (.none rfl) ?_
  refine G_val (V_assign rfl rfl) rfl rfl (.none rfl) ?_
  refine G_end (X_then (G_ret ?_))
  refine G_leaveS (.nil _) (by exact (.cons (.tmp rfl) (.nil))) rfl ?_ ?_
  · exact ((((((hE4.trans hE9).trans hE16).trans hE21).trans hE28).trans hE26).trans hE35)
  exact ⟨(by kernel_rfl), rfl⟩
end
end Go.Proofs.Ytaoinojdijbhaaa
set_option linter.unusedSimpArgs false
set_option linter.unusedVariables false
set_option maxHeartbeats 2000000
set_option maxRecDepth 20000
namespace Go.Proofs.Ytaoinojdijbhaaa
open Go.RowKit
theorem bools_get {l : List Bool} {s : Int} (h1 : 16 ≤ s) (h2 : s < 16 + (l.length : Int)) : (bools l)[(s - 16).toNat]? = some (.bool (bget l s)) := by
  have h : (s - 16).toNat < l.length := by omega
  simp [bools, bget, h]
theorem take_all {α : Type} {l : List α} {i : Nat} {f : α → Bool} (h : i < l.length) : (l.take (i + 1)).all f = ((l.take i).all f && f l[i]) := by
  rw [List.take_succ_eq_append_getElem h, List.all_append]; simp
section
variable (E : Env) (L : List Res)
theorem indext_call (s : Int) (h : s < 16) : CallV Try.prog 85 #[.int .i64 s] E L (.int .i64 (-1)) := by
  refine CallS.toV (CallS.intro (l := [_]) _ Try.func85 rfl Try.ntmps85 rfl ?_)
  refine G_seq (G_region ?_)
  refine G_val (V_assign rfl rfl) rfl rfl (.none rfl) ?_
  refine G_end (X_then (G_seq (G_seq (G_region ?_))))
  refine G_val (V_move rfl rfl) rfl rfl (.none rfl) ?_
  refine G_val (V_lss rfl rfl rfl) rfl rfl (.none rfl) ?_
  refine G_end (X_then ?_)
  refine G_cond_t rfl (decide_eq_true (by omega)) ?_
  refine G_seq (G_region ?_)
  refine G_val (V_assign rfl rfl) rfl rfl (.none rfl) ?_
  refine G_end (X_then (G_ret (X_then_ret ?_)))
  refine G_leaveS (.nil _) (by exact (.cons (.tmp rfl) (.nil))) rfl ?_ ?_
  · exact (.refl _)
  exact ⟨(by kernel_rfl), rfl⟩
theorem indexn_call (s : Int) (h : 16 ≤ s) (h2 : s ≤ 9223372036854775807) : CallV Try.prog 85 #[.int .i64 s] E L (.int .i64 (s - 16)) := by
  refine CallS.toV (CallS.intro (l := [_]) _ Try.func85 rfl Try.ntmps85 rfl ?_)
  refine G_seq (G_region ?_)
  refine G_val (V_assign rfl rfl) rfl rfl (.none rfl) ?_
  refine G_end (X_then (G_seq (G_seq (G_region ?_))))
  refine G_val (V_move rfl rfl) rfl rfl (.none rfl) ?_
  refine G_val (V_lss rfl rfl rfl) rfl rfl (.none rfl) ?_
  refine G_end (X_then ?_)
  refine G_cond_f rfl (decide_eq_false (by omega)) ?_
  refine G_skip (X_then (G_seq (G_region ?_)))
  refine G_val (V_move rfl rfl) rfl rfl (.none rfl) ?_
  refine G_val (V_sub_i64 rfl rfl rfl (by omega) (by omega)) rfl rfl (.none rfl) ?_
  refine G_val (V_assign rfl rfl) rfl rfl (.none rfl) ?_
  refine G_end (X_then (G_ret ?_))
  refine G_leaveS (.nil _) (by exact (.cons (.tmp rfl) (.nil))) rfl ?_ ?_
  · exact (.refl _)
  exact ⟨rfl, rfl⟩
theorem all_call (rp : Option Addr) (rc : Nat) (r : List Int) (terms : Bool) (p : Option Addr) (n c : Nat) (l : List Bool) (hr : SlE E 1 rp r.length (i64s r)) (hl : Rd E L 1 p n (bools l)) (hn : l.length = n) (hn2 : n ≤ 100) (h12 : r.length ≤ 1000) (hy : ∀ s, s ∈ r → s < 16 + (n : Int)) :
    CallV Try.prog 88 #[.slice rp r.length rc, .bool terms, .slice p n c] E L (.bool (r.all (goodB terms l))) := by
  subst hn
  refine CallS.toV (CallS.intro (l := [_, _, _]) _ Try.func88 rfl Try.ntmps88 rfl ?_)
  refine G_seq (G_region ?_)
  refine G_val (V_assign rfl rfl) rfl rfl (.none rfl) ?_
  refine G_end (X_then (G_seq (G_seq (G_region ?_))))
  refine G_val (V_assign rfl rfl) rfl rfl (.none rfl) ?_
  refine G_end (X_then (G_block ?_))
  refine G_loop (α := Nat) (fun i => [(0, .slice rp r.length rc), (1, .bool terms), (2, .slice p l.length c), (7, .int .i64 i)]) (fun _ => E) (fun _ => L)
    (fun i => i ≤ r.length ∧ (r.take i).all (goodB terms l) = true) (fun i => r.length - i) 0 ⟨Nat.zero_le _, rfl⟩ ⟨rfl, rfl, rfl, rfl, trivial⟩ rfl rfl ?_
  rintro i ⟨hi, hall⟩
  by_cases hlt : i < r.length
  · have hx := i64s_at hlt
    have hs := hy _ (List.getElem_mem hlt)
    have ht := take_all (f := goodB terms l) hlt
    rw [hall, Bool.true_and] at ht
    have hno : goodB terms l r[i] = false → r.all (goodB terms l) = false := fun h => all_not hlt h
    by_cases h16 : r[i] < 16
    · rw [goodB, if_pos h16] at ht hno
      cases terms with
      | true =>
        refine G_seq (G_seq (G_region ?_))
        refine G_val (V_move rfl rfl) rfl rfl (.none rfl) ?_
        refine G_val (V_move rfl rfl) rfl rfl (.none rfl) ?_
        refine G_val (V_lenS rfl rfl) rfl rfl (.none rfl) ?_
        refine G_val (V_lss rfl rfl rfl) rfl rfl (.none rfl) ?_
        refine G_end (X_then ?_)
        refine G_cond_t rfl (decide_eq_true (by omega)) ?_
        refine G_skip (X_then (G_seq (G_block (G_seq (G_region ?_)))))
        refine G_val (V_move rfl rfl) rfl rfl (.none rfl) ?_
        refine G_val (V_move rfl rfl) rfl rfl (.none rfl) ?_
        refine G_val (V_idxAddr rfl rfl rfl (SlE.rd (by assumption)) (by omega) (by omega)) rfl rfl (.none rfl) ?_
        refine G_val (V_loadS rfl rfl (SlE.rd (by assumption)) (by assumption) (by simp)) rfl rfl (.none rfl) ?_
        refine G_callv (k := 85) (.mk rfl rfl rfl rfl) rfl rfl (.none rfl) (indext_call _ _ _ (by assumption)) ?_
        refine G_val (V_assign rfl rfl) rfl rfl (.none rfl) ?_
        refine G_end (X_then (G_seq (G_region ?_)))
        refine G_val (V_move rfl rfl) rfl rfl (.none rfl) ?_
        refine G_val (V_lss rfl rfl rfl) rfl rfl (.none rfl) ?_
        refine G_val (V_move rfl rfl) rfl rfl (.none rfl) ?_
        refine G.bool_t 22 rfl (by kernel_rfl) ?_
        refine G_val (V_move rfl rfl) rfl rfl (.yes rfl rfl rfl rfl) ?_
        refine G_val (V_not rfl rfl) rfl rfl (.yes rfl rfl rfl rfl) ?_
        refine G_val (V_pick_t rfl rfl rfl) rfl rfl (.none rfl) ?_
        refine G_val (V_move rfl rfl) rfl rfl (.none rfl) ?_
        refine G.bool_f 26 rfl (by kernel_rfl) ?_
        refine G_val (V_move rfl rfl) rfl rfl (.yes rfl rfl rfl rfl) ?_
        refine G_val (V_geq rfl rfl rfl) rfl rfl (.yes rfl rfl rfl rfl) ?_
        refine G_val (V_move rfl rfl) rfl rfl (.yes rfl rfl rfl rfl) ?_
        refine G.bool_f 29 rfl (by kernel_rfl) ?_
        refine G_stay (.no rfl rfl rfl rfl) rfl rfl ?_
        refine G_stay (.no rfl rfl rfl rfl) rfl rfl ?_
        refine G_stay (.no rfl rfl rfl rfl) rfl rfl ?_
        refine G_stay (.no rfl rfl rfl rfl) rfl rfl ?_
        refine G_stay (.no rfl rfl rfl rfl) rfl rfl ?_
        refine G_val (V_pick_f rfl rfl rfl) rfl rfl (.yes rfl rfl rfl rfl) ?_
        refine G_val (V_pick_f rfl rfl rfl) rfl rfl (.none rfl) ?_
        refine G_end (X_then ?_)
        refine G_cond_f rfl rfl ?_
        refine G_skip (X_block (X_then (G_region ?_)))
        refine G_val (V_move rfl rfl) rfl rfl (.none rfl) ?_
        refine G_val (V_add_i64 rfl rfl rfl (by omega) (by omega)) rfl rfl (.none rfl) ?_
        refine G_val (V_assign rfl rfl) rfl rfl (.none rfl) ?_
        refine G_end (X_then ?_)
        exact G_again (i + 1) ⟨hlt, ht⟩ (by omega) ⟨rfl, rfl, rfl, rfl, trivial⟩ rfl rfl
      | false =>
        rw [hno rfl]
        refine G_seq (G_seq (G_region ?_))
        refine G_val (V_move rfl rfl) rfl rfl (.none rfl) ?_
        refine G_val (V_move rfl rfl) rfl rfl (.none rfl) ?_
        refine G_val (V_lenS rfl rfl) rfl rfl (.none rfl) ?_
        refine G_val (V_lss rfl rfl rfl) rfl rfl (.none rfl) ?_
        refine G_end (X_then ?_)
        refine G_cond_t rfl (decide_eq_true (by omega)) ?_
        refine G_skip (X_then (G_seq (G_block (G_seq (G_region ?_)))))
        refine G_val (V_move rfl rfl) rfl rfl (.none rfl) ?_
        refine G_val (V_move rfl rfl) rfl rfl (.none rfl) ?_
        refine G_val (V_idxAddr rfl rfl rfl (SlE.rd (by assumption)) (by omega) (by omega)) rfl rfl (.none rfl) ?_
        refine G_val (V_loadS rfl rfl (SlE.rd (by assumption)) (by assumption) (by simp)) rfl rfl (.none rfl) ?_
        refine G_callv (k := 85) (.mk rfl rfl rfl rfl) rfl rfl (.none rfl) (indext_call _ _ _ (by assumption)) ?_
        refine G_val (V_assign rfl rfl) rfl rfl (.none rfl) ?_
        refine G_end (X_then (G_seq (G_region ?_)))
        refine G_val (V_move rfl rfl) rfl rfl (.none rfl) ?_
        refine G_val (V_lss rfl rfl rfl) rfl rfl (.none rfl) ?_
        refine G_val (V_move rfl rfl) rfl rfl (.none rfl) ?_
        refine G.bool_t 22 rfl (by kernel_rfl) ?_
        refine G_val (V_move rfl rfl) rfl rfl (.yes rfl rfl rfl rfl) ?_
        refine G_val (V_not rfl rfl) rfl rfl (.yes rfl rfl rfl rfl) ?_
        refine G_val (V_pick_t rfl rfl rfl) rfl rfl (.none rfl) ?_
        refine G_val (V_move rfl rfl) rfl rfl (.none rfl) ?_
        refine G.bool_t 26 rfl (by kernel_rfl) ?_
        refine G_stay (.no rfl rfl rfl rfl) rfl rfl ?_
        refine G_stay (.no rfl rfl rfl rfl) rfl rfl ?_
        refine G_stay (.no rfl rfl rfl rfl) rfl rfl ?_
        refine G_stay (.un rfl rfl rfl rfl) rfl rfl ?_
        refine G_stay (.un rfl rfl rfl rfl) rfl rfl ?_
        refine G_stay (.un rfl rfl rfl rfl) rfl rfl ?_
        refine G_stay (.un rfl rfl rfl rfl) rfl rfl ?_
        refine G_stay (.un rfl rfl rfl rfl) rfl rfl ?_
        refine G_stay (.no rfl rfl rfl rfl) rfl rfl ?_
        refine G_val (V_pick_t rfl rfl rfl) rfl rfl (.none rfl) ?_
        refine G_end (X_then ?_)
        refine G_cond_t rfl rfl ?_
        refine G_seq (G_region ?_)
        refine G_val (V_assign rfl rfl) rfl rfl (.none rfl) ?_
        refine G_end (X_then (G_ret (X_block_ret (X_then_ret (X_then_ret (X_block_ret (X_then_ret ?_)))))))
        refine G_leaveS (.nil _) (by exact (.cons (.tmp rfl) (.nil))) rfl ?_ ?_
        · exact (.refl _)
        exact ⟨(by kernel_rfl), rfl⟩
    · have hb := bools_get (l := l) (by omega) hs
      rw [goodB, if_neg h16] at ht hno
      cases hv : bget l r[i] with
      | true =>
        refine G_seq (G_seq (G_region ?_))
        refine G_val (V_move rfl rfl) rfl rfl (.none rfl) ?_
        refine G_val (V_move rfl rfl) rfl rfl (.none rfl) ?_
        refine G_val (V_lenS rfl rfl) rfl rfl (.none rfl) ?_
        refine G_val (V_lss rfl rfl rfl) rfl rfl (.none rfl) ?_
        refine G_end (X_then ?_)
        refine G_cond_t rfl (decide_eq_true (by omega)) ?_
        refine G_skip (X_then (G_seq (G_block (G_seq (G_region ?_)))))
        refine G_val (V_move rfl rfl) rfl rfl (.none rfl) ?_
        refine G_val (V_move rfl rfl) rfl rfl (.none rfl) ?_
        refine G_val (V_idxAddr rfl rfl rfl (SlE.rd (by assumption)) (by omega) (by omega)) rfl rfl (.none rfl) ?_
        refine G_val (V_loadS rfl rfl (SlE.rd (by assumption)) (by assumption) (by simp)) rfl rfl (.none rfl) ?_
        refine G_callv (k := 85) (.mk rfl rfl rfl rfl) rfl rfl (.none rfl) (indexn_call _ _ _ (by omega) (by omega)) ?_
        refine G_val (V_assign rfl rfl) rfl rfl (.none rfl) ?_
        refine G_end (X_then (G_seq (G_region ?_)))
        refine G_val (V_move rfl rfl) rfl rfl (.none rfl) ?_
        refine G_val (V_lss rfl rfl rfl) rfl rfl (.none rfl) ?_
        refine G_val (V_move rfl rfl) rfl rfl (.none rfl) ?_
        refine G.bool_f 22 rfl (decide_eq_false (by omega)) ?_
        refine G_stay (.no rfl rfl rfl rfl) rfl rfl ?_
        refine G_stay (.no rfl rfl rfl rfl) rfl rfl ?_
        refine G_val (V_pick_f rfl rfl rfl) rfl rfl (.none rfl) ?_
        refine G_val (V_move rfl rfl) rfl rfl (.none rfl) ?_
        refine G_val (V_move rfl rfl) rfl rfl (.yes rfl rfl rfl rfl) ?_
        refine G_val (V_geq rfl rfl rfl) rfl rfl (.yes rfl rfl rfl rfl) ?_
        refine G_val (V_move rfl rfl) rfl rfl (.yes rfl rfl rfl rfl) ?_
        refine G.bool_t 29 rfl (decide_eq_true (by omega)) ?_
        refine G_val (V_move rfl rfl) rfl rfl (.yes rfl rfl rfl rfl) ?_
        refine G_val (V_move rfl rfl) rfl rfl (.yes rfl rfl rfl rfl) ?_
        refine G_val (V_idxAddr rfl rfl rfl (by assumption) (by omega) (by omega)) rfl rfl (.yes rfl rfl rfl rfl) ?_
        refine G_val (V_loadS rfl rfl (by assumption) (by assumption) (by simp)) rfl rfl (.yes rfl rfl rfl rfl) ?_
        refine G_val (V_not rfl rfl) rfl rfl (.yes rfl rfl rfl rfl) ?_
        refine G_val (V_pick_t rfl rfl rfl) rfl rfl (.yes rfl rfl rfl rfl) ?_
        refine G_val (V_pick_f rfl rfl rfl) rfl rfl (.none rfl) ?_
        refine G_end (X_then ?_)
        refine G_cond_f rfl (by simp [*]; done) ?_
        refine G_skip (X_block (X_then (G_region ?_)))
        refine G_val (V_move rfl rfl) rfl rfl (.none rfl) ?_
        refine G_val (V_add_i64 rfl rfl rfl (by omega) (by omega)) rfl rfl (.none rfl) ?_
        refine G_val (V_assign rfl rfl) rfl rfl (.none rfl) ?_
        refine G_end (X_then ?_)
        exact G_again (i + 1) ⟨hlt, by rw [ht, hv]⟩ (by omega) ⟨rfl, rfl, rfl, rfl, trivial⟩ rfl rfl
      | false =>
        rw [hno hv]
        refine G_seq (G_seq (G_region ?_))
        refine G_val (V_move rfl rfl) rfl rfl (.none rfl) ?_
        refine G_val (V_move rfl rfl) rfl rfl (.none rfl) ?_
        refine G_val (V_lenS rfl rfl) rfl rfl (.none rfl) ?_
        refine G_val (V_lss rfl rfl rfl) rfl rfl (.none rfl) ?_
        refine G_end (X_then ?_)
        refine G_cond_t rfl (decide_eq_true (by omega)) ?_
        refine G_skip (X_then (G_seq (G_block (G_seq (G_region ?_)))))
        refine G_val (V_move rfl rfl) rfl rfl (.none rfl) ?_
        refine G_val (V_move rfl rfl) rfl rfl (.none rfl) ?_
        refine G_val (V_idxAddr rfl rfl rfl (SlE.rd (by assumption)) (by omega) (by omega)) rfl rfl (.none rfl) ?_
        refine G_val (V_loadS rfl rfl (SlE.rd (by assumption)) (by assumption) (by simp)) rfl rfl (.none rfl) ?_
        refine G_callv (k := 85) (.mk rfl rfl rfl rfl) rfl rfl (.none rfl) (indexn_call _ _ _ (by omega) (by omega)) ?_
        refine G_val (V_assign rfl rfl) rfl rfl (.none rfl) ?_
        refine G_end (X_then (G_seq (G_region ?_)))
        refine G_val (V_move rfl rfl) rfl rfl (.none rfl) ?_
        refine G_val (V_lss rfl rfl rfl) rfl rfl (.none rfl) ?_
        refine G_val (V_move rfl rfl) rfl rfl (.none rfl) ?_
        refine G.bool_f 22 rfl (decide_eq_false (by omega)) ?_
        refine G_stay (.no rfl rfl rfl rfl) rfl rfl ?_
        refine G_stay (.no rfl rfl rfl rfl) rfl rfl ?_
        refine G_val (V_pick_f rfl rfl rfl) rfl rfl (.none rfl) ?_
        refine G_val (V_move rfl rfl) rfl rfl (.none rfl) ?_
        refine G_val (V_move rfl rfl) rfl rfl (.yes rfl rfl rfl rfl) ?_
        refine G_val (V_geq rfl rfl rfl) rfl rfl (.yes rfl rfl rfl rfl) ?_
        refine G_val (V_move rfl rfl) rfl rfl (.yes rfl rfl rfl rfl) ?_
        refine G.bool_t 29 rfl (decide_eq_true (by omega)) ?_
        refine G_val (V_move rfl rfl) rfl rfl (.yes rfl rfl rfl rfl) ?_
        refine G_val (V_move rfl rfl) rfl rfl (.yes rfl rfl rfl rfl) ?_
        refine G_val (V_idxAddr rfl rfl rfl (by assumption) (by omega) (by omega)) rfl rfl (.yes rfl rfl rfl rfl) ?_
        refine G_val (V_loadS rfl rfl (by assumption) (by assumption) (by simp)) rfl rfl (.yes rfl rfl rfl rfl) ?_
        refine G_val (V_not rfl rfl) rfl rfl (.yes rfl rfl rfl rfl) ?_
        refine G_val (V_pick_t rfl rfl rfl) rfl rfl (.yes rfl rfl rfl rfl) ?_
        refine G_val (V_pick_f rfl rfl rfl) rfl rfl (.none rfl) ?_
        refine G_end (X_then ?_)
        refine G_cond_t rfl (by simp [*]; done) ?_
        refine G_seq (G_region ?_)
        refine G_val (V_assign rfl rfl) rfl rfl (.none rfl) ?_
        refine G_end (X_then (G_ret (X_block_ret (X_then_ret (X_then_ret (X_block_ret (X_then_ret ?_)))))))
        refine G_leaveS (.nil _) (by exact (.cons (.tmp rfl) (.nil))) rfl ?_ ?_
        · exact (.refl _)
        exact ⟨(by kernel_rfl), rfl⟩
  · have e2 : r.take i = r := List.take_of_length_le (by omega)
    rw [e2] at hall
    rw [hall]
    refine G_seq (G_seq (G_region ?_))
    refine G_val (V_move rfl rfl) rfl rfl (.none rfl) ?_
    refine G_val (V_move rfl rfl) rfl rfl (.none rfl) ?_
    refine G_val (V_lenS rfl rfl) rfl rfl (.none rfl) ?_
    refine G_val (V_lss rfl rfl rfl) rfl rfl (.none rfl) ?_
    refine G_end (X_then ?_)
    refine G_cond_f rfl (decide_eq_false (by omega)) ?_
    refine G_exit (X_then_exit (X_then_exit (X_block_hit (X_then (G_seq (G_region ?_))))))
    refine G_val (V_assign rfl rfl) rfl rfl (.none rfl) ?_
    refine G_end (X_then (G_ret ?_))
    refine G_leaveS (.nil _) (by exact (.cons (.tmp rfl) (.nil))) rfl ?_ ?_
    · exact (.refl _)
    exact ⟨(by kernel_rfl), rfl⟩
end
end Go.Proofs.Ytaoinojdijbhaaa
set_option linter.unusedSimpArgs false
set_option linter.unusedVariables false
set_option maxHeartbeats 2000000
set_option maxRecDepth 20000
namespace Go.Proofs.Ytaoinojdijbhaaa
open Go.RowKit
theorem startB_cells (n : Nat) : List.replicate n (Value.bool false) = bools (startB n) := by simp [bools, startB]
section
variable (E : Env) (L : List Res)
theorem rounds_call (gv : Value) (g : Gr) (hg : GrE E gv g) (hl : Light g) (terms : Bool) (hw : Wf g.prods g.names.length) :
    CallS Try.prog 82 #[gv, .bool terms] E L (fun r E' L' => ∃ b, r = .slice (some ⟨b, 0, none⟩) g.names.length g.names.length ∧ SlE E' 1 (some ⟨b, 0, none⟩) g.names.length (bools (gen g.prods g.names.length terms)) ∧ L' = L) := by
  have hg0 := hg
  obtain ⟨tp, tc, np, nc, pp, pc, rfl, ht, hn, ⟨rows, hrows, hps, hre⟩, k1, k2, k3⟩ := hg
  have hlen : g.prods.length = rows.length := by rw [← hrows]; simp
  have q1 := hl.t; have q2 := hl.n; have q3 := hl.p
  refine CallS.intro (l := [_, _]) _ Try.func82 rfl Try.ntmps82 rfl ?_
  refine G_seq (G_region ?_)
  (refine G_boxA rfl rfl rfl rfl (.none rfl) ?_; intro b2)
  refine G_val (V_assign rfl rfl) rfl rfl (.none rfl) ?_
  refine G_end (X_then (G_seq (G_region ?_)))
  refine G_val (V_fieldAddr rfl rfl (by decide)) rfl rfl (.none rfl) ?_
  refine G_val (V_load rfl rfl (Cell.own (.head _) rfl)) rfl rfl (.none rfl) ?_
  refine G_val (V_lenS rfl rfl) rfl rfl (.none rfl) ?_
  (refine G_makeSlice rfl rfl rfl (by omega) (by omega) (by omega) rfl rfl (.none rfl) ?_; intro b12)
  refine G_val (V_assign rfl rfl) rfl rfl (.none rfl) ?_
  refine G_end (X_then (G_seq (G_seq (G_region ?_))))
  refine G_val (V_assign rfl rfl) rfl rfl (.none rfl) ?_
  refine G_end (X_then (G_block ?_))
  simp only [Int.toNat_natCast]
  refine G_loop (α := List Bool × Bool) (fun x => [(1, .bool terms), (2, .pointer (some ⟨b2, 0, none⟩)), (5, .slice (some ⟨b12, 0, none⟩) g.names.length g.names.length), (6, .bool x.2)]) (fun _ => E) (fun x => .blk b12 (.cells (bools x.1).toArray 4 (0, 0)) :: GB b2 g tp tc np nc pp pc :: L)
    (fun x => InvB g.prods g.names.length terms x.1 ∧ (x.2 = false → ∀ p, p ∈ g.prods → (!bget x.1 p.1 && p.2.all (goodB terms x.1)) = false)) (fun x => 2 * meas (tab x.1) + (if x.2 = true then 1 else 0)) (startB g.names.length, true)
    ⟨invB_start _ _ _, fun h => by cases h⟩ ⟨rfl, rfl, rfl, rfl, trivial⟩ rfl (by rw [startB_cells]) ?_
  rintro ⟨l, ch⟩ ⟨hi, hst⟩
  simp only at hi hst ⊢
  cases ch with
  | false =>
    have he : l = gen g.prods g.names.length terms := hi.done hw (hst rfl)
    have hll := hi.lenB
    refine G.freezeB (.head _ _) (k := g.names.length) (sz := 1) (by simp [bools, hll]) ?_
    intro E1 hE1 hs1
    rw [he] at hs1
    refine G_seq (G_seq (G_region ?_))
    refine G_val (V_move rfl rfl) rfl rfl (.none rfl) ?_
    refine G_end (X_then ?_)
    refine G_cond_f rfl rfl ?_
    refine G_exit (X_then_exit (X_then_exit (X_block_hit (X_then (G_seq (G_region ?_))))))
    refine G_val (V_move rfl rfl) rfl rfl (.none rfl) ?_
    refine G_val (V_assign rfl rfl) rfl rfl (.none rfl) ?_
    refine G_end (X_then (G_ret ?_))
    refine G_leaveS (.drop _ (.nil _)) (by exact (.cons (.tmp rfl) (.nil))) rfl ?_ ?_
    · exact hE1
    exact ⟨_, ⟨rfl, ⟨(by assumption), rfl⟩⟩⟩
  | true =>
    refine G_seq (G_seq (G_region ?_))
    refine G_val (V_move rfl rfl) rfl rfl (.none rfl) ?_
    refine G_end (X_then ?_)
    refine G_cond_t rfl rfl ?_
    refine G_skip (X_then (G_block (G_seq (G_region ?_))))
    refine G_val (V_assign rfl rfl) rfl rfl (.none rfl) ?_
    refine G_end (X_then (G_seq (G_region ?_)))
    refine G_val (V_assign rfl rfl) rfl rfl (.none rfl) ?_
    refine G_end (X_then (G_block ?_))
    refine G_loop (α := Nat × List Bool × Bool) (fun x => [(1, .bool terms), (2, .pointer (some ⟨b2, 0, none⟩)), (5, .slice (some ⟨b12, 0, none⟩) g.names.length g.names.length), (6, .bool x.2.2), (7, .int .i64 x.1)]) (fun _ => E) (fun x => .blk b12 (.cells (bools x.2.1).toArray 4 (0, 0)) :: GB b2 g tp tc np nc pp pc :: L)
      (fun x => x.1 ≤ rows.length ∧ InvB g.prods g.names.length terms x.2.1 ∧ (x.2.2 = true → meas (tab x.2.1) < meas (tab l)) ∧ (x.2.2 = false → x.2.1 = l ∧ ∀ k, k < x.1 → (hk : k < rows.length) → (!bget l rows[k].2.2.1 && rows[k].2.2.2.all (goodB terms l)) = false)) (fun x => rows.length - x.1) (0, l, false)
      ⟨Nat.zero_le _, hi, fun h => (by cases h), fun _ => ⟨rfl, fun k hk => (by cases hk)⟩⟩ ⟨rfl, rfl, rfl, rfl, rfl, trivial⟩ rfl rfl ?_
    rintro ⟨i, l', ch⟩ ⟨hile, hi', hm, hall⟩
    simp only at hile hi' hm hall ⊢
    have hll := hi'.lenB
    have hll2 : (bools l').length = g.names.length := by simp [bools, hll]
    by_cases hlt : i < rows.length
    · have hg1 := List.getElem?_eq_getElem hlt
      have hyl := prows_left hg1
      have hyr := prows_right hg1
      have hre1 := hre.get hg1
      have hp : rows[i].2.2 ∈ g.prods := by rw [← hrows]; exact List.mem_map.2 ⟨rows[i], List.getElem_mem hlt, rfl⟩
      have hl1 := hw.left _ hp
      have h8 := hw.right _ hp
      have hsy := hw.syms _ hp
      have hbl := bools_get (l := l') hl1.1 (by rw [hll]; exact hl1.2)
      have hrd : Rd E (.blk b12 (.cells (bools l').toArray 4 (0, 0)) :: GB b2 g tp tc np nc pp pc :: L) 1 (some ⟨b12, 0, none⟩) g.names.length (bools l') := Rd.lit (.head _) (by omega)
      have stay : (!bget l' rows[i].2.2.1 && rows[i].2.2.2.all (goodB terms l')) = false → ch = false → l' = l ∧ ∀ k, k < i + 1 → (hk : k < rows.length) → (!bget l rows[k].2.2.1 && rows[k].2.2.2.all (goodB terms l)) = false := by
        intro h hch
        obtain ⟨h1, h2⟩ := hall hch
        subst h1
        refine ⟨rfl, fun k hk hk2 => ?_⟩
        by_cases he : k = i
        · subst he; exact h
        · exact h2 k (by omega) hk2
      cases hb : bget l' rows[i].2.2.1 with
      | true =>
        refine G_seq (G_seq (G_region ?_))
        refine G_val (V_move rfl rfl) rfl rfl (.none rfl) ?_
        refine G_val (V_fieldAddr rfl rfl (by decide)) rfl rfl (.none rfl) ?_
        refine G_val (V_load rfl rfl (Cell.own (.tail _ (.head _)) rfl)) rfl rfl (.none rfl) ?_
        refine G_val (V_lenS rfl rfl) rfl rfl (.none rfl) ?_
        refine G_val (V_lss rfl rfl rfl) rfl rfl (.none rfl) ?_
        refine G_end (X_then ?_)
        refine G_cond_t rfl (decide_eq_true (by omega)) ?_
        refine G_skip (X_then (G_seq (G_block (G_seq (G_region ?_)))))
        refine G_val (V_fieldAddr rfl rfl (by decide)) rfl rfl (.none rfl) ?_
        refine G_val (V_load rfl rfl (Cell.own (.tail _ (.head _)) rfl)) rfl rfl (.none rfl) ?_
        refine G_val (V_move rfl rfl) rfl rfl (.none rfl) ?_
        refine G_val (V_idxAddr rfl rfl rfl (SlE.rd (by assumption)) (by omega) (by omega)) rfl rfl (.none rfl) ?_
        refine G_val (V_fieldAddrE rfl rfl (by assumption) (by omega) (by decide)) rfl rfl (.none rfl) ?_
        refine G_val (V_loadS rfl rfl (SlE.rd (by assumption)) hyl (by simp)) rfl rfl (.none rfl) ?_
        refine G_callv (k := 85) (.mk rfl rfl rfl rfl) rfl rfl (.none rfl) (indexn_call _ _ _ (by omega) (by omega)) ?_
        refine G_val (V_assign rfl rfl) rfl rfl (.none rfl) ?_
        refine G_end (X_then (G_seq (G_region ?_)))
        refine G_val (V_move rfl rfl) rfl rfl (.none rfl) ?_
        refine G_val (V_move rfl rfl) rfl rfl (.none rfl) ?_
        refine G_val (V_idxB1 rfl rfl rfl (by omega) (by omega)) rfl rfl (.none rfl) ?_
        refine G_val (V_load rfl rfl (Cell.own (.head _) (by assumption))) rfl rfl (.none rfl) ?_
        refine G_val (V_not rfl rfl) rfl rfl (.none rfl) ?_
        refine G_val (V_move rfl rfl) rfl rfl (.none rfl) ?_
        refine G.bool_f 33 rfl (by simp [*]; done) ?_
        refine G_stay (.no rfl rfl rfl rfl) rfl rfl ?_
        refine G_stay (.no rfl rfl rfl rfl) rfl rfl ?_
        refine G_stay (.no rfl rfl rfl rfl) rfl rfl ?_
        refine G_stay (.no rfl rfl rfl rfl) rfl rfl ?_
        refine G_stay (.no rfl rfl rfl rfl) rfl rfl ?_
        refine G_stay (.no rfl rfl rfl rfl) rfl rfl ?_
        refine G_stay (.no rfl rfl rfl rfl) rfl rfl ?_
        refine G_stay (.no rfl rfl rfl rfl) rfl rfl ?_
        refine G_stay (.no rfl rfl rfl rfl) rfl rfl ?_
        refine G_val (V_pick_f rfl rfl rfl) rfl rfl (.none rfl) ?_
        refine G_end (X_then ?_)
        refine G_cond_f rfl rfl ?_
        refine G_skip (X_block (X_then (G_region ?_)))
        refine G_val (V_move rfl rfl) rfl rfl (.none rfl) ?_
        refine G_val (V_add_i64 rfl rfl rfl (by omega) (by omega)) rfl rfl (.none rfl) ?_
        refine G_val (V_assign rfl rfl) rfl rfl (.none rfl) ?_
        refine G_end (X_then ?_)
        exact G_again (i + 1, l', ch) ⟨hlt, hi', hm, stay (by rw [hb]; rfl)⟩ (by simp only; omega) ⟨rfl, rfl, rfl, rfl, rfl, trivial⟩ rfl rfl
      | false =>
        cases ha : rows[i].2.2.2.all (goodB terms l') with
        | true =>
          obtain ⟨hu1, hu2⟩ := hi'.upd hw hp hb ha
          have hle : meas (tab l') ≤ meas (tab l) := by
            cases ch with
            | true => exact Nat.le_of_lt (hm rfl)
            | false => rw [(hall rfl).1]; exact Nat.le_refl _
          refine G_seq (G_seq (G_region ?_))
          refine G_val (V_move rfl rfl) rfl rfl (.none rfl) ?_
          refine G_val (V_fieldAddr rfl rfl (by decide)) rfl rfl (.none rfl) ?_
          refine G_val (V_load rfl rfl (Cell.own (.tail _ (.head _)) rfl)) rfl rfl (.none rfl) ?_
          refine G_val (V_lenS rfl rfl) rfl rfl (.none rfl) ?_
          refine G_val (V_lss rfl rfl rfl) rfl rfl (.none rfl) ?_
          refine G_end (X_then ?_)
          refine G_cond_t rfl (decide_eq_true (by omega)) ?_
          refine G_skip (X_then (G_seq (G_block (G_seq (G_region ?_)))))
          refine G_val (V_fieldAddr rfl rfl (by decide)) rfl rfl (.none rfl) ?_
          refine G_val (V_load rfl rfl (Cell.own (.tail _ (.head _)) rfl)) rfl rfl (.none rfl) ?_
          refine G_val (V_move rfl rfl) rfl rfl (.none rfl) ?_
          refine G_val (V_idxAddr rfl rfl rfl (SlE.rd (by assumption)) (by omega) (by omega)) rfl rfl (.none rfl) ?_
          refine G_val (V_fieldAddrE rfl rfl (by assumption) (by omega) (by decide)) rfl rfl (.none rfl) ?_
          refine G_val (V_loadS rfl rfl (SlE.rd (by assumption)) hyl (by simp)) rfl rfl (.none rfl) ?_
          refine G_callv (k := 85) (.mk rfl rfl rfl rfl) rfl rfl (.none rfl) (indexn_call _ _ _ (by omega) (by omega)) ?_
          refine G_val (V_assign rfl rfl) rfl rfl (.none rfl) ?_
          refine G_end (X_then (G_seq (G_region ?_)))
          refine G_val (V_move rfl rfl) rfl rfl (.none rfl) ?_
          refine G_val (V_move rfl rfl) rfl rfl (.none rfl) ?_
          refine G_val (V_idxB1 rfl rfl rfl (by omega) (by omega)) rfl rfl (.none rfl) ?_
          refine G_val (V_load rfl rfl (Cell.own (.head _) (by assumption))) rfl rfl (.none rfl) ?_
          refine G_val (V_not rfl rfl) rfl rfl (.none rfl) ?_
          refine G_val (V_move rfl rfl) rfl rfl (.none rfl) ?_
          refine G.bool_t 33 rfl (by simp [*]; done) ?_
          refine G_val (V_fieldAddr rfl rfl (by decide)) rfl rfl (.yes rfl rfl rfl rfl) ?_
          refine G_val (V_load rfl rfl (Cell.own (.tail _ (.head _)) rfl)) rfl rfl (.yes rfl rfl rfl rfl) ?_
          refine G_val (V_move rfl rfl) rfl rfl (.yes rfl rfl rfl rfl) ?_
          refine G_val (V_idxAddr rfl rfl rfl (SlE.rd (by assumption)) (by omega) (by omega)) rfl rfl (.yes rfl rfl rfl rfl) ?_
          refine G_val (V_fieldAddrE rfl rfl (by assumption) (by omega) (by decide)) rfl rfl (.yes rfl rfl rfl rfl) ?_
          refine G_val (V_loadS rfl rfl (SlE.rd (by assumption)) (by assumption) (by simp)) rfl rfl (.yes rfl rfl rfl rfl) ?_
          refine G_val (V_move rfl rfl) rfl rfl (.yes rfl rfl rfl rfl) ?_
          refine G_val (V_move rfl rfl) rfl rfl (.yes rfl rfl rfl rfl) ?_
          refine G_callv (k := 88) (.mk rfl rfl rfl rfl) rfl rfl (.yes rfl rfl rfl rfl) (all_call _ _ _ _ _ _ _ _ _ _ (by assumption) (by assumption) (by assumption) (by omega) (by omega) (by assumption)) ?_
          refine G_val (V_pick_t rfl rfl rfl) rfl rfl (.none rfl) ?_
          refine G_end (X_then ?_)
          refine G_cond_t rfl (by assumption) ?_
          refine G_region ?_
          refine G_val (V_move rfl rfl) rfl rfl (.none rfl) ?_
          refine G_val (V_move rfl rfl) rfl rfl (.none rfl) ?_
          refine G_val (V_idxB1 rfl rfl rfl (by omega) (by omega)) rfl rfl (.none rfl) ?_
          refine G_storeB rfl rfl rfl rfl rfl rfl (.none rfl) (.head _ _ _) (by omega) ?_
          refine G_val (V_assign rfl rfl) rfl rfl (.none rfl) ?_
          refine G_end (X_block (X_then (G_region ?_)))
          refine G_val (V_move rfl rfl) rfl rfl (.none rfl) ?_
          refine G_val (V_add_i64 rfl rfl rfl (by omega) (by omega)) rfl rfl (.none rfl) ?_
          refine G_val (V_assign rfl rfl) rfl rfl (.none rfl) ?_
          refine G_end (X_then ?_)
          rw [bools_set]
          exact G_again (i + 1, l'.set (rows[i].2.2.1 - 16).toNat true, true) ⟨hlt, hu1, fun _ => Nat.lt_of_lt_of_le hu2 hle, fun h => (by cases h)⟩ (by simp only; omega) ⟨rfl, rfl, rfl, rfl, rfl, trivial⟩ rfl rfl
        | false =>
          refine G_seq (G_seq (G_region ?_))
          refine G_val (V_move rfl rfl) rfl rfl (.none rfl) ?_
          refine G_val (V_fieldAddr rfl rfl (by decide)) rfl rfl (.none rfl) ?_
          refine G_val (V_load rfl rfl (Cell.own (.tail _ (.head _)) rfl)) rfl rfl (.none rfl) ?_
          refine G_val (V_lenS rfl rfl) rfl rfl (.none rfl) ?_
          refine G_val (V_lss rfl rfl rfl) rfl rfl (.none rfl) ?_
          refine G_end (X_then ?_)
          refine G_cond_t rfl (decide_eq_true (by omega)) ?_
          refine G_skip (X_then (G_seq (G_block (G_seq (G_region ?_)))))
          refine G_val (V_fieldAddr rfl rfl (by decide)) rfl rfl (.none rfl) ?_
          refine G_val (V_load rfl rfl (Cell.own (.tail _ (.head _)) rfl)) rfl rfl (.none rfl) ?_
          refine G_val (V_move rfl rfl) rfl rfl (.none rfl) ?_
          refine G_val (V_idxAddr rfl rfl rfl (SlE.rd (by assumption)) (by omega) (by omega)) rfl rfl (.none rfl) ?_
          refine G_val (V_fieldAddrE rfl rfl (by assumption) (by omega) (by decide)) rfl rfl (.none rfl) ?_
          refine G_val (V_loadS rfl rfl (SlE.rd (by assumption)) hyl (by simp)) rfl rfl (.none rfl) ?_
          refine G_callv (k := 85) (.mk rfl rfl rfl rfl) rfl rfl (.none rfl) (indexn_call _ _ _ (by omega) (by omega)) ?_
          refine G_val (V_assign rfl rfl) rfl rfl (.none rfl) ?_
          refine G_end (X_then (G_seq (G_region ?_)))
          refine G_val (V_move rfl rfl) rfl rfl (.none rfl) ?_
          refine G_val (V_move rfl rfl) rfl rfl (.none rfl) ?_
          refine G_val (V_idxB1 rfl rfl rfl (by omega) (by omega)) rfl rfl (.none rfl) ?_
          refine G_val (V_load rfl rfl (Cell.own (.head _) (by assumption))) rfl rfl (.none rfl) ?_
          refine G_val (V_not rfl rfl) rfl rfl (.none rfl) ?_
          refine G_val (V_move rfl rfl) rfl rfl (.none rfl) ?_
          refine G.bool_t 33 rfl (by simp [*]; done) ?_
          refine G_val (V_fieldAddr rfl rfl (by decide)) rfl rfl (.yes rfl rfl rfl rfl) ?_
          refine G_val (V_load rfl rfl (Cell.own (.tail _ (.head _)) rfl)) rfl rfl (.yes rfl rfl rfl rfl) ?_
          refine G_val (V_move rfl rfl) rfl rfl (.yes rfl rfl rfl rfl) ?_
          refine G_val (V_idxAddr rfl rfl rfl (SlE.rd (by assumption)) (by omega) (by omega)) rfl rfl (.yes rfl rfl rfl rfl) ?_
          refine G_val (V_fieldAddrE rfl rfl (by assumption) (by omega) (by decide)) rfl rfl (.yes rfl rfl rfl rfl) ?_
          refine G_val (V_loadS rfl rfl (SlE.rd (by assumption)) (by assumption) (by simp)) rfl rfl (.yes rfl rfl rfl rfl) ?_
          refine G_val (V_move rfl rfl) rfl rfl (.yes rfl rfl rfl rfl) ?_
          refine G_val (V_move rfl rfl) rfl rfl (.yes rfl rfl rfl rfl) ?_
          refine G_callv (k := 88) (.mk rfl rfl rfl rfl) rfl rfl (.yes rfl rfl rfl rfl) (all_call _ _ _ _ _ _ _ _ _ _ (by assumption) (by assumption) (by assumption) (by omega) (by omega) (by assumption)) ?_
          refine G_val (V_pick_t rfl rfl rfl) rfl rfl (.none rfl) ?_
          refine G_end (X_then ?_)
          refine G_cond_f rfl (by assumption) ?_
          refine G_skip (X_block (X_then (G_region ?_)))
          refine G_val (V_move rfl rfl) rfl rfl (.none rfl) ?_
          refine G_val (V_add_i64 rfl rfl rfl (by omega) (by omega)) rfl rfl (.none rfl) ?_
          refine G_val (V_assign rfl rfl) rfl rfl (.none rfl) ?_
          refine G_end (X_then ?_)
          exact G_again (i + 1, l', ch) ⟨hlt, hi', hm, stay (by rw [ha, Bool.and_false])⟩ (by simp only; omega) ⟨rfl, rfl, rfl, rfl, rfl, trivial⟩ rfl rfl
    · refine G_seq ?_
      refine G_seq (G_region ?_)
      refine G_val (V_move rfl rfl) rfl rfl (.none rfl) ?_
      refine G_val (V_fieldAddr rfl rfl (by decide)) rfl rfl (.none rfl) ?_
      refine G_val (V_load rfl rfl (Cell.own (.tail _ (.head _)) rfl)) rfl rfl (.none rfl) ?_
      refine G_val (V_lenS rfl rfl) rfl rfl (.none rfl) ?_
      refine G_val (V_lss rfl rfl rfl) rfl rfl (.none rfl) ?_
      refine G_end (X_then ?_)
      refine G_cond_f rfl (decide_eq_false (by omega)) ?_
      refine G_exit (X_then_exit (X_then_exit (X_block_hit (X_block (X_then ?_)))))
      refine G_again (l', ch) ⟨hi', fun h p hp => ?_⟩ ?_ ⟨rfl, rfl, rfl, rfl, trivial⟩ rfl rfl
      · obtain ⟨h1, h2⟩ := hall h
        subst h1
        rw [← hrows] at hp
        obtain ⟨x, hx, rfl⟩ := List.mem_map.1 hp
        obtain ⟨k, hk, rfl⟩ := List.getElem_of_mem hx
        exact h2 k (by omega) hk
      · cases ch with
        | true =>
          have := hm rfl
          simp only [if_true]
          omega
        | false =>
          rw [(hall rfl).1]
          simp
end
end Go.Proofs.Ytaoinojdijbhaaa
set_option linter.unusedSimpArgs false
set_option linter.unusedVariables false
set_option maxHeartbeats 2000000
set_option maxRecDepth 20000
namespace Go.Proofs.Ytaoinojdijbhaaa
open Go.RowKit
theorem bget_set {l : List Bool} {k : Nat} {s : Int} (h : bget l s = true) : bget (l.set k true) s = true := by
  rw [bget, List.getElem?_set]
  by_cases he : k = (s - 16).toNat
  · rw [if_pos he]
    by_cases hk : k < l.length
    · rw [if_pos hk]; rfl
    · rw [bget, List.getElem?_eq_none (by omega)] at h; cases h
  · rw [if_neg he]; exact h
theorem bget_hit {l : List Bool} {s : Int} (h : (s - 16).toNat < l.length) : bget (l.set (s - 16).toNat true) s = true := by
  rw [bget, List.getElem?_set, if_pos rfl, if_pos h]; rfl
section
variable (E : Env) (L : List Res)
theorem below_call (gv : Value) (g : Gr) (hg : GrE E gv g) (hl : Light g) (m : Int) (hw : Wf g.prods g.names.length) (hm0 : 0 ≤ m) (hm1 : m < g.names.length) :
    CallS Try.prog 84 #[gv, .int .i64 m] E L (fun r E' L' => ∃ b, r = .slice (some ⟨b, 0, none⟩) g.names.length g.names.length ∧ SlE E' 1 (some ⟨b, 0, none⟩) g.names.length (bools (reachL g.prods g.names.length (16 + m))) ∧ L' = L) := by
  have hg0 := hg
  obtain ⟨tp, tc, np, nc, pp, pc, rfl, ht, hn, ⟨rows, hrows, hps, hre⟩, k1, k2, k3⟩ := hg
  have hlen : g.prods.length = rows.length := by rw [← hrows]; simp
  have q1 := hl.t; have q2 := hl.n; have q3 := hl.p
  have a1 : (16 : Int) ≤ 16 + m := by omega
  have a2 : 16 + m < 16 + (g.names.length : Int) := by omega
  have hst0 := invR_start hw a1 a2
  have ea : (16 + m - 16 : Int) = m := by omega
  rw [ea] at hst0
  have hll0 : (List.replicate g.names.length (Value.bool false)).length = g.names.length := by simp
  refine CallS.intro (l := [_, _]) _ Try.func84 rfl Try.ntmps84 rfl ?_
  refine G_seq (G_region ?_)
  (refine G_boxA rfl rfl rfl rfl (.none rfl) ?_; intro b2)
  refine G_val (V_assign rfl rfl) rfl rfl (.none rfl) ?_
  refine G_end (X_then (G_seq (G_region ?_)))
  refine G_val (V_fieldAddr rfl rfl (by decide)) rfl rfl (.none rfl) ?_
  refine G_val (V_load rfl rfl (Cell.own (.head _) rfl)) rfl rfl (.none rfl) ?_
  refine G_val (V_lenS rfl rfl) rfl rfl (.none rfl) ?_
  (refine G_makeSlice rfl rfl rfl (by omega) (by omega) (by omega) rfl rfl (.none rfl) ?_; intro b13)
  refine G_val (V_assign rfl rfl) rfl rfl (.none rfl) ?_
  refine G_end (X_then (G_seq (G_region ?_)))
  refine G_val (V_move rfl rfl) rfl rfl (.none rfl) ?_
  refine G_val (V_move rfl rfl) rfl rfl (.none rfl) ?_
  refine G_val (V_idxB1 rfl rfl rfl (by omega) (by omega)) rfl rfl (.none rfl) ?_
  refine G_storeB rfl rfl rfl rfl rfl rfl (.none rfl) (.head _ _ _) (by (simp only [List.length_map, List.length_replicate, List.length_set]; omega)) ?_
  refine G_end (X_then (G_seq (G_seq (G_region ?_))))
  refine G_val (V_assign rfl rfl) rfl rfl (.none rfl) ?_
  refine G_end (X_then (G_block ?_))
  simp only [Int.toNat_natCast]
  skip
  rw [startB_cells, bools_set]
  have hba : bget ((startB g.names.length).set m.toNat true) (16 + m) = true := by
    have := bget_hit (l := startB g.names.length) (s := 16 + m) (by rw [startB, List.length_replicate]; omega)
    rwa [ea] at this
  refine G_loop (α := List Bool × Bool) (fun x => [(2, .pointer (some ⟨b2, 0, none⟩)), (5, .slice (some ⟨b13, 0, none⟩) g.names.length g.names.length), (6, .bool x.2)]) (fun _ => E) (fun x => .blk b13 (.cells (bools x.1).toArray 4 (0, 0)) :: GB b2 g tp tc np nc pp pc :: L)
    (fun x => InvR g.prods g.names.length (16 + m) x.1 ∧ bget x.1 (16 + m) = true ∧ (x.2 = false → ∀ p, p ∈ g.prods → bget x.1 p.1 = true → ∀ s, s ∈ p.2 → 16 ≤ s → bget x.1 s = true)) (fun x => 2 * meas (tab x.1) + (if x.2 = true then 1 else 0)) ((startB g.names.length).set m.toNat true, true)
    ⟨hst0, hba, fun h => by cases h⟩ ⟨rfl, rfl, rfl, trivial⟩ rfl rfl ?_
  rintro ⟨l, ch⟩ ⟨hi, hia, hst⟩
  simp only at hi hia hst ⊢
  cases ch with
  | false =>
    have he : l = reachL g.prods g.names.length (16 + m) := hi.done hw a1 a2 hia (hst rfl)
    have hll := hi.lenB
    refine G.freezeB (.head _ _) (k := g.names.length) (sz := 1) (by simp [bools, hll]) ?_
    intro E1 hE1 hs1
    rw [he] at hs1
    refine G_seq (G_seq (G_region ?_))
    refine G_val (V_move rfl rfl) rfl rfl (.none rfl) ?_
    refine G_end (X_then ?_)
    refine G_cond_f rfl rfl ?_
    refine G_exit (X_then_exit (X_then_exit (X_block_hit (X_then (G_seq (G_region ?_))))))
    refine G_val (V_move rfl rfl) rfl rfl (.none rfl) ?_
    refine G_val (V_assign rfl rfl) rfl rfl (.none rfl) ?_
    refine G_end (X_then (G_ret ?_))
    refine G_leaveS (.drop _ (.nil _)) (by exact (.cons (.tmp rfl) (.nil))) rfl ?_ ?_
    · exact hE1
    exact ⟨_, ⟨rfl, ⟨(by assumption), rfl⟩⟩⟩
  | true =>
    refine G_seq (G_seq (G_region ?_))
    refine G_val (V_move rfl rfl) rfl rfl (.none rfl) ?_
    refine G_end (X_then ?_)
    refine G_cond_t rfl rfl ?_
    refine G_skip (X_then (G_block (G_seq (G_region ?_))))
    refine G_val (V_assign rfl rfl) rfl rfl (.none rfl) ?_
    refine G_end (X_then (G_seq (G_region ?_)))
    refine G_val (V_assign rfl rfl) rfl rfl (.none rfl) ?_
    refine G_end (X_then (G_block ?_))
    refine G_loop (α := Nat × List Bool × Bool) (fun x => [(2, .pointer (some ⟨b2, 0, none⟩)), (5, .slice (some ⟨b13, 0, none⟩) g.names.length g.names.length), (6, .bool x.2.2), (7, .int .i64 x.1)]) (fun _ => E) (fun x => .blk b13 (.cells (bools x.2.1).toArray 4 (0, 0)) :: GB b2 g tp tc np nc pp pc :: L)
      (fun x => x.1 ≤ rows.length ∧ InvR g.prods g.names.length (16 + m) x.2.1 ∧ bget x.2.1 (16 + m) = true ∧ (x.2.2 = true → meas (tab x.2.1) < meas (tab l)) ∧ (x.2.2 = false → x.2.1 = l ∧ ∀ k, k < x.1 → (hk : k < rows.length) → bget l rows[k].2.2.1 = true → ∀ s, s ∈ rows[k].2.2.2 → 16 ≤ s → bget l s = true)) (fun x => rows.length - x.1) (0, l, false)
      ⟨Nat.zero_le _, hi, hia, fun h => (by cases h), fun _ => ⟨rfl, fun k hk => (by cases hk)⟩⟩ ⟨rfl, rfl, rfl, rfl, trivial⟩ rfl rfl ?_
    rintro ⟨i, l1, ch⟩ ⟨hile, hi1, hia1, hm, hall⟩
    simp only at hile hi1 hia1 hm hall ⊢
    have hll := hi1.lenB
    have hll2 : (bools l1).length = g.names.length := by simp [bools, hll]
    by_cases hlt : i < rows.length
    · have hg1 := List.getElem?_eq_getElem hlt
      have hyl := prows_left hg1
      have hyr := prows_right hg1
      have hre1 := hre.get hg1
      have hp : rows[i].2.2 ∈ g.prods := by rw [← hrows]; exact List.mem_map.2 ⟨rows[i], List.getElem_mem hlt, rfl⟩
      have hl1 := hw.left _ hp
      have h8 := hw.right _ hp
      have hsy := hw.syms _ hp
      have hbl := bools_get (l := l1) hl1.1 (by rw [hll]; exact hl1.2)
      cases hb : bget l1 rows[i].2.2.1 with
      | false =>
        refine G_seq (G_seq (G_region ?_))
        refine G_val (V_move rfl rfl) rfl rfl (.none rfl) ?_
        refine G_val (V_fieldAddr rfl rfl (by decide)) rfl rfl (.none rfl) ?_
        refine G_val (V_load rfl rfl (Cell.own (.tail _ (.head _)) rfl)) rfl rfl (.none rfl) ?_
        refine G_val (V_lenS rfl rfl) rfl rfl (.none rfl) ?_
        refine G_val (V_lss rfl rfl rfl) rfl rfl (.none rfl) ?_
        refine G_end (X_then ?_)
        refine G_cond_t rfl (decide_eq_true (by omega)) ?_
        refine G_skip (X_then (G_seq (G_block (G_seq (G_seq (G_region ?_))))))
        refine G_val (V_move rfl rfl) rfl rfl (.none rfl) ?_
        refine G_val (V_fieldAddr rfl rfl (by decide)) rfl rfl (.none rfl) ?_
        refine G_val (V_load rfl rfl (Cell.own (.tail _ (.head _)) rfl)) rfl rfl (.none rfl) ?_
        refine G_val (V_move rfl rfl) rfl rfl (.none rfl) ?_
        refine G_val (V_idxAddr rfl rfl rfl (SlE.rd (by assumption)) (by omega) (by omega)) rfl rfl (.none rfl) ?_
        refine G_val (V_fieldAddrE rfl rfl (by assumption) (by omega) (by decide)) rfl rfl (.none rfl) ?_
        refine G_val (V_loadS rfl rfl (SlE.rd (by assumption)) hyl (by simp)) rfl rfl (.none rfl) ?_
        refine G_callv (k := 85) (.mk rfl rfl rfl rfl) rfl rfl (.none rfl) (indexn_call _ _ _ (by omega) (by omega)) ?_
        refine G_val (V_idxB1 rfl rfl rfl (by omega) (by omega)) rfl rfl (.none rfl) ?_
        refine G_val (V_load rfl rfl (Cell.own (.head _) (by assumption))) rfl rfl (.none rfl) ?_
        refine G_val (V_not rfl rfl) rfl rfl (.none rfl) ?_
        refine G_end (X_then ?_)
        refine G_cond_t rfl (by simp [*]; done) ?_
        refine G_exit (X_then_exit (X_block_hit (X_then (G_region ?_))))
        refine G_val (V_move rfl rfl) rfl rfl (.none rfl) ?_
        refine G_val (V_add_i64 rfl rfl rfl (by omega) (by omega)) rfl rfl (.none rfl) ?_
        refine G_val (V_assign rfl rfl) rfl rfl (.none rfl) ?_
        refine G_end (X_then ?_)
        refine G_again (i + 1, l1, ch) ⟨hlt, hi1, hia1, hm, ?_⟩ (by simp only; omega) ⟨rfl, rfl, rfl, rfl, trivial⟩ rfl rfl
        intro hch
        obtain ⟨h1, h2⟩ := hall hch
        subst h1
        refine ⟨rfl, fun k hk hk2 => ?_⟩
        by_cases he : k = i
        · subst he; intro h; rw [hb] at h; cases h
        · exact h2 k (by simp only at hk; omega) hk2
      | true =>
        refine G_seq (G_seq (G_region ?_))
        refine G_val (V_move rfl rfl) rfl rfl (.none rfl) ?_
        refine G_val (V_fieldAddr rfl rfl (by decide)) rfl rfl (.none rfl) ?_
        refine G_val (V_load rfl rfl (Cell.own (.tail _ (.head _)) rfl)) rfl rfl (.none rfl) ?_
        refine G_val (V_lenS rfl rfl) rfl rfl (.none rfl) ?_
        refine G_val (V_lss rfl rfl rfl) rfl rfl (.none rfl) ?_
        refine G_end (X_then ?_)
        refine G_cond_t rfl (decide_eq_true (by omega)) ?_
        refine G_skip (X_then (G_seq (G_block (G_seq (G_seq (G_region ?_))))))
        refine G_val (V_move rfl rfl) rfl rfl (.none rfl) ?_
        refine G_val (V_fieldAddr rfl rfl (by decide)) rfl rfl (.none rfl) ?_
        refine G_val (V_load rfl rfl (Cell.own (.tail _ (.head _)) rfl)) rfl rfl (.none rfl) ?_
        refine G_val (V_move rfl rfl) rfl rfl (.none rfl) ?_
        refine G_val (V_idxAddr rfl rfl rfl (SlE.rd (by assumption)) (by omega) (by omega)) rfl rfl (.none rfl) ?_
        refine G_val (V_fieldAddrE rfl rfl (by assumption) (by omega) (by decide)) rfl rfl (.none rfl) ?_
        refine G_val (V_loadS rfl rfl (SlE.rd (by assumption)) hyl (by simp)) rfl rfl (.none rfl) ?_
        refine G_callv (k := 85) (.mk rfl rfl rfl rfl) rfl rfl (.none rfl) (indexn_call _ _ _ (by omega) (by omega)) ?_
        refine G_val (V_idxB1 rfl rfl rfl (by omega) (by omega)) rfl rfl (.none rfl) ?_
        refine G_val (V_load rfl rfl (Cell.own (.head _) (by assumption))) rfl rfl (.none rfl) ?_
        refine G_val (V_not rfl rfl) rfl rfl (.none rfl) ?_
        refine G_end (X_then ?_)
        refine G_cond_f rfl (by simp [*]; done) ?_
        refine G_skip (X_then (G_seq (G_region ?_)))
        refine G_val (V_assign rfl rfl) rfl rfl (.none rfl) ?_
        refine G_end (X_then (G_block ?_))
        refine G_loop (α := Nat × List Bool × Bool) (fun x => [(2, .pointer (some ⟨b2, 0, none⟩)), (5, .slice (some ⟨b13, 0, none⟩) g.names.length g.names.length), (6, .bool x.2.2), (7, .int .i64 i), (8, .int .i64 x.1)]) (fun _ => E) (fun x => .blk b13 (.cells (bools x.2.1).toArray 4 (0, 0)) :: GB b2 g tp tc np nc pp pc :: L)
          (fun x => x.1 ≤ rows[i].2.2.2.length ∧ InvR g.prods g.names.length (16 + m) x.2.1 ∧ bget x.2.1 (16 + m) = true ∧ bget x.2.1 rows[i].2.2.1 = true ∧ (x.2.2 = true → meas (tab x.2.1) < meas (tab l)) ∧ (x.2.2 = false → ch = false ∧ x.2.1 = l ∧ ∀ k, k < x.1 → (hk : k < rows[i].2.2.2.length) → 16 ≤ rows[i].2.2.2[k] → bget l rows[i].2.2.2[k] = true)) (fun x => rows[i].2.2.2.length - x.1) (0, l1, ch)
          ⟨Nat.zero_le _, hi1, hia1, hb, hm, fun h => ⟨h, (hall h).1, fun k hk => (by cases hk)⟩⟩ ⟨rfl, rfl, rfl, rfl, rfl, trivial⟩ rfl rfl ?_
        rintro ⟨j, l2, ch2⟩ ⟨hjle, hi2, hia2, hb2, hm2, hjall⟩
        simp only at hjle hi2 hia2 hb2 hm2 hjall ⊢
        have hllb := hi2.lenB
        have hllb2 : (bools l2).length = g.names.length := by simp [bools, hllb]
        by_cases hjlt : j < rows[i].2.2.2.length
        · have hx := i64s_at hjlt
          have hsj := hsy _ (List.getElem_mem hjlt)
          have stay : (16 ≤ rows[i].2.2.2[j] → bget l2 rows[i].2.2.2[j] = true) → ch2 = false → ch = false ∧ l2 = l ∧ ∀ k, k < j + 1 → (hk : k < rows[i].2.2.2.length) → 16 ≤ rows[i].2.2.2[k] → bget l rows[i].2.2.2[k] = true := by
            intro h hch
            obtain ⟨h0, h1, h2⟩ := hjall hch
            subst h1
            refine ⟨h0, rfl, fun k hk hk2 => ?_⟩
            by_cases he : k = j
            · subst he; exact h
            · exact h2 k (by omega) hk2
          by_cases h16 : rows[i].2.2.2[j] < 16
          · refine G_seq ?_
            refine G_seq (G_region ?_)
            refine G_val (V_move rfl rfl) rfl rfl (.none rfl) ?_
            refine G_val (V_fieldAddr rfl rfl (by decide)) rfl rfl (.none rfl) ?_
            refine G_val (V_load rfl rfl (Cell.own (.tail _ (.head _)) rfl)) rfl rfl (.none rfl) ?_
            refine G_val (V_move rfl rfl) rfl rfl (.none rfl) ?_
            refine G_val (V_idxAddr rfl rfl rfl (SlE.rd (by assumption)) (by omega) (by omega)) rfl rfl (.none rfl) ?_
            refine G_val (V_fieldAddrE rfl rfl (by assumption) (by omega) (by decide)) rfl rfl (.none rfl) ?_
            refine G_val (V_loadS rfl rfl (SlE.rd (by assumption)) (by assumption) (by simp)) rfl rfl (.none rfl) ?_
            refine G_val (V_lenS rfl rfl) rfl rfl (.none rfl) ?_
            refine G_val (V_lss rfl rfl rfl) rfl rfl (.none rfl) ?_
            refine G_end (X_then ?_)
            refine G_cond_t rfl (decide_eq_true (by omega)) ?_
            refine G_skip (X_then (G_seq (G_block (G_seq (G_region ?_)))))
            refine G_val (V_fieldAddr rfl rfl (by decide)) rfl rfl (.none rfl) ?_
            refine G_val (V_load rfl rfl (Cell.own (.tail _ (.head _)) rfl)) rfl rfl (.none rfl) ?_
            refine G_val (V_move rfl rfl) rfl rfl (.none rfl) ?_
            refine G_val (V_idxAddr rfl rfl rfl (SlE.rd (by assumption)) (by omega) (by omega)) rfl rfl (.none rfl) ?_
            refine G_val (V_fieldAddrE rfl rfl (by assumption) (by omega) (by decide)) rfl rfl (.none rfl) ?_
            refine G_val (V_loadS rfl rfl (SlE.rd (by assumption)) (by assumption) (by simp)) rfl rfl (.none rfl) ?_
            refine G_val (V_move rfl rfl) rfl rfl (.none rfl) ?_
            refine G_val (V_idxAddr rfl rfl rfl (SlE.rd (by assumption)) (by omega) (by omega)) rfl rfl (.none rfl) ?_
            refine G_val (V_loadS rfl rfl (SlE.rd (by assumption)) (by assumption) (by simp)) rfl rfl (.none rfl) ?_
            refine G_callv (k := 85) (.mk rfl rfl rfl rfl) rfl rfl (.none rfl) (indext_call _ _ _ (by assumption)) ?_
            refine G_val (V_assign rfl rfl) rfl rfl (.none rfl) ?_
            refine G_end (X_then (G_seq (G_region ?_)))
            refine G_val (V_move rfl rfl) rfl rfl (.none rfl) ?_
            refine G_val (V_geq rfl rfl rfl) rfl rfl (.none rfl) ?_
            refine G_val (V_move rfl rfl) rfl rfl (.none rfl) ?_
            refine G.bool_f 59 rfl (by kernel_rfl) ?_
            refine G_stay (.no rfl rfl rfl rfl) rfl rfl ?_
            refine G_stay (.no rfl rfl rfl rfl) rfl rfl ?_
            refine G_stay (.no rfl rfl rfl rfl) rfl rfl ?_
            refine G_stay (.no rfl rfl rfl rfl) rfl rfl ?_
            refine G_stay (.no rfl rfl rfl rfl) rfl rfl ?_
            refine G_val (V_pick_f rfl rfl rfl) rfl rfl (.none rfl) ?_
            refine G_end (X_then ?_)
            refine G_cond_f rfl rfl ?_
            refine G_skip (X_block (X_then (G_region ?_)))
            refine G_val (V_move rfl rfl) rfl rfl (.none rfl) ?_
            refine G_val (V_add_i64 rfl rfl rfl (by omega) (by omega)) rfl rfl (.none rfl) ?_
            refine G_val (V_assign rfl rfl) rfl rfl (.none rfl) ?_
            refine G_end (X_then ?_)
            exact G_again (j + 1, l2, ch2) ⟨hjlt, hi2, hia2, hb2, hm2, stay fun h => by omega⟩ (by simp only; omega) ⟨rfl, rfl, rfl, rfl, rfl, trivial⟩ rfl rfl
          · have hbs := bools_get (l := l2) (s := rows[i].2.2.2[j]) (by omega) (by rw [hllb]; exact hsj)
            cases hc : bget l2 rows[i].2.2.2[j] with
            | true =>
              refine G_seq (G_seq (G_region ?_))
              refine G_val (V_move rfl rfl) rfl rfl (.none rfl) ?_
              refine G_val (V_fieldAddr rfl rfl (by decide)) rfl rfl (.none rfl) ?_
              refine G_val (V_load rfl rfl (Cell.own (.tail _ (.head _)) rfl)) rfl rfl (.none rfl) ?_
              refine G_val (V_move rfl rfl) rfl rfl (.none rfl) ?_
              refine G_val (V_idxAddr rfl rfl rfl (SlE.rd (by assumption)) (by omega) (by omega)) rfl rfl (.none rfl) ?_
              refine G_val (V_fieldAddrE rfl rfl (by assumption) (by omega) (by decide)) rfl rfl (.none rfl) ?_
              refine G_val (V_loadS rfl rfl (SlE.rd (by assumption)) (by assumption) (by simp)) rfl rfl (.none rfl) ?_
              refine G_val (V_lenS rfl rfl) rfl rfl (.none rfl) ?_
              refine G_val (V_lss rfl rfl rfl) rfl rfl (.none rfl) ?_
              refine G_end (X_then ?_)
              refine G_cond_t rfl (decide_eq_true (by omega)) ?_
              refine G_skip (X_then (G_seq (G_block (G_seq (G_region ?_)))))
              refine G_val (V_fieldAddr rfl rfl (by decide)) rfl rfl (.none rfl) ?_
              refine G_val (V_load rfl rfl (Cell.own (.tail _ (.head _)) rfl)) rfl rfl (.none rfl) ?_
              refine G_val (V_move rfl rfl) rfl rfl (.none rfl) ?_
              refine G_val (V_idxAddr rfl rfl rfl (SlE.rd (by assumption)) (by omega) (by omega)) rfl rfl (.none rfl) ?_
              refine G_val (V_fieldAddrE rfl rfl (by assumption) (by omega) (by decide)) rfl rfl (.none rfl) ?_
              refine G_val (V_loadS rfl rfl (SlE.rd (by assumption)) (by assumption) (by simp)) rfl rfl (.none rfl) ?_
              refine G_val (V_move rfl rfl) rfl rfl (.none rfl) ?_
              refine G_val (V_idxAddr rfl rfl rfl (SlE.rd (by assumption)) (by omega) (by omega)) rfl rfl (.none rfl) ?_
              refine G_val (V_loadS rfl rfl (SlE.rd (by assumption)) (by assumption) (by simp)) rfl rfl (.none rfl) ?_
              refine G_callv (k := 85) (.mk rfl rfl rfl rfl) rfl rfl (.none rfl) (indexn_call _ _ _ (by omega) (by omega)) ?_
              refine G_val (V_assign rfl rfl) rfl rfl (.none rfl) ?_
              refine G_end (X_then (G_seq (G_region ?_)))
              refine G_val (V_move rfl rfl) rfl rfl (.none rfl) ?_
              refine G_val (V_geq rfl rfl rfl) rfl rfl (.none rfl) ?_
              refine G_val (V_move rfl rfl) rfl rfl (.none rfl) ?_
              refine G.bool_t 59 rfl (decide_eq_true (by omega)) ?_
              refine G_val (V_move rfl rfl) rfl rfl (.yes rfl rfl rfl rfl) ?_
              refine G_val (V_move rfl rfl) rfl rfl (.yes rfl rfl rfl rfl) ?_
              refine G_val (V_idxB1 rfl rfl rfl (by omega) (by omega)) rfl rfl (.yes rfl rfl rfl rfl) ?_
              refine G_val (V_load rfl rfl (Cell.own (.head _) (by assumption))) rfl rfl (.yes rfl rfl rfl rfl) ?_
              refine G_val (V_not rfl rfl) rfl rfl (.yes rfl rfl rfl rfl) ?_
              refine G_val (V_pick_t rfl rfl rfl) rfl rfl (.none rfl) ?_
              refine G_end (X_then ?_)
              refine G_cond_f rfl (by simp [*]; done) ?_
              refine G_skip (X_block (X_then (G_region ?_)))
              refine G_val (V_move rfl rfl) rfl rfl (.none rfl) ?_
              refine G_val (V_add_i64 rfl rfl rfl (by omega) (by omega)) rfl rfl (.none rfl) ?_
              refine G_val (V_assign rfl rfl) rfl rfl (.none rfl) ?_
              refine G_end (X_then ?_)
              exact G_again (j + 1, l2, ch2) ⟨hjlt, hi2, hia2, hb2, hm2, stay fun _ => hc⟩ (by simp only; omega) ⟨rfl, rfl, rfl, rfl, rfl, trivial⟩ rfl rfl
            | false =>
              obtain ⟨hu1, hu2⟩ := hi2.upd hw a1 a2 hp (List.getElem_mem hjlt) (by omega) hb2 hc
              have hle : meas (tab l2) ≤ meas (tab l) := by
                cases ch2 with
                | true => exact Nat.le_of_lt (hm2 rfl)
                | false => rw [(hjall rfl).2.1]; exact Nat.le_refl _
              refine G_seq (G_seq (G_region ?_))
              refine G_val (V_move rfl rfl) rfl rfl (.none rfl) ?_
              refine G_val (V_fieldAddr rfl rfl (by decide)) rfl rfl (.none rfl) ?_
              refine G_val (V_load rfl rfl (Cell.own (.tail _ (.head _)) rfl)) rfl rfl (.none rfl) ?_
              refine G_val (V_move rfl rfl) rfl rfl (.none rfl) ?_
              refine G_val (V_idxAddr rfl rfl rfl (SlE.rd (by assumption)) (by omega) (by omega)) rfl rfl (.none rfl) ?_
              refine G_val (V_fieldAddrE rfl rfl (by assumption) (by omega) (by decide)) rfl rfl (.none rfl) ?_
              refine G_val (V_loadS rfl rfl (SlE.rd (by assumption)) (by assumption) (by simp)) rfl rfl (.none rfl) ?_
              refine G_val (V_lenS rfl rfl) rfl rfl (.none rfl) ?_
              refine G_val (V_lss rfl rfl rfl) rfl rfl (.none rfl) ?_
              refine G_end (X_then ?_)
              refine G_cond_t rfl (decide_eq_true (by omega)) ?_
              refine G_skip (X_then (G_seq (G_block (G_seq (G_region ?_)))))
              refine G_val (V_fieldAddr rfl rfl (by decide)) rfl rfl (.none rfl) ?_
              refine G_val (V_load rfl rfl (Cell.own (.tail _ (.head _)) rfl)) rfl rfl (.none rfl) ?_
              refine G_val (V_move rfl rfl) rfl rfl (.none rfl) ?_
              refine G_val (V_idxAddr rfl rfl rfl (SlE.rd (by assumption)) (by omega) (by omega)) rfl rfl (.none rfl) ?_
              refine G_val (V_fieldAddrE rfl rfl (by assumption) (by omega) (by decide)) rfl rfl (.none rfl) ?_
              refine G_val (V_loadS rfl rfl (SlE.rd (by assumption)) (by assumption) (by simp)) rfl rfl (.none rfl) ?_
              refine G_val (V_move rfl rfl) rfl rfl (.none rfl) ?_
              refine G_val (V_idxAddr rfl rfl rfl (SlE.rd (by assumption)) (by omega) (by omega)) rfl rfl (.none rfl) ?_
              refine G_val (V_loadS rfl rfl (SlE.rd (by assumption)) (by assumption) (by simp)) rfl rfl (.none rfl) ?_
              refine G_callv (k := 85) (.mk rfl rfl rfl rfl) rfl rfl (.none rfl) (indexn_call _ _ _ (by omega) (by omega)) ?_
              refine G_val (V_assign rfl rfl) rfl rfl (.none rfl) ?_
              refine G_end (X_then (G_seq (G_region ?_)))
              refine G_val (V_move rfl rfl) rfl rfl (.none rfl) ?_
              refine G_val (V_geq rfl rfl rfl) rfl rfl (.none rfl) ?_
              refine G_val (V_move rfl rfl) rfl rfl (.none rfl) ?_
              refine G.bool_t 59 rfl (decide_eq_true (by omega)) ?_
              refine G_val (V_move rfl rfl) rfl rfl (.yes rfl rfl rfl rfl) ?_
              refine G_val (V_move rfl rfl) rfl rfl (.yes rfl rfl rfl rfl) ?_
              refine G_val (V_idxB1 rfl rfl rfl (by omega) (by omega)) rfl rfl (.yes rfl rfl rfl rfl) ?_
              refine G_val (V_load rfl rfl (Cell.own (.head _) (by assumption))) rfl rfl (.yes rfl rfl rfl rfl) ?_
              refine G_val (V_not rfl rfl) rfl rfl (.yes rfl rfl rfl rfl) ?_
              refine G_val (V_pick_t rfl rfl rfl) rfl rfl (.none rfl) ?_
              refine G_end (X_then ?_)
              refine G_cond_t rfl (by simp [*]; done) ?_
              refine G_region ?_
              refine G_val (V_move rfl rfl) rfl rfl (.none rfl) ?_
              refine G_val (V_move rfl rfl) rfl rfl (.none rfl) ?_
              refine G_val (V_idxB1 rfl rfl rfl (by omega) (by omega)) rfl rfl (.none rfl) ?_
              refine G_storeB rfl rfl rfl rfl rfl rfl (.none rfl) (.head _ _ _) (by omega) ?_
              refine G_val (V_assign rfl rfl) rfl rfl (.none rfl) ?_
              refine G_end (X_block (X_then (G_region ?_)))
              refine G_val (V_move rfl rfl) rfl rfl (.none rfl) ?_
              refine G_val (V_add_i64 rfl rfl rfl (by omega) (by omega)) rfl rfl (.none rfl) ?_
              refine G_val (V_assign rfl rfl) rfl rfl (.none rfl) ?_
              refine G_end (X_then ?_)
              rw [bools_set]
              exact G_again (j + 1, l2.set (rows[i].2.2.2[j] - 16).toNat true, true) ⟨hjlt, hu1, bget_set hia2, bget_set hb2, fun _ => Nat.lt_of_lt_of_le hu2 hle, fun h => (by cases h)⟩ (by simp only; omega) ⟨rfl, rfl, rfl, rfl, rfl, trivial⟩ rfl rfl
        · refine G_seq ?_
          refine G_seq (G_region ?_)
          refine G_val (V_move rfl rfl) rfl rfl (.none rfl) ?_
          refine G_val (V_fieldAddr rfl rfl (by decide)) rfl rfl (.none rfl) ?_
          refine G_val (V_load rfl rfl (Cell.own (.tail _ (.head _)) rfl)) rfl rfl (.none rfl) ?_
          refine G_val (V_move rfl rfl) rfl rfl (.none rfl) ?_
          refine G_val (V_idxAddr rfl rfl rfl (SlE.rd (by assumption)) (by omega) (by omega)) rfl rfl (.none rfl) ?_
          refine G_val (V_fieldAddrE rfl rfl (by assumption) (by omega) (by decide)) rfl rfl (.none rfl) ?_
          refine G_val (V_loadS rfl rfl (SlE.rd (by assumption)) (by assumption) (by simp)) rfl rfl (.none rfl) ?_
          refine G_val (V_lenS rfl rfl) rfl rfl (.none rfl) ?_
          refine G_val (V_lss rfl rfl rfl) rfl rfl (.none rfl) ?_
          refine G_end (X_then ?_)
          refine G_cond_f rfl (decide_eq_false (by omega)) ?_
          refine G_exit (X_then_exit (X_then_exit (X_block_hit (X_block (X_then (G_region ?_))))))
          refine G_val (V_move rfl rfl) rfl rfl (.none rfl) ?_
          refine G_val (V_add_i64 rfl rfl rfl (by omega) (by omega)) rfl rfl (.none rfl) ?_
          refine G_val (V_assign rfl rfl) rfl rfl (.none rfl) ?_
          refine G_end (X_then ?_)
          refine G_again (i + 1, l2, ch2) ⟨hlt, hi2, hia2, hm2, ?_⟩ (by simp only; omega) ⟨rfl, rfl, rfl, rfl, trivial⟩ rfl rfl
          intro hch
          obtain ⟨h0, h1, h2⟩ := hjall hch
          refine ⟨h1, fun k hk hk2 => ?_⟩
          by_cases he : k = i
          · subst he
            intro _ s hs h16
            obtain ⟨q, hq, rfl⟩ := List.getElem_of_mem hs
            exact h2 q (by omega) hq h16
          · exact (hall h0).2 k (by simp only at hk; omega) hk2
    · refine G_seq ?_
      refine G_seq (G_region ?_)
      refine G_val (V_move rfl rfl) rfl rfl (.none rfl) ?_
      refine G_val (V_fieldAddr rfl rfl (by decide)) rfl rfl (.none rfl) ?_
      refine G_val (V_load rfl rfl (Cell.own (.tail _ (.head _)) rfl)) rfl rfl (.none rfl) ?_
      refine G_val (V_lenS rfl rfl) rfl rfl (.none rfl) ?_
      refine G_val (V_lss rfl rfl rfl) rfl rfl (.none rfl) ?_
      refine G_end (X_then ?_)
      refine G_cond_f rfl (decide_eq_false (by omega)) ?_
      refine G_exit (X_then_exit (X_then_exit (X_block_hit (X_block (X_then ?_)))))
      refine G_again (l1, ch) ⟨hi1, hia1, fun h p hp => ?_⟩ ?_ ⟨rfl, rfl, rfl, trivial⟩ rfl rfl
      · obtain ⟨h1, h2⟩ := hall h
        subst h1
        rw [← hrows] at hp
        obtain ⟨x, hx, rfl⟩ := List.mem_map.1 hp
        obtain ⟨k, hk, rfl⟩ := List.getElem_of_mem hx
        exact h2 k (by omega) hk
      · cases ch with
        | true =>
          have := hm rfl
          simp only [if_true]
          omega
        | false =>
          rw [(hall rfl).1]
          simp
end
end Go.Proofs.Ytaoinojdijbhaaa
