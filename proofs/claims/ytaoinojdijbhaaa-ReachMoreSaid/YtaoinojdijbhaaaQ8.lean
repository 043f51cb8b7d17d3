/-
  Rules and contracts, packed: D12, D22, D23, D25, D27, D28.
-/
import Derived.Test.YtaoinojdijbhaaaQ7
set_option maxHeartbeats 1000000
set_option linter.unusedSimpArgs false
set_option linter.unusedVariables false
set_option maxHeartbeats 2000000
set_option maxRecDepth 20000
namespace Go.Proofs.Ytaoinojdijbhaaa
open Go.RowKit
theorem wrap_lo {a : Int} (h1 : -9223372036854775808 ≤ a) (h2 : a < -9223372036854775792) : IntKind.i64.wrap (a - 16) = a + 18446744073709551600 := by
  simp [IntKind.wrap, IntKind.signed, IntKind.bits]
  split <;> omega
section
variable (E : Env) (L : List Res)
theorem Empty_call (gv : Value) (g : Gr) (hg : GrE E gv g) (hl : Light g) (rp : Option Addr) (rc : Nat) (r : List Int) (hr : SlE E 1 rp r.length (i64s r)) (h12 : r.length ≤ 1000) (hri : ∀ s, s ∈ r → -9223372036854775808 ≤ s ∧ s ≤ 9223372036854775807) :
    CallV Try.prog 46 #[gv, .slice rp r.length rc] E L (.tuple #[.bool (emptyM g r).1, .int .i64 (emptyM g r).2]) := by
  have hg0 := hg
  obtain ⟨tp, tc, np, nc, pp, pc, rfl, ht, hn, ⟨rows, hrows, hps, hre⟩, k1, k2, k3⟩ := hg
  have q2 := hl.n
  refine CallS.toV (CallS.intro (l := [_, _]) _ Try.func46 rfl Try.ntmps46 rfl ?_)
  by_cases hv : gcheck g = 0
  · have hva := valid_of hv
    have hy := nullM_len hva
    have e := okL_pos hv (nullM g)
    have e2 : emptyM g r = if r.any (fun s => !termB g s && !ntB g s) = true then (false, 14) else (r.all (goodB false (nullM g)), 0) := by rw [emptyM, if_pos hv]
    refine G_seq (G_region ?_)
    (refine G_boxA rfl rfl rfl rfl (.none rfl) ?_; intro b2)
    refine G_val (V_assign rfl rfl) rfl rfl (.none rfl) ?_
    refine G_val (V_assign rfl rfl) rfl rfl (.none rfl) ?_
    refine G_end (X_then (G_seq (G_region ?_)))
    refine G_val (V_loadA rfl rfl (Cells.own (.head _)) rfl) rfl rfl (.none rfl) ?_
    refine G_call (k := 38) (.mk rfl rfl rfl rfl) rfl rfl (.none rfl) (Nullable_call _ _ _ _ (by assumption) (by assumption)) ?_
    rintro r1 E2 L3 hE4 ⟨z5, ⟨z6, ⟨rfl, ⟨Z7, rfl⟩⟩⟩⟩
    replace hr := hr.mono hE4
    replace hg0 := hg0.mono hE4
    replace ht := ht.mono hE4
    replace hn := hn.mono hE4
    replace hps := hps.mono hE4
    refine G_val (V_move rfl rfl) rfl rfl (.none rfl) ?_
    refine G_val (V_extract rfl rfl rfl) rfl rfl (.none rfl) ?_
    refine G_val (V_extract rfl rfl rfl) rfl rfl (.none rfl) ?_
    refine G_val (V_assign rfl rfl) rfl rfl (.none rfl) ?_
    refine G_val (V_assign rfl rfl) rfl rfl (.none rfl) ?_
    refine G_end (X_then (G_seq (G_seq (G_region ?_))))
    refine G_val (V_move rfl rfl) rfl rfl (.none rfl) ?_
    refine G_val (V_neq rfl rfl rfl) rfl rfl (.none rfl) ?_
    refine G_end (X_then ?_)
    refine G_cond_f rfl (decide_eq_false (by omega)) ?_
    refine G_skip (X_then (G_seq (G_region ?_)))
    refine G_val (V_assign rfl rfl) rfl rfl (.none rfl) ?_
    refine G_end (X_then (G_seq (G_seq (G_region ?_))))
    refine G_val (V_move rfl rfl) rfl rfl (.none rfl) ?_
    refine G_val (V_lenS rfl rfl) rfl rfl (.none rfl) ?_
    refine G_val (V_move rfl rfl) rfl rfl (.none rfl) ?_
    refine G_end (X_then (G_block ?_))
    rw [e, hy] at Z7 ⊢
    refine G_loop (α := Nat) (fun i => [(2, .pointer (some ⟨b2, 0, none⟩)), (6, .slice z5 g.names.length z6), (8, .bool ((r.take i).all (goodB false (nullM g)))), (20, .slice rp r.length rc), (21, .int .i64 r.length), (22, .int .i64 i)]) (fun _ => E2) (fun _ => GB b2 g tp tc np nc pp pc :: L)
      (fun i => i ≤ r.length ∧ ∀ k, k < i → (hk : k < r.length) → (!termB g r[k] && !ntB g r[k]) = false) (fun i => r.length - i) 0 ⟨Nat.zero_le _, fun k hk => by cases hk⟩ ⟨rfl, rfl, rfl, rfl, rfl, rfl, trivial⟩ rfl rfl ?_
    rintro i ⟨hi, hall⟩
    by_cases hlt : i < r.length
    · have hx := i64s_at hlt
      have hrb := hri _ (List.getElem_mem hlt)
      have htake : (r.take (i + 1)).all (goodB false (nullM g)) = ((r.take i).all (goodB false (nullM g)) && goodB false (nullM g) r[i]) := by rw [List.take_succ_eq_append_getElem hlt, List.all_append]; simp
      have again : (!termB g r[i] && !ntB g r[i]) = false → ∀ k, k < i + 1 → (hk : k < r.length) → (!termB g r[k] && !ntB g r[k]) = false := by
        intro h k hk hk2
        by_cases he : k = i
        · subst he; exact h
        · exact hall k (by omega) hk2
      by_cases hnt : 16 ≤ r[i] ∧ r[i] < 16 + (g.names.length : Int)
      · have hgood : (!termB g r[i] && !ntB g r[i]) = false := by simp [ntB, hnt.1, hnt.2]
        have hlt3 : (r[i] - 16).toNat < (nullM g).length := by omega
        have hb := bools_at hlt3
        have hg : goodB false (nullM g) r[i] = (nullM g)[(r[i] - 16).toNat] := by rw [goodB, if_neg (by omega), bget, List.getElem?_eq_getElem hlt3]; rfl
        rw [hg] at htake
        refine G_seq (G_region ?_)
        refine G_val (V_lss rfl rfl rfl) rfl rfl (.none rfl) ?_
        refine G_end (X_then (G_seq ?_))
        refine G_cond_t rfl (decide_eq_true (by omega)) ?_
        refine G_skip (X_then (G_seq (G_block (G_seq (G_region ?_)))))
        refine G_val (V_idxAddr rfl rfl rfl (SlE.rd (by assumption)) (by omega) (by omega)) rfl rfl (.none rfl) ?_
        refine G_val (V_loadS rfl rfl (SlE.rd (by assumption)) (by assumption) (by simp)) rfl rfl (.none rfl) ?_
        refine G_val (V_assign rfl rfl) rfl rfl (.none rfl) ?_
        refine G_end (X_then (G_seq (G_region ?_)))
        refine G_val (V_move rfl rfl) rfl rfl (.none rfl) ?_
        refine G_val (V_sub_i64 rfl rfl rfl (by omega) (by omega)) rfl rfl (.none rfl) ?_
        refine G_val (V_assign rfl rfl) rfl rfl (.none rfl) ?_
        refine G_end (X_then (G_block (G_seq (G_region ?_))))
        refine G_val (V_move rfl rfl) rfl rfl (.none rfl) ?_
        refine G_val (V_geq rfl rfl rfl) rfl rfl (.none rfl) ?_
        refine G_val (V_move rfl rfl) rfl rfl (.none rfl) ?_
        refine G.bool_t 31 rfl (decide_eq_true (by omega)) ?_
        refine G_val (V_move rfl rfl) rfl rfl (.yes rfl rfl rfl rfl) ?_
        refine G_val (V_move rfl rfl) rfl rfl (.yes rfl rfl rfl rfl) ?_
        refine G_val (V_lenS rfl rfl) rfl rfl (.yes rfl rfl rfl rfl) ?_
        refine G_val (V_lss rfl rfl rfl) rfl rfl (.yes rfl rfl rfl rfl) ?_
        refine G_val (V_pick_t rfl rfl rfl) rfl rfl (.none rfl) ?_
        refine G_val (V_assign rfl rfl) rfl rfl (.none rfl) ?_
        refine G_end (X_then ?_)
        refine G_cond_t rfl (decide_eq_true (by omega)) ?_
        refine G_region ?_
        refine G_val (V_move rfl rfl) rfl rfl (.none rfl) ?_
        refine G_val (V_move rfl rfl) rfl rfl (.none rfl) ?_
        apply G_joinAnd 5 38 43 rfl
        · intro H1
          dsimp only [List.take]
          refine G_val (V_move rfl rfl) rfl rfl (.yes rfl rfl rfl rfl) ?_
          refine G_val (V_move rfl rfl) rfl rfl (.yes rfl rfl rfl rfl) ?_
          refine G_val (V_idxAddr rfl rfl rfl (SlE.rd (by assumption)) (by omega) (by omega)) rfl rfl (.yes rfl rfl rfl rfl) ?_
          refine G_val (V_loadS rfl rfl (SlE.rd (by assumption)) (by assumption) (by simp)) rfl rfl (.yes rfl rfl rfl rfl) ?_
          refine G_val (V_pick_t rfl rfl rfl) rfl rfl (.none rfl) ?_
          refine G_end ?_
          exact JQ_end 5 rfl rfl (by kernel_rfl)
        · intro H2
          dsimp only [List.take]
          refine G_stay (.no rfl rfl rfl rfl) rfl rfl ?_
          refine G_stay (.no rfl rfl rfl rfl) rfl rfl ?_
          refine G_stay (.no rfl rfl rfl rfl) rfl rfl ?_
          refine G_stay (.no rfl rfl rfl rfl) rfl rfl ?_
          refine G_val (V_pick_f rfl rfl rfl) rfl rfl (.none rfl) ?_
          refine G_end ?_
          exact JQ_end 5 rfl rfl (by kernel_rfl)
        dsimp only [List.drop]
        refine G_val (V_assign rfl rfl) rfl rfl (.none rfl) ?_
        refine G_end (X_block (X_block (X_then (G_region ?_))))
        refine G_val (V_add_i64 rfl rfl rfl (by omega) (by omega)) rfl rfl (.none rfl) ?_
        refine G_val (V_move rfl rfl) rfl rfl (.none rfl) ?_
        refine G_end (X_then ?_)
        rw [← htake]
        exact G_again (i + 1) ⟨hlt, again hgood⟩ (by omega) ⟨rfl, rfl, rfl, rfl, rfl, rfl, trivial⟩ rfl rfl
      · by_cases ht : 0 ≤ r[i] ∧ r[i] < g.toks.length
        · have hgood : (!termB g r[i] && !ntB g r[i]) = false := by simp [termB, ht.1, ht.2]
          have hg : goodB false (nullM g) r[i] = false := by rw [goodB, if_pos (by have := hva.toks; omega)]
          rw [hg, Bool.and_false] at htake
          refine G_seq (G_region ?_)
          refine G_val (V_lss rfl rfl rfl) rfl rfl (.none rfl) ?_
          refine G_end (X_then (G_seq ?_))
          refine G_cond_t rfl (decide_eq_true (by omega)) ?_
          refine G_skip (X_then (G_seq (G_block (G_seq (G_region ?_)))))
          refine G_val (V_idxAddr rfl rfl rfl (SlE.rd (by assumption)) (by omega) (by omega)) rfl rfl (.none rfl) ?_
          refine G_val (V_loadS rfl rfl (SlE.rd (by assumption)) (by assumption) (by simp)) rfl rfl (.none rfl) ?_
          refine G_val (V_assign rfl rfl) rfl rfl (.none rfl) ?_
          refine G_end (X_then (G_seq (G_region ?_)))
          refine G_val (V_move rfl rfl) rfl rfl (.none rfl) ?_
          refine G_val (V_sub_i64 rfl rfl rfl (by omega) (by omega)) rfl rfl (.none rfl) ?_
          refine G_val (V_assign rfl rfl) rfl rfl (.none rfl) ?_
          refine G_end (X_then (G_block (G_seq (G_region ?_))))
          refine G_val (V_move rfl rfl) rfl rfl (.none rfl) ?_
          refine G_val (V_geq rfl rfl rfl) rfl rfl (.none rfl) ?_
          refine G_val (V_move rfl rfl) rfl rfl (.none rfl) ?_
          apply G_joinAnd 5 31 36 rfl
          · intro H1
            dsimp only [List.take]
            simp only [Bool.and_eq_true, Bool.or_eq_true, Bool.not_eq_true', Bool.not_eq_false', Bool.and_eq_false_iff, Bool.or_eq_false_iff, Bool.not_not, decide_eq_true_eq, decide_eq_false_iff_not, ne_eq, Decidable.not_not, Bool.decide_eq_true] at H1
            refine G_val (V_move rfl rfl) rfl rfl (.yes rfl rfl rfl rfl) ?_
            refine G_val (V_move rfl rfl) rfl rfl (.yes rfl rfl rfl rfl) ?_
            refine G_val (V_lenS rfl rfl) rfl rfl (.yes rfl rfl rfl rfl) ?_
            refine G_val (V_lss rfl rfl rfl) rfl rfl (.yes rfl rfl rfl rfl) ?_
            refine G_val (V_pick_t rfl rfl rfl) rfl rfl (.none rfl) ?_
            refine G_end ?_
            exact JQ_end 5 rfl rfl (by kernel_rfl)
          · intro H2
            dsimp only [List.take]
            simp only [Bool.and_eq_true, Bool.or_eq_true, Bool.not_eq_true', Bool.not_eq_false', Bool.and_eq_false_iff, Bool.or_eq_false_iff, Bool.not_not, decide_eq_true_eq, decide_eq_false_iff_not, ne_eq, Decidable.not_not, Bool.decide_eq_true] at H2
            refine G_stay (.no rfl rfl rfl rfl) rfl rfl ?_
            refine G_stay (.no rfl rfl rfl rfl) rfl rfl ?_
            refine G_stay (.no rfl rfl rfl rfl) rfl rfl ?_
            refine G_stay (.no rfl rfl rfl rfl) rfl rfl ?_
            refine G_val (V_pick_f rfl rfl rfl) rfl rfl (.none rfl) ?_
            refine G_end ?_
            exact JQ_end 5 rfl rfl (by kernel_rfl)
          dsimp only [List.drop]
          refine G_val (V_assign rfl rfl) rfl rfl (.none rfl) ?_
          refine G_end (X_then ?_)
          refine G_cond rfl (fun H3 => ?_) (fun H3 => ?_)
          · simp only [Bool.and_eq_true, Bool.or_eq_true, Bool.not_eq_true', Bool.not_eq_false', Bool.and_eq_false_iff, Bool.or_eq_false_iff, Bool.not_not, decide_eq_true_eq, decide_eq_false_iff_not, ne_eq, Decidable.not_not, Bool.decide_eq_true] at H3
            (exfalso; omega)
          simp only [Bool.and_eq_true, Bool.or_eq_true, Bool.not_eq_true', Bool.not_eq_false', Bool.and_eq_false_iff, Bool.or_eq_false_iff, Bool.not_not, decide_eq_true_eq, decide_eq_false_iff_not, ne_eq, Decidable.not_not, Bool.decide_eq_true] at H3
          refine G_seq (G_region ?_)
          refine G_val (V_move rfl rfl) rfl rfl (.none rfl) ?_
          refine G_val (V_geq rfl rfl rfl) rfl rfl (.none rfl) ?_
          refine G_val (V_move rfl rfl) rfl rfl (.none rfl) ?_
          refine G.bool_t 47 rfl (decide_eq_true (by omega)) ?_
          refine G_val (V_move rfl rfl) rfl rfl (.yes rfl rfl rfl rfl) ?_
          refine G_val (V_fieldAddr rfl rfl (by decide)) rfl rfl (.yes rfl rfl rfl rfl) ?_
          refine G_val (V_load rfl rfl (Cell.own (.head _) rfl)) rfl rfl (.yes rfl rfl rfl rfl) ?_
          refine G_val (V_lenS rfl rfl) rfl rfl (.yes rfl rfl rfl rfl) ?_
          refine G_val (V_lss rfl rfl rfl) rfl rfl (.yes rfl rfl rfl rfl) ?_
          refine G_val (V_pick_t rfl rfl rfl) rfl rfl (.none rfl) ?_
          refine G_val (V_assign rfl rfl) rfl rfl (.none rfl) ?_
          refine G_end (X_then ?_)
          refine G_cond_t rfl (decide_eq_true (by omega)) ?_
          refine G_region ?_
          refine G_val (V_assign rfl rfl) rfl rfl (.none rfl) ?_
          refine G_end (X_block (X_block (X_then (G_region ?_))))
          refine G_val (V_add_i64 rfl rfl rfl (by omega) (by omega)) rfl rfl (.none rfl) ?_
          refine G_val (V_move rfl rfl) rfl rfl (.none rfl) ?_
          refine G_end (X_then ?_)
          exact G_again (i + 1) ⟨hlt, again hgood⟩ (by omega) ⟨rfl, rfl, by rw [htake]; rfl, rfl, rfl, rfl, trivial⟩ rfl rfl
        · have hbad : (!termB g r[i] && !ntB g r[i]) = true := by
            have h1 : termB g r[i] = false := by simp [termB]; omega
            have h2 : ntB g r[i] = false := by simp [ntB]; omega
            rw [h1, h2]; rfl
          have e3 : emptyM g r = (false, 14) := by rw [e2, if_pos (any_of hlt hbad)]
          rw [e3]
          by_cases hwr : r[i] < -9223372036854775792
          · have hwv : IntKind.i64.wrap (r[i] - 16) = r[i] + 18446744073709551600 := wrap_lo hrb.1 hwr
            refine G_seq (G_region ?_)
            refine G_val (V_lss rfl rfl rfl) rfl rfl (.none rfl) ?_
            refine G_end (X_then (G_seq ?_))
            refine G_cond_t rfl (decide_eq_true (by omega)) ?_
            refine G_skip (X_then (G_seq (G_block (G_seq (G_region ?_)))))
            refine G_val (V_idxAddr rfl rfl rfl (SlE.rd (by assumption)) (by omega) (by omega)) rfl rfl (.none rfl) ?_
            refine G_val (V_loadS rfl rfl (SlE.rd (by assumption)) (by assumption) (by simp)) rfl rfl (.none rfl) ?_
            refine G_val (V_assign rfl rfl) rfl rfl (.none rfl) ?_
            refine G_end (X_then (G_seq (G_region ?_)))
            refine G_val (V_move rfl rfl) rfl rfl (.none rfl) ?_
            refine G_val (V_sub rfl rfl rfl) rfl rfl (.none rfl) ?_
            refine G_val (V_assign rfl rfl) rfl rfl (.none rfl) ?_
            refine G_end (X_then (G_block (G_seq (G_region ?_))))
            refine G_val (V_move rfl rfl) rfl rfl (.none rfl) ?_
            refine G_val (V_geq rfl rfl rfl) rfl rfl (.none rfl) ?_
            refine G_val (V_move rfl rfl) rfl rfl (.none rfl) ?_
            refine G.bool_t 31 rfl (decide_eq_true (by omega)) ?_
            refine G_val (V_move rfl rfl) rfl rfl (.yes rfl rfl rfl rfl) ?_
            refine G_val (V_move rfl rfl) rfl rfl (.yes rfl rfl rfl rfl) ?_
            refine G_val (V_lenS rfl rfl) rfl rfl (.yes rfl rfl rfl rfl) ?_
            refine G_val (V_lss rfl rfl rfl) rfl rfl (.yes rfl rfl rfl rfl) ?_
            refine G_val (V_pick_t rfl rfl rfl) rfl rfl (.none rfl) ?_
            refine G_val (V_assign rfl rfl) rfl rfl (.none rfl) ?_
            refine G_end (X_then ?_)
            refine G_cond_f rfl (decide_eq_false (by omega)) ?_
            refine G_seq (G_region ?_)
            refine G_val (V_move rfl rfl) rfl rfl (.none rfl) ?_
            refine G_val (V_geq rfl rfl rfl) rfl rfl (.none rfl) ?_
            refine G_val (V_move rfl rfl) rfl rfl (.none rfl) ?_
            refine G.bool_f 47 rfl (decide_eq_false (by omega)) ?_
            refine G_stay (.no rfl rfl rfl rfl) rfl rfl ?_
            refine G_stay (.no rfl rfl rfl rfl) rfl rfl ?_
            refine G_stay (.no rfl rfl rfl rfl) rfl rfl ?_
            refine G_stay (.no rfl rfl rfl rfl) rfl rfl ?_
            refine G_stay (.no rfl rfl rfl rfl) rfl rfl ?_
            refine G_val (V_pick_f rfl rfl rfl) rfl rfl (.none rfl) ?_
            refine G_val (V_assign rfl rfl) rfl rfl (.none rfl) ?_
            refine G_end (X_then ?_)
            refine G_cond_f rfl rfl ?_
            refine G_seq (G_region ?_)
            refine G_val (V_assign rfl rfl) rfl rfl (.none rfl) ?_
            refine G_val (V_assign rfl rfl) rfl rfl (.none rfl) ?_
            refine G_end (X_then (G_ret (X_block_ret (X_block_ret (X_then_ret (X_then_ret (X_block_ret (X_then_ret ?_))))))))
            refine G_leaveS (.drop _ (.nil _)) (by exact (.cons (.tmp rfl) (.cons (.tmp rfl) (.nil)))) rfl ?_ ?_
            · exact hE4
            exact ⟨(by kernel_rfl), rfl⟩
          · refine G_seq ?_
            refine G_region ?_
            refine G_val (V_lss rfl rfl rfl) rfl rfl (.none rfl) ?_
            refine G_end (X_then (G_seq ?_))
            refine G_cond_t rfl (decide_eq_true (by omega)) ?_
            refine G_skip (X_then (G_seq (G_block (G_seq (G_region ?_)))))
            refine G_val (V_idxAddr rfl rfl rfl (SlE.rd (by assumption)) (by omega) (by omega)) rfl rfl (.none rfl) ?_
            refine G_val (V_loadS rfl rfl (SlE.rd (by assumption)) (by assumption) (by simp)) rfl rfl (.none rfl) ?_
            refine G_val (V_assign rfl rfl) rfl rfl (.none rfl) ?_
            refine G_end (X_then (G_seq (G_region ?_)))
            refine G_val (V_move rfl rfl) rfl rfl (.none rfl) ?_
            refine G_val (V_sub_i64 rfl rfl rfl (by omega) (by omega)) rfl rfl (.none rfl) ?_
            refine G_val (V_assign rfl rfl) rfl rfl (.none rfl) ?_
            refine G_end (X_then (G_block (G_seq (G_region ?_))))
            refine G_val (V_move rfl rfl) rfl rfl (.none rfl) ?_
            refine G_val (V_geq rfl rfl rfl) rfl rfl (.none rfl) ?_
            refine G_val (V_move rfl rfl) rfl rfl (.none rfl) ?_
            apply G_joinAnd 5 31 36 rfl
            · intro H1
              dsimp only [List.take]
              simp only [Bool.and_eq_true, Bool.or_eq_true, Bool.not_eq_true', Bool.not_eq_false', Bool.and_eq_false_iff, Bool.or_eq_false_iff, Bool.not_not, decide_eq_true_eq, decide_eq_false_iff_not, ne_eq, Decidable.not_not, Bool.decide_eq_true] at H1
              refine G_val (V_move rfl rfl) rfl rfl (.yes rfl rfl rfl rfl) ?_
              refine G_val (V_move rfl rfl) rfl rfl (.yes rfl rfl rfl rfl) ?_
              refine G_val (V_lenS rfl rfl) rfl rfl (.yes rfl rfl rfl rfl) ?_
              refine G_val (V_lss rfl rfl rfl) rfl rfl (.yes rfl rfl rfl rfl) ?_
              refine G_val (V_pick_t rfl rfl rfl) rfl rfl (.none rfl) ?_
              refine G_end ?_
              exact JQ_end 5 rfl rfl (by kernel_rfl)
            · intro H2
              dsimp only [List.take]
              simp only [Bool.and_eq_true, Bool.or_eq_true, Bool.not_eq_true', Bool.not_eq_false', Bool.and_eq_false_iff, Bool.or_eq_false_iff, Bool.not_not, decide_eq_true_eq, decide_eq_false_iff_not, ne_eq, Decidable.not_not, Bool.decide_eq_true] at H2
              refine G_stay (.no rfl rfl rfl rfl) rfl rfl ?_
              refine G_stay (.no rfl rfl rfl rfl) rfl rfl ?_
              refine G_stay (.no rfl rfl rfl rfl) rfl rfl ?_
              refine G_stay (.no rfl rfl rfl rfl) rfl rfl ?_
              refine G_val (V_pick_f rfl rfl rfl) rfl rfl (.none rfl) ?_
              refine G_end ?_
              exact JQ_end 5 rfl rfl (by kernel_rfl)
            dsimp only [List.drop]
            refine G_val (V_assign rfl rfl) rfl rfl (.none rfl) ?_
            refine G_end (X_then ?_)
            refine G_cond rfl (fun H3 => ?_) (fun H3 => ?_)
            · simp only [Bool.and_eq_true, Bool.or_eq_true, Bool.not_eq_true', Bool.not_eq_false', Bool.and_eq_false_iff, Bool.or_eq_false_iff, Bool.not_not, decide_eq_true_eq, decide_eq_false_iff_not, ne_eq, Decidable.not_not, Bool.decide_eq_true] at H3
              (exfalso; omega)
            simp only [Bool.and_eq_true, Bool.or_eq_true, Bool.not_eq_true', Bool.not_eq_false', Bool.and_eq_false_iff, Bool.or_eq_false_iff, Bool.not_not, decide_eq_true_eq, decide_eq_false_iff_not, ne_eq, Decidable.not_not, Bool.decide_eq_true] at H3
            refine G_seq (G_region ?_)
            refine G_val (V_move rfl rfl) rfl rfl (.none rfl) ?_
            refine G_val (V_geq rfl rfl rfl) rfl rfl (.none rfl) ?_
            refine G_val (V_move rfl rfl) rfl rfl (.none rfl) ?_
            apply G_joinAnd 6 47 53 rfl
            · intro H4
              dsimp only [List.take]
              simp only [Bool.and_eq_true, Bool.or_eq_true, Bool.not_eq_true', Bool.not_eq_false', Bool.and_eq_false_iff, Bool.or_eq_false_iff, Bool.not_not, decide_eq_true_eq, decide_eq_false_iff_not, ne_eq, Decidable.not_not, Bool.decide_eq_true] at H4
              refine G_val (V_move rfl rfl) rfl rfl (.yes rfl rfl rfl rfl) ?_
              refine G_val (V_fieldAddr rfl rfl (by decide)) rfl rfl (.yes rfl rfl rfl rfl) ?_
              refine G_val (V_load rfl rfl (Cell.own (.head _) rfl)) rfl rfl (.yes rfl rfl rfl rfl) ?_
              refine G_val (V_lenS rfl rfl) rfl rfl (.yes rfl rfl rfl rfl) ?_
              refine G_val (V_lss rfl rfl rfl) rfl rfl (.yes rfl rfl rfl rfl) ?_
              refine G_val (V_pick_t rfl rfl rfl) rfl rfl (.none rfl) ?_
              refine G_end ?_
              exact JQ_end 6 rfl rfl (by kernel_rfl)
            · intro H5
              dsimp only [List.take]
              simp only [Bool.and_eq_true, Bool.or_eq_true, Bool.not_eq_true', Bool.not_eq_false', Bool.and_eq_false_iff, Bool.or_eq_false_iff, Bool.not_not, decide_eq_true_eq, decide_eq_false_iff_not, ne_eq, Decidable.not_not, Bool.decide_eq_true] at H5
              refine G_stay (.no rfl rfl rfl rfl) rfl rfl ?_
              refine G_stay (.no rfl rfl rfl rfl) rfl rfl ?_
              refine G_stay (.no rfl rfl rfl rfl) rfl rfl ?_
              refine G_stay (.no rfl rfl rfl rfl) rfl rfl ?_
              refine G_stay (.no rfl rfl rfl rfl) rfl rfl ?_
              refine G_val (V_pick_f rfl rfl rfl) rfl rfl (.none rfl) ?_
              refine G_end ?_
              exact JQ_end 6 rfl rfl (by kernel_rfl)
            dsimp only [List.drop]
            refine G_val (V_assign rfl rfl) rfl rfl (.none rfl) ?_
            refine G_end (X_then ?_)
            refine G_cond rfl (fun H6 => ?_) (fun H6 => ?_)
            · simp only [Bool.and_eq_true, Bool.or_eq_true, Bool.not_eq_true', Bool.not_eq_false', Bool.and_eq_false_iff, Bool.or_eq_false_iff, Bool.not_not, decide_eq_true_eq, decide_eq_false_iff_not, ne_eq, Decidable.not_not, Bool.decide_eq_true] at H6
              (exfalso; omega)
            simp only [Bool.and_eq_true, Bool.or_eq_true, Bool.not_eq_true', Bool.not_eq_false', Bool.and_eq_false_iff, Bool.or_eq_false_iff, Bool.not_not, decide_eq_true_eq, decide_eq_false_iff_not, ne_eq, Decidable.not_not, Bool.decide_eq_true] at H6
            refine G_seq (G_region ?_)
            refine G_val (V_assign rfl rfl) rfl rfl (.none rfl) ?_
            refine G_val (V_assign rfl rfl) rfl rfl (.none rfl) ?_
            refine G_end (X_then (G_ret (X_block_ret (X_block_ret (X_then_ret (X_then_ret (X_block_ret (X_then_ret ?_))))))))
            refine G_leaveS (.drop _ (.nil _)) (by exact (.cons (.tmp rfl) (.cons (.tmp rfl) (.nil)))) rfl ?_ ?_
            · exact hE4
            exact ⟨(by kernel_rfl), rfl⟩
    · have e3 : emptyM g r = (r.all (goodB false (nullM g)), 0) := by rw [e2, if_neg (by rw [any_none fun k hk => hall k (by omega) hk]; decide)]
      have e4 : r.take i = r := List.take_of_length_le (by omega)
      rw [e3, e4]
      refine G_seq (G_region ?_)
      refine G_val (V_lss rfl rfl rfl) rfl rfl (.none rfl) ?_
      refine G_end (X_then (G_seq ?_))
      refine G_cond_f rfl (decide_eq_false (by omega)) ?_
      refine G_exit (X_then_exit (X_then_exit (X_block_hit (X_then (G_seq (G_region ?_))))))
      refine G_val (V_move rfl rfl) rfl rfl (.none rfl) ?_
      refine G_val (V_assign rfl rfl) rfl rfl (.none rfl) ?_
      refine G_val (V_assign rfl rfl) rfl rfl (.none rfl) ?_
      refine G_end (X_then (G_ret ?_))
      refine G_leaveS (.drop _ (.nil _)) (by exact (.cons (.tmp rfl) (.cons (.tmp rfl) (.nil)))) rfl ?_ ?_
      · exact hE4
      exact ⟨rfl, rfl⟩
  · have e := okL_neg hv (nullM g)
    rw [emptyM, if_neg hv]
    refine G_seq (G_region ?_)
    (refine G_boxA rfl rfl rfl rfl (.none rfl) ?_; intro b2)
    refine G_val (V_assign rfl rfl) rfl rfl (.none rfl) ?_
    refine G_val (V_assign rfl rfl) rfl rfl (.none rfl) ?_
    refine G_end (X_then (G_seq (G_region ?_)))
    refine G_val (V_loadA rfl rfl (Cells.own (.head _)) rfl) rfl rfl (.none rfl) ?_
    refine G_call (k := 38) (.mk rfl rfl rfl rfl) rfl rfl (.none rfl) (Nullable_call _ _ _ _ (by assumption) (by assumption)) ?_
    rintro r1 E2 L3 hE4 ⟨z5, ⟨z6, ⟨rfl, ⟨Z7, rfl⟩⟩⟩⟩
    replace hr := hr.mono hE4
    replace hg0 := hg0.mono hE4
    replace ht := ht.mono hE4
    replace hn := hn.mono hE4
    replace hps := hps.mono hE4
    refine G_val (V_move rfl rfl) rfl rfl (.none rfl) ?_
    refine G_val (V_extract rfl rfl rfl) rfl rfl (.none rfl) ?_
    refine G_val (V_extract rfl rfl rfl) rfl rfl (.none rfl) ?_
    refine G_val (V_assign rfl rfl) rfl rfl (.none rfl) ?_
    refine G_val (V_assign rfl rfl) rfl rfl (.none rfl) ?_
    refine G_end (X_then (G_seq (G_seq (G_region ?_))))
    refine G_val (V_move rfl rfl) rfl rfl (.none rfl) ?_
    refine G_val (V_neq rfl rfl rfl) rfl rfl (.none rfl) ?_
    refine G_end (X_then ?_)
    refine G_cond_t rfl (decide_eq_true (by omega)) ?_
    refine G_seq (G_region ?_)
    refine G_val (V_move rfl rfl) rfl rfl (.none rfl) ?_
    refine G_val (V_assign rfl rfl) rfl rfl (.none rfl) ?_
    refine G_val (V_assign rfl rfl) rfl rfl (.none rfl) ?_
    refine G_end (X_then (G_ret (X_then_ret ?_)))
    refine G_leaveS (.drop _ (.nil _)) (by exact (.cons (.tmp rfl) (.cons (.tmp rfl) (.nil)))) rfl ?_ ?_
    · exact hE4
    exact ⟨rfl, rfl⟩
end
end Go.Proofs.Ytaoinojdijbhaaa
set_option linter.unusedSimpArgs false
set_option linter.unusedVariables false
set_option maxHeartbeats 2000000
set_option maxRecDepth 20000
namespace Go.Proofs.Ytaoinojdijbhaaa
open Go.RowKit
theorem bools_nB {E : Env} {p : Option Addr} {n : Nat} {l : List Bool} (h : SlE E 1 p n (bools l)) : n = l.length := by have := h.1; simp [bools] at this; exact this.symm
def unB : List Value → Option (List Bool)
  | [] => some []
  | .bool b :: l => (unB l).map (b :: ·)
  | _ :: _ => none
theorem unB_eq : ∀ (l : List Value) (xs : List Bool), unB l = some xs → l = bools xs := by
  intro l
  induction l with
  | nil => intro xs h; rw [← Option.some.inj h]; rfl
  | cons v l ih =>
    intro xs h
    cases v with
    | bool b =>
      obtain ⟨ys, h1, rfl⟩ := Option.map_eq_some_iff.1 h
      rw [ih ys h1]; rfl
    | _ => cases h
theorem SlE.toB {E : Env} {sz : Nat} {a : Option Addr} {n : Nat} {l : List Value} {xs : List Bool} (h : SlE E sz a n l) (e : unB l = some xs) : SlE E sz a n (bools xs) := by rw [← unB_eq l xs e]; exact h
def shownG (ps : List Pr) : Gr := ⟨1, [[97], [98]], [115], [[65], [66], [67]], 16, ps⟩
abbrev firstG : Gr := shownG [(16, [0, 17]), (17, [1]), (17, []), (18, [18, 0])]
abbrev secondG : Gr := shownG [(16, [17, 17]), (17, [18, 18]), (17, [0]), (18, [])]
abbrev thirdG : Gr := shownG [(16, [0]), (17, [1]), (18, [16])]
section
variable (E : Env) (L : List Res)
theorem same_call (p q : Option Addr) (n m c d : Nat) (xs ys : List Bool) (hx : SlE E 1 p n (bools xs)) (hy : SlE E 1 q m (bools ys)) (hn : n ≤ 9223372036854775806) (hm : m ≤ 9223372036854775806) :
    CallV Try.prog 35 #[.slice p n c, .slice q m d] E L (.bool (decide (xs = ys))) := by
  have e1 := bools_nB hx
  have e2 := bools_nB hy
  subst e1 e2
  refine CallS.toV (CallS.intro (l := [_, _]) _ Try.func35 rfl Try.ntmps35 rfl ?_)
  by_cases hlen : xs.length ≠ ys.length
  · have hne : xs ≠ ys := fun h => hlen (congrArg List.length h)
    refine G_seq (G_region ?_)
    refine G_val (V_assign rfl rfl) rfl rfl (.none rfl) ?_
    refine G_end (X_then (G_seq (G_seq (G_region ?_))))
    refine G_val (V_move rfl rfl) rfl rfl (.none rfl) ?_
    refine G_val (V_lenS rfl rfl) rfl rfl (.none rfl) ?_
    refine G_val (V_move rfl rfl) rfl rfl (.none rfl) ?_
    refine G_val (V_lenS rfl rfl) rfl rfl (.none rfl) ?_
    refine G_val (V_neq rfl rfl rfl) rfl rfl (.none rfl) ?_
    refine G_end (X_then ?_)
    refine G_cond_t rfl (decide_eq_true (by omega)) ?_
    refine G_seq (G_region ?_)
    refine G_val (V_assign rfl rfl) rfl rfl (.none rfl) ?_
    refine G_end (X_then (G_ret (X_then_ret ?_)))
    refine G_leaveS (.nil _) (by exact (.cons (.tmp rfl) (.nil))) rfl ?_ ?_
    · exact (.refl _)
    exact ⟨(by (simp [resVal, *]; done)), (by rfl)⟩
  refine G_seq (G_region ?_)
  refine G_val (V_assign rfl rfl) rfl rfl (.none rfl) ?_
  refine G_end (X_then (G_seq (G_seq (G_region ?_))))
  refine G_val (V_move rfl rfl) rfl rfl (.none rfl) ?_
  refine G_val (V_lenS rfl rfl) rfl rfl (.none rfl) ?_
  refine G_val (V_move rfl rfl) rfl rfl (.none rfl) ?_
  refine G_val (V_lenS rfl rfl) rfl rfl (.none rfl) ?_
  refine G_val (V_neq rfl rfl rfl) rfl rfl (.none rfl) ?_
  refine G_end (X_then ?_)
  refine G_cond_f rfl (decide_eq_false (by omega)) ?_
  refine G_skip (X_then (G_seq (G_seq (G_region ?_))))
  refine G_val (V_assign rfl rfl) rfl rfl (.none rfl) ?_
  refine G_end (X_then (G_block ?_))
  refine G_loop (α := Nat) (fun k => [(0, .slice p xs.length c), (1, .slice q ys.length d), (5, .int .i64 k)]) (fun _ => E) (fun _ => L)
    (fun k => k ≤ xs.length ∧ xs.take k = ys.take k) (fun k => xs.length - k) 0 ⟨Nat.zero_le _, by simp⟩ ⟨rfl, rfl, rfl, trivial⟩ rfl rfl ?_
  rintro k ⟨hk, hall⟩
  by_cases hlt : k < xs.length
  · have hlt' : k < ys.length := by omega
    have h1 := bools_at hlt
    have h2 := bools_at hlt'
    by_cases he : xs[k] = ys[k]
    · refine G_seq ?_
      refine G_seq (G_region ?_)
      refine G_val (V_move rfl rfl) rfl rfl (.none rfl) ?_
      refine G_val (V_move rfl rfl) rfl rfl (.none rfl) ?_
      refine G_val (V_lenS rfl rfl) rfl rfl (.none rfl) ?_
      refine G_val (V_lss rfl rfl rfl) rfl rfl (.none rfl) ?_
      refine G_end (X_then ?_)
      refine G_cond_t rfl (decide_eq_true (by omega)) ?_
      refine G_skip (X_then (G_seq (G_block (G_seq ?_))))
      refine G_draw mixed (by kernel_rfl) ?_
      refine Q_val (V_move rfl rfl) rfl rfl (.none rfl) ?_
      refine Q_val (V_move rfl rfl) rfl rfl (.none rfl) ?_
      refine Q_val (V_idxAddr rfl rfl rfl (SlE.rd (by assumption)) (by omega) (by omega)) rfl rfl (.none rfl) ?_
      refine Q_val (V_loadS rfl rfl (SlE.rd (by assumption)) (by assumption) (by simp)) rfl rfl (.none rfl) ?_
      refine Q_val (V_move rfl rfl) rfl rfl (.none rfl) ?_
      refine Q_val (V_move rfl rfl) rfl rfl (.none rfl) ?_
      refine Q_val (V_idxAddr rfl rfl rfl (SlE.rd (by assumption)) (by omega) (by omega)) rfl rfl (.none rfl) ?_
      refine Q_val (V_loadS rfl rfl (SlE.rd (by assumption)) (by assumption) (by simp)) rfl rfl (.none rfl) ?_
      refine Q_val (V_bneq rfl rfl rfl) rfl rfl (.none rfl) ?_
      refine Q_end ?_
      refine X_then ?_
      refine G_cond_f rfl (by simp [*]; done) ?_
      refine G_skip (X_block (X_then (G_region ?_)))
      refine G_val (V_move rfl rfl) rfl rfl (.none rfl) ?_
      refine G_val (V_add_i64 rfl rfl rfl (by omega) (by omega)) rfl rfl (.none rfl) ?_
      refine G_val (V_assign rfl rfl) rfl rfl (.none rfl) ?_
      refine G_end (X_then ?_)
      exact G_again (k + 1) ⟨hlt, take_next hall hlt hlt' he⟩ (by omega) ⟨rfl, rfl, rfl, trivial⟩ rfl rfl
    · have hne : xs ≠ ys := fun h => he (by subst h; rfl)
      refine G_seq (G_seq (G_region ?_))
      refine G_val (V_move rfl rfl) rfl rfl (.none rfl) ?_
      refine G_val (V_move rfl rfl) rfl rfl (.none rfl) ?_
      refine G_val (V_lenS rfl rfl) rfl rfl (.none rfl) ?_
      refine G_val (V_lss rfl rfl rfl) rfl rfl (.none rfl) ?_
      refine G_end (X_then ?_)
      refine G_cond_t rfl (decide_eq_true (by omega)) ?_
      refine G_skip (X_then (G_seq (G_block (G_seq ?_))))
      refine G_draw mixed (by kernel_rfl) ?_
      refine Q_val (V_move rfl rfl) rfl rfl (.none rfl) ?_
      refine Q_val (V_move rfl rfl) rfl rfl (.none rfl) ?_
      refine Q_val (V_idxAddr rfl rfl rfl (SlE.rd (by assumption)) (by omega) (by omega)) rfl rfl (.none rfl) ?_
      refine Q_val (V_loadS rfl rfl (SlE.rd (by assumption)) (by assumption) (by simp)) rfl rfl (.none rfl) ?_
      refine Q_val (V_move rfl rfl) rfl rfl (.none rfl) ?_
      refine Q_val (V_move rfl rfl) rfl rfl (.none rfl) ?_
      refine Q_val (V_idxAddr rfl rfl rfl (SlE.rd (by assumption)) (by omega) (by omega)) rfl rfl (.none rfl) ?_
      refine Q_val (V_loadS rfl rfl (SlE.rd (by assumption)) (by assumption) (by simp)) rfl rfl (.none rfl) ?_
      refine Q_val (V_bneq rfl rfl rfl) rfl rfl (.none rfl) ?_
      refine Q_end ?_
      refine X_then ?_
      refine G_cond_t rfl (decide_eq_true (by omega)) ?_
      refine G_seq (G_region ?_)
      refine G_val (V_assign rfl rfl) rfl rfl (.none rfl) ?_
      refine G_end (X_then (G_ret (X_block_ret (X_then_ret (X_then_ret (X_block_ret (X_then_ret ?_)))))))
      refine G_leaveS (.nil _) (by exact (.cons (.tmp rfl) (.nil))) rfl ?_ ?_
      · exact (.refl _)
      exact ⟨(by (simp [resVal, *]; done)), (by rfl)⟩
  · have heq : xs = ys := by rw [List.take_of_length_le (by omega), List.take_of_length_le (by omega)] at hall; exact hall
    refine G_seq (G_seq (G_region ?_))
    refine G_val (V_move rfl rfl) rfl rfl (.none rfl) ?_
    refine G_val (V_move rfl rfl) rfl rfl (.none rfl) ?_
    refine G_val (V_lenS rfl rfl) rfl rfl (.none rfl) ?_
    refine G_val (V_lss rfl rfl rfl) rfl rfl (.none rfl) ?_
    refine G_end (X_then ?_)
    refine G_cond_f rfl (decide_eq_false (by omega)) ?_
    refine G_exit (X_then_exit (X_then_exit (X_block_hit (X_then (G_seq (G_region ?_))))))
    refine G_val (V_assign rfl rfl) rfl rfl (.none rfl) ?_
    refine G_end (X_then (G_ret ?_))
    refine G_leaveS (.nil _) (by exact (.cons (.tmp rfl) (.nil))) rfl ?_ ?_
    · exact (.refl _)
    exact ⟨(by (simp [resVal, *]; done)), (by rfl)⟩
theorem p_call (l : Int) (a : Option Addr) (n c : Nat) : CallV Try.prog 90 #[.int .i64 l, .slice a n c] E L (.agg #[.int .i64 l, .slice a n c]) := by
  refine CallS.toV (CallS.intro (l := [_, _]) _ Try.func90 rfl Try.ntmps90 rfl ?_)
  refine G_seq (G_region ?_)
  (refine G_alloc rfl rfl rfl (.none rfl) ?_; intro b4)
  refine G_end (X_then (G_seq (G_region ?_)))
  refine G_val (V_move rfl rfl) rfl rfl (.none rfl) ?_
  refine G_val (V_move rfl rfl) rfl rfl (.none rfl) ?_
  refine G_val (V_build rfl rfl (by simp [fillV, setLs, setL, Value.cells]; rfl)) rfl rfl (.none rfl) ?_
  refine G_storeA rfl rfl rfl rfl (by simp [Value.oneCell']) rfl (.none rfl) (.head _ _ _) rfl ?_
  refine G_end (X_then (G_ret ?_))
  refine G_leaveS (.drop _ (.nil _)) (by exact (.cons (.cellA rfl (Cells.own (.head _)) rfl) (.nil))) rfl ?_ ?_
  · exact (.refl _)
  exact ⟨rfl, rfl⟩
theorem shown_own (pp : Option Addr) (n pc : Nat) : CallS Try.prog 89 #[.slice pp n pc] E L (fun r E' L' => ∃ b3 b4, r = .agg #[.int .i64 1, .slice (some ⟨b3, 0, none⟩) 2 2, .string (S [115]), .slice (some ⟨b4, 0, none⟩) 3 3, .int .i64 16, .slice pp n pc] ∧ E = E' ∧
    L' = .blk b4 (.cells #[.string (S [65]), .string (S [66]), .string (S [67])] 9 (0, 0)) :: .blk b3 (.cells #[.string (S [97]), .string (S [98])] 9 (0, 0)) :: L) := by
  refine CallS.intro (l := [_]) _ Try.func89 rfl Try.ntmps89 rfl ?_
  refine G_seq (G_region ?_)
  (refine G_alloc rfl rfl rfl (.none rfl) ?_; intro b2)
  refine G_end (X_then (G_seq (G_region ?_)))
  (refine G_lit2 rfl rfl rfl rfl rfl rfl rfl (.none rfl) ?_; intro b3)
  (refine G_lit rfl rfl (by decide) (by simp [fillS, zeros, setLs, setL, Value.cells, List.range, List.range.loop]; rfl) rfl rfl (.none rfl) ?_; intro b4)
  refine G_val (V_move rfl rfl) rfl rfl (.none rfl) ?_
  refine G_val (V_build rfl rfl (by simp [fillV, setLs, setL, Value.cells]; rfl)) rfl rfl (.none rfl) ?_
  refine G_storeA rfl rfl rfl rfl (by simp [Value.oneCell']) rfl (.none rfl) (.tail _ (.tail _ (.head _ _ _))) rfl ?_
  refine G_end (X_then (G_ret ?_))
  refine G_leaveS (.keep _ (.keep _ (.drop _ (.nil _)))) (by exact (.cons (.cellA rfl (Cells.own (.tail _ (.tail _ (.head _)))) rfl) (.nil))) rfl ?_ ?_
  · exact (.refl _)
  exact ⟨_, ⟨_, ⟨rfl, ⟨rfl, rfl⟩⟩⟩⟩
theorem shown_own' (pp : Option Addr) (n pc : Nat) (ps : List Pr) (h : PsE E pp n ps) (hc : n ≤ pc) : CallS Try.prog 89 #[.slice pp n pc] E L (fun r E' L' => GrE E' r (shownG ps) ∧ L' = L) :=
  fun w hw => (shown_own E L pp n pc w hw).mono fun _ _ ⟨r, E', L', he, hE, hs, b3, b4, hr, _, hL⟩ => by
    subst hL hr
    obtain ⟨E2, hE2, hs2, hok2⟩ := hs.freeze
    obtain ⟨E3, hE3, hs3, hok3⟩ := hs2.freeze
    have e1 := h.len
    subst e1
    refine ⟨_, E3, L, he, (hE.trans hE2).trans hE3, hs3, ?_, rfl⟩
    exact GrE.mk (g := shownG ps) (SlE.lit (l := strs [[97], [98]]) hok3 rfl) ((SlE.lit (l := strs [[65], [66], [67]]) hok2 rfl).mono hE3) (h.mono ((hE.trans hE2).trans hE3)) (Nat.le_refl _) (Nat.le_refl _) hc
theorem first_call : CallS Try.prog 50 #[] E L (fun r E' L' => GrE E' r firstG ∧ L' = L) := by
  refine CallS.intro (l := []) _ Try.func50 rfl Try.ntmps50 rfl ?_
  refine G_seq (G_region ?_)
  (refine G_alloc rfl rfl rfl (.none rfl) ?_; intro b0)
  refine G_end (X_then (G_seq (G_region ?_)))
  (refine G_litZ rfl rfl (by decide) (by simp [fillS, zeros, setLs, setL, Value.cells, List.range, List.range.loop]; rfl) (by rfl) rfl rfl (.none rfl) ?_; intro b1 E1 hE1 hs1)
  refine G_callv (k := 90) (.mk rfl rfl rfl rfl) rfl rfl (.none rfl) (p_call _ _ _ _ _ _) ?_
  (refine G_litZ rfl rfl (by decide) (by simp [fillS, zeros, setLs, setL, Value.cells, List.range, List.range.loop]; rfl) (by rfl) rfl rfl (.none rfl) ?_; intro b3 E3 hE3 hs3)
  replace hs1 := hs1.mono hE3
  refine G_callv (k := 90) (.mk rfl rfl rfl rfl) rfl rfl (.none rfl) (p_call _ _ _ _ _ _) ?_
  refine G_callv (k := 90) (.mk rfl rfl rfl rfl) rfl rfl (.none rfl) (p_call _ _ _ _ _ _) ?_
  (refine G_litZ rfl rfl (by decide) (by simp [fillS, zeros, setLs, setL, Value.cells, List.range, List.range.loop]; rfl) (by rfl) rfl rfl (.none rfl) ?_; intro b6 E6 hE6 hs6)
  replace hs3 := hs3.mono hE6
  replace hs1 := hs1.mono hE6
  refine G_callv (k := 90) (.mk rfl rfl rfl rfl) rfl rfl (.none rfl) (p_call _ _ _ _ _ _) ?_
  (refine G_litZ rfl rfl (by decide) (by simp [fillS, zeros, setLs, setL, Value.cells, List.range, List.range.loop]; rfl) (by rfl) rfl rfl (.none rfl) ?_; intro b8 E8 hE8 hs8)
  replace hs6 := hs6.mono hE8
  replace hs3 := hs3.mono hE8
  replace hs1 := hs1.mono hE8
  have hps : PsE E8 (some ⟨b8, 0, none⟩) 4 [(16, [0, 17]), (17, [1]), (17, []), (18, [18, 0])] := by
    refine ⟨[(some ⟨b1, 0, none⟩, 2, (16, [0, 17])), (some ⟨b3, 0, none⟩, 1, (17, [1])), (none, 0, (17, [])), (some ⟨b6, 0, none⟩, 2, (18, [18, 0]))], rfl, hs8, fun r hr => ?_⟩
    simp only [List.mem_cons, List.not_mem_nil, or_false] at hr
    rcases hr with rfl | rfl | rfl | rfl <;> first | assumption | exact SlE.nil
  refine G_call (k := 89) (.mk rfl rfl rfl rfl) rfl rfl (.none rfl) (shown_own' _ _ _ _ _ _ (by assumption) (by omega)) ?_
  rintro r1 E2 L3 hE4 ⟨Z5, rfl⟩
  replace hs8 := hs8.mono hE4
  replace hs6 := hs6.mono hE4
  replace hs3 := hs3.mono hE4
  replace hs1 := hs1.mono hE4
  replace hps := hps.mono hE4
  have hgr : GrE E2 r1 firstG := by assumption
  have hg0 := hgr
  obtain ⟨tp, tc, np, nc, pp, pc, rfl, _⟩ := hgr
  refine G_storeA rfl rfl rfl rfl (by simp [Value.oneCell']) rfl (.none rfl) (.head _ _ _) rfl ?_
  refine G_end (X_then (G_ret ?_))
  refine G_leaveS (.drop _ (.nil _)) (by exact (.cons (.cellA rfl (Cells.own (.head _)) rfl) (.nil))) rfl ?_ ?_
  · exact ((((hE1.trans hE3).trans hE6).trans hE8).trans hE4)
  exact ⟨(by assumption), rfl⟩
theorem second_call : CallS Try.prog 51 #[] E L (fun r E' L' => GrE E' r secondG ∧ L' = L) := by
  refine CallS.intro (l := []) _ Try.func51 rfl Try.ntmps51 rfl ?_
  refine G_seq (G_region ?_)
  (refine G_alloc rfl rfl rfl (.none rfl) ?_; intro b0)
  refine G_end (X_then (G_seq (G_region ?_)))
  (refine G_litZ rfl rfl (by decide) (by simp [fillS, zeros, setLs, setL, Value.cells, List.range, List.range.loop]; rfl) (by rfl) rfl rfl (.none rfl) ?_; intro b1 E1 hE1 hs1)
  refine G_callv (k := 90) (.mk rfl rfl rfl rfl) rfl rfl (.none rfl) (p_call _ _ _ _ _ _) ?_
  (refine G_litZ rfl rfl (by decide) (by simp [fillS, zeros, setLs, setL, Value.cells, List.range, List.range.loop]; rfl) (by rfl) rfl rfl (.none rfl) ?_; intro b3 E3 hE3 hs3)
  replace hs1 := hs1.mono hE3
  refine G_callv (k := 90) (.mk rfl rfl rfl rfl) rfl rfl (.none rfl) (p_call _ _ _ _ _ _) ?_
  (refine G_litZ rfl rfl (by decide) (by simp [fillS, zeros, setLs, setL, Value.cells, List.range, List.range.loop]; rfl) (by rfl) rfl rfl (.none rfl) ?_; intro b5 E5 hE5 hs5)
  replace hs3 := hs3.mono hE5
  replace hs1 := hs1.mono hE5
  refine G_callv (k := 90) (.mk rfl rfl rfl rfl) rfl rfl (.none rfl) (p_call _ _ _ _ _ _) ?_
  refine G_callv (k := 90) (.mk rfl rfl rfl rfl) rfl rfl (.none rfl) (p_call _ _ _ _ _ _) ?_
  (refine G_litZ rfl rfl (by decide) (by simp [fillS, zeros, setLs, setL, Value.cells, List.range, List.range.loop]; rfl) (by rfl) rfl rfl (.none rfl) ?_; intro b8 E8 hE8 hs8)
  replace hs5 := hs5.mono hE8
  replace hs3 := hs3.mono hE8
  replace hs1 := hs1.mono hE8
  have hps : PsE E8 (some ⟨b8, 0, none⟩) 4 [(16, [17, 17]), (17, [18, 18]), (17, [0]), (18, [])] := by
    refine ⟨[(some ⟨b1, 0, none⟩, 2, (16, [17, 17])), (some ⟨b3, 0, none⟩, 2, (17, [18, 18])), (some ⟨b5, 0, none⟩, 1, (17, [0])), (none, 0, (18, []))], rfl, hs8, fun r hr => ?_⟩
    simp only [List.mem_cons, List.not_mem_nil, or_false] at hr
    rcases hr with rfl | rfl | rfl | rfl <;> first | assumption | exact SlE.nil
  refine G_call (k := 89) (.mk rfl rfl rfl rfl) rfl rfl (.none rfl) (shown_own' _ _ _ _ _ _ (by assumption) (by omega)) ?_
  rintro r1 E2 L3 hE4 ⟨Z5, rfl⟩
  replace hs8 := hs8.mono hE4
  replace hs5 := hs5.mono hE4
  replace hs3 := hs3.mono hE4
  replace hs1 := hs1.mono hE4
  replace hps := hps.mono hE4
  have hgr : GrE E2 r1 secondG := by assumption
  have hg0 := hgr
  obtain ⟨tp, tc, np, nc, pp, pc, rfl, _⟩ := hgr
  refine G_storeA rfl rfl rfl rfl (by simp [Value.oneCell']) rfl (.none rfl) (.head _ _ _) rfl ?_
  refine G_end (X_then (G_ret ?_))
  refine G_leaveS (.drop _ (.nil _)) (by exact (.cons (.cellA rfl (Cells.own (.head _)) rfl) (.nil))) rfl ?_ ?_
  · exact ((((hE1.trans hE3).trans hE5).trans hE8).trans hE4)
  exact ⟨(by assumption), rfl⟩
theorem third_call : CallS Try.prog 52 #[] E L (fun r E' L' => GrE E' r thirdG ∧ L' = L) := by
  refine CallS.intro (l := []) _ Try.func52 rfl Try.ntmps52 rfl ?_
  refine G_seq (G_region ?_)
  (refine G_alloc rfl rfl rfl (.none rfl) ?_; intro b0)
  refine G_end (X_then (G_seq (G_region ?_)))
  (refine G_litZ rfl rfl (by decide) (by simp [fillS, zeros, setLs, setL, Value.cells, List.range, List.range.loop]; rfl) (by rfl) rfl rfl (.none rfl) ?_; intro b1 E1 hE1 hs1)
  refine G_callv (k := 90) (.mk rfl rfl rfl rfl) rfl rfl (.none rfl) (p_call _ _ _ _ _ _) ?_
  (refine G_litZ rfl rfl (by decide) (by simp [fillS, zeros, setLs, setL, Value.cells, List.range, List.range.loop]; rfl) (by rfl) rfl rfl (.none rfl) ?_; intro b3 E3 hE3 hs3)
  replace hs1 := hs1.mono hE3
  refine G_callv (k := 90) (.mk rfl rfl rfl rfl) rfl rfl (.none rfl) (p_call _ _ _ _ _ _) ?_
  (refine G_litZ rfl rfl (by decide) (by simp [fillS, zeros, setLs, setL, Value.cells, List.range, List.range.loop]; rfl) (by rfl) rfl rfl (.none rfl) ?_; intro b5 E5 hE5 hs5)
  replace hs3 := hs3.mono hE5
  replace hs1 := hs1.mono hE5
  refine G_callv (k := 90) (.mk rfl rfl rfl rfl) rfl rfl (.none rfl) (p_call _ _ _ _ _ _) ?_
  (refine G_litZ rfl rfl (by decide) (by simp [fillS, zeros, setLs, setL, Value.cells, List.range, List.range.loop]; rfl) (by rfl) rfl rfl (.none rfl) ?_; intro b7 E7 hE7 hs7)
  replace hs5 := hs5.mono hE7
  replace hs3 := hs3.mono hE7
  replace hs1 := hs1.mono hE7
  have hps : PsE E7 (some ⟨b7, 0, none⟩) 3 [(16, [0]), (17, [1]), (18, [16])] := by
    refine ⟨[(some ⟨b1, 0, none⟩, 1, (16, [0])), (some ⟨b3, 0, none⟩, 1, (17, [1])), (some ⟨b5, 0, none⟩, 1, (18, [16]))], rfl, hs7, fun r hr => ?_⟩
    simp only [List.mem_cons, List.not_mem_nil, or_false] at hr
    rcases hr with rfl | rfl | rfl <;> first | assumption | exact SlE.nil
  refine G_call (k := 89) (.mk rfl rfl rfl rfl) rfl rfl (.none rfl) (shown_own' _ _ _ _ _ _ (by assumption) (by omega)) ?_
  rintro r1 E2 L3 hE4 ⟨Z5, rfl⟩
  replace hs7 := hs7.mono hE4
  replace hs5 := hs5.mono hE4
  replace hs3 := hs3.mono hE4
  replace hs1 := hs1.mono hE4
  replace hps := hps.mono hE4
  have hgr : GrE E2 r1 thirdG := by assumption
  have hg0 := hgr
  obtain ⟨tp, tc, np, nc, pp, pc, rfl, _⟩ := hgr
  refine G_storeA rfl rfl rfl rfl (by simp [Value.oneCell']) rfl (.none rfl) (.head _ _ _) rfl ?_
  refine G_end (X_then (G_ret ?_))
  refine G_leaveS (.drop _ (.nil _)) (by exact (.cons (.cellA rfl (Cells.own (.head _)) rfl) (.nil))) rfl ?_ ?_
  · exact ((((hE1.trans hE3).trans hE5).trans hE7).trans hE4)
  exact ⟨(by assumption), rfl⟩
end
end Go.Proofs.Ytaoinojdijbhaaa
set_option linter.unusedSimpArgs false
set_option linter.unusedVariables false
set_option maxHeartbeats 2000000
set_option maxRecDepth 20000
namespace Go.Proofs.Ytaoinojdijbhaaa
open Go.RowKit
theorem firstL : Light firstG := lightB_iff.1 (by decide)
theorem secondL : Light secondG := lightB_iff.1 (by decide)
theorem thirdL : Light thirdG := lightB_iff.1 (by decide)
theorem firstC : gcheck firstG = 0 := by kernel_rfl
theorem secondC : gcheck secondG = 0 := by kernel_rfl
theorem thirdC : gcheck thirdG = 0 := by kernel_rfl
theorem first_yields : yieldsM firstG = [true, true, false] := by kernel_rfl
theorem second_trees : treesM secondG = [7, 3, 1] := by kernel_rfl
theorem third_red : redM thirdG = (1, 15) := by kernel_rfl
section
variable (E : Env) (L : List Res)
theorem awake_call : CallV Try.prog 31 #[] E L (.bool true) := by
  refine CallS.toV (CallS.intro (l := []) _ Try.func31 rfl Try.ntmps31 rfl ?_)
  have l1 := firstL
  have l2 := secondL
  have l3 := thirdL
  have c1 := firstC
  have c2 := secondC
  have c3 := thirdC
  have e1 : okL firstG (yieldsM firstG) = [true, true, false] := by rw [okL_pos c1, first_yields]
  have e2 : okL secondG (treesM secondG) = [7, 3, 1] := by rw [okL_pos c2, second_trees]
  have e3 := third_red
  have e31 : (redM thirdG).1 = 1 := by rw [e3]
  have e32 : (redM thirdG).2 = 15 := by rw [e3]
  have n1 : (okL firstG (yieldsM firstG)).length = 3 := by rw [e1]; rfl
  have n2 : (okL secondG (treesM secondG)).length = 3 := by rw [e2]; rfl
  refine G_seq (G_region ?_)
  refine G_val (V_assign rfl rfl) rfl rfl (.none rfl) ?_
  refine G_end (X_then (G_seq (G_region ?_)))
  refine G_call (k := 50) (.mk rfl rfl rfl rfl) rfl rfl (.none rfl) (first_call _ _) ?_
  rintro r1 E2 L3 hE4 ⟨Z5, rfl⟩
  refine G_call (k := 33) (.mk rfl rfl rfl rfl) rfl rfl (.none rfl) (Yields_call _ _ _ _ (by assumption) (by assumption)) ?_
  rintro r6 E7 L8 hE9 ⟨z10, ⟨z11, ⟨rfl, ⟨Z12, rfl⟩⟩⟩⟩
  replace Z5 := Z5.mono hE9
  refine G_val (V_move rfl rfl) rfl rfl (.none rfl) ?_
  refine G_val (V_extract rfl rfl rfl) rfl rfl (.none rfl) ?_
  refine G_val (V_extract rfl rfl rfl) rfl rfl (.none rfl) ?_
  refine G_val (V_assign rfl rfl) rfl rfl (.none rfl) ?_
  refine G_val (V_assign rfl rfl) rfl rfl (.none rfl) ?_
  refine G_end (X_then (G_seq (G_region ?_)))
  refine G_call (k := 51) (.mk rfl rfl rfl rfl) rfl rfl (.none rfl) (second_call _ _) ?_
  rintro r13 E14 L15 hE16 ⟨Z17, rfl⟩
  replace Z12 := Z12.mono hE16
  replace Z5 := Z5.mono hE16
  refine G_call (k := 42) (.mk rfl rfl rfl rfl) rfl rfl (.none rfl) (Trees_call _ _ _ _ (by assumption) (by assumption)) ?_
  rintro r18 E19 L20 hE21 ⟨z22, ⟨z23, ⟨rfl, ⟨Z24, rfl⟩⟩⟩⟩
  replace Z17 := Z17.mono hE21
  replace Z12 := Z12.mono hE21
  replace Z5 := Z5.mono hE21
  refine G_val (V_move rfl rfl) rfl rfl (.none rfl) ?_
  refine G_val (V_extract rfl rfl rfl) rfl rfl (.none rfl) ?_
  refine G_val (V_extract rfl rfl rfl) rfl rfl (.none rfl) ?_
  refine G_val (V_assign rfl rfl) rfl rfl (.none rfl) ?_
  refine G_val (V_assign rfl rfl) rfl rfl (.none rfl) ?_
  refine G_end (X_then (G_seq (G_region ?_)))
  refine G_call (k := 52) (.mk rfl rfl rfl rfl) rfl rfl (.none rfl) (third_call _ _) ?_
  rintro r25 E26 L27 hE28 ⟨Z29, rfl⟩
  replace Z24 := Z24.mono hE28
  replace Z17 := Z17.mono hE28
  replace Z12 := Z12.mono hE28
  replace Z5 := Z5.mono hE28
  refine G_callv (k := 44) (.mk rfl rfl rfl rfl) rfl rfl (.none rfl) (Reduced_call _ _ _ _ (by assumption) (by assumption)) ?_
  refine G_val (V_move rfl rfl) rfl rfl (.none rfl) ?_
  refine G_val (V_extract rfl rfl rfl) rfl rfl (.none rfl) ?_
  refine G_val (V_extract rfl rfl rfl) rfl rfl (.none rfl) ?_
  refine G_val (V_assign rfl rfl) rfl rfl (.none rfl) ?_
  refine G_val (V_assign rfl rfl) rfl rfl (.none rfl) ?_
  refine G_end (X_then (G_seq (G_region ?_)))
  refine G_val (V_move rfl rfl) rfl rfl (.none rfl) ?_
  refine G_val (V_eql rfl rfl rfl) rfl rfl (.none rfl) ?_
  refine G_val (V_move rfl rfl) rfl rfl (.none rfl) ?_
  refine G.bool_t 24 rfl (by kernel_rfl) ?_
  refine G_val (V_move rfl rfl) rfl rfl (.yes rfl rfl rfl rfl) ?_
  (refine G_litZ rfl rfl (by decide) (by simp [fillS, zeros, setLs, setL, Value.cells, List.range, List.range.loop]; rfl) (by rfl) rfl rfl (.yes rfl rfl rfl rfl) ?_; intro b26 E26 hE26 hs26)
  replace Z29 := Z29.mono hE26
  replace Z24 := Z24.mono hE26
  replace Z17 := Z17.mono hE26
  replace Z12 := Z12.mono hE26
  replace Z5 := Z5.mono hE26
  refine G_callv (k := 35) (.mk rfl rfl rfl rfl) rfl rfl (.yes rfl rfl rfl rfl) (same_call _ _ _ _ _ _ _ _ _ _ (by assumption) (by exact SlE.toB (by assumption) rfl) (by omega) (by omega)) ?_
  refine G_val (V_pick_t rfl rfl rfl) rfl rfl (.none rfl) ?_
  refine G_val (V_move rfl rfl) rfl rfl (.none rfl) ?_
  refine G.bool_t 29 rfl (by kernel_rfl) ?_
  refine G_val (V_move rfl rfl) rfl rfl (.yes rfl rfl rfl rfl) ?_
  refine G_val (V_eql rfl rfl rfl) rfl rfl (.yes rfl rfl rfl rfl) ?_
  refine G_val (V_pick_t rfl rfl rfl) rfl rfl (.none rfl) ?_
  refine G_val (V_move rfl rfl) rfl rfl (.none rfl) ?_
  refine G.bool_t 33 rfl (by kernel_rfl) ?_
  refine G_val (V_move rfl rfl) rfl rfl (.yes rfl rfl rfl rfl) ?_
  (refine G_litZ rfl rfl (by decide) (by simp [fillS, zeros, setLs, setL, Value.cells, List.range, List.range.loop]; rfl) (by rfl) rfl rfl (.yes rfl rfl rfl rfl) ?_; intro b35 E35 hE35 hs35)
  replace hs26 := hs26.mono hE35
  replace Z29 := Z29.mono hE35
  replace Z24 := Z24.mono hE35
  replace Z17 := Z17.mono hE35
  replace Z12 := Z12.mono hE35
  replace Z5 := Z5.mono hE35
  refine G_callv (k := 27) (.mk rfl rfl rfl rfl) rfl rfl (.yes rfl rfl rfl rfl) (SameInts_call' _ _ _ _ _ _ _ _ _ _ (by assumption) (by exact SlE.toI (by assumption) rfl) (by omega) (by omega)) ?_
  refine G_val (V_pick_t rfl rfl rfl) rfl rfl (.none rfl) ?_
  refine G_val (V_move rfl rfl) rfl rfl (.none rfl) ?_
  refine G.bool_t 38 rfl (by kernel_rfl) ?_
  refine G_val (V_move rfl rfl) rfl rfl (.yes rfl rfl rfl rfl) ?_
  refine G_val (V_eql rfl rfl rfl) rfl rfl (.yes rfl rfl rfl rfl) ?_
  refine G_val (V_pick_t rfl rfl rfl) rfl rfl (.none rfl) ?_
  refine G_val (V_move rfl rfl) rfl rfl (.none rfl) ?_
  refine G.bool_t 42 rfl (by kernel_rfl) ?_
  refine G_val (V_move rfl rfl) rfl rfl (.yes rfl rfl rfl rfl) ?_
  refine G_val (V_eql rfl rfl rfl) rfl rfl (.yes rfl rfl rfl rfl) ?_
  refine G_val (V_pick_t rfl rfl rfl) rfl rfl (.none rfl) ?_
  refine G_val (V_assign rfl rfl) rfl rfl (.none rfl) ?_
  refine G_end (X_then (G_ret ?_))
  refine G_leaveS (.nil _) (by exact (.cons (.tmp rfl) (.nil))) rfl ?_ ?_
  · exact ((((((hE4.trans hE9).trans hE16).trans hE21).trans hE28).trans hE26).trans hE35)
  exact ⟨(by kernel_rfl), rfl⟩
end
end Go.Proofs.Ytaoinojdijbhaaa
set_option linter.unusedSimpArgs false
set_option linter.unusedVariables false
set_option maxHeartbeats 2000000
set_option maxRecDepth 20000
namespace Go.Proofs.Ytaoinojdijbhaaa
open Go.RowKit
theorem first_reachM : reachM firstG = [true, true, false] := by kernel_rfl
theorem first_nullM : nullM firstG = [false, true, false] := by kernel_rfl
theorem first_lengthsM : lengthsM firstG = [1, 0, -1] := by kernel_rfl
theorem first_treesM : treesM firstG = [0, 1, 0] := by kernel_rfl
theorem second_nullM : nullM secondG = [true, true, true] := by kernel_rfl
theorem second_lengthsM : lengthsM secondG = [0, 0, 0] := by kernel_rfl
theorem first_red : redM firstG = (2, 16) := by kernel_rfl
theorem second_red : redM secondG = (0, 0) := by kernel_rfl
theorem empty1 : emptyM secondG [17, 18] = (true, 0) := by kernel_rfl
theorem empty2 : emptyM secondG [17, 0] = (false, 0) := by kernel_rfl
theorem empty3 : emptyM secondG [] = (true, 0) := by kernel_rfl
theorem empty4 : emptyM secondG [9] = (false, 14) := by kernel_rfl
theorem third_belowE : belowE thirdG 2 = 0 := by kernel_rfl
theorem third_belowM : belowL thirdG 2 = [true, false, true] := by kernel_rfl
section
variable (E : Env) (L : List Res)
theorem empty_call (rp : Option Addr) (n rc : Nat) (r : List Int) (hr : SlE E 1 rp n (i64s r)) (h12 : n ≤ 1000) (hri : ∀ s, s ∈ r → -9223372036854775808 ≤ s ∧ s ≤ 9223372036854775807) :
    CallV Try.prog 53 #[.slice rp n rc] E L (.tuple #[.bool (emptyM secondG r).1, .int .i64 (emptyM secondG r).2]) := by
  have e1 := hr.nI
  subst e1
  have l2 := secondL
  refine CallS.toV (CallS.intro (l := [.slice rp r.length rc]) _ Try.func53 rfl Try.ntmps53 rfl ?_)
  refine G_seq (G_region ?_)
  refine G_val (V_assign rfl rfl) rfl rfl (.none rfl) ?_
  refine G_val (V_assign rfl rfl) rfl rfl (.none rfl) ?_
  refine G_end (X_then (G_seq (G_region ?_)))
  refine G_call (k := 51) (.mk rfl rfl rfl rfl) rfl rfl (.none rfl) (second_call _ _) ?_
  rintro r1 E2 L3 hE4 ⟨Z5, rfl⟩
  replace hr := hr.mono hE4
  refine G_val (V_move rfl rfl) rfl rfl (.none rfl) ?_
  refine G_callv (k := 46) (.mk rfl rfl rfl rfl) rfl rfl (.none rfl) (Empty_call _ _ _ _ (by assumption) (by assumption) _ _ _ (by assumption) (by assumption) (by assumption)) ?_
  refine G_val (V_extract rfl rfl rfl) rfl rfl (.none rfl) ?_
  refine G_val (V_extract rfl rfl rfl) rfl rfl (.none rfl) ?_
  refine G_val (V_assign rfl rfl) rfl rfl (.none rfl) ?_
  refine G_val (V_assign rfl rfl) rfl rfl (.none rfl) ?_
  refine G_end (X_then (G_ret ?_))
  refine G_leaveS (.nil _) (by exact (.cons (.tmp rfl) (.cons (.tmp rfl) (.nil)))) rfl ?_ ?_
  · exact hE4
  exact ⟨rfl, rfl⟩
theorem Known_call : CallV Try.prog 6 #[] E L (.bool true) := by
  refine CallS.toV (CallS.intro (l := []) _ Try.func6 rfl Try.ntmps6 rfl ?_)
  have hnil : SlE E 1 none 0 (i64s []) := SlE.nil
  have l1 := firstL
  have l2 := secondL
  have l3 := thirdL
  have c1 := firstC
  have c2 := secondC
  have c3 := thirdC
  have f1 : okL firstG (reachM firstG) = [true, true, false] := by rw [okL_pos c1, first_reachM]
  have g1 : (okL firstG (reachM firstG)).length = 3 := by rw [f1]; rfl
  have f2 : okL firstG (nullM firstG) = [false, true, false] := by rw [okL_pos c1, first_nullM]
  have g2 : (okL firstG (nullM firstG)).length = 3 := by rw [f2]; rfl
  have f3 : okL firstG (lengthsM firstG) = [1, 0, -1] := by rw [okL_pos c1, first_lengthsM]
  have g3 : (okL firstG (lengthsM firstG)).length = 3 := by rw [f3]; rfl
  have f4 : okL firstG (treesM firstG) = [0, 1, 0] := by rw [okL_pos c1, first_treesM]
  have g4 : (okL firstG (treesM firstG)).length = 3 := by rw [f4]; rfl
  have f5 : okL secondG (nullM secondG) = [true, true, true] := by rw [okL_pos c2, second_nullM]
  have g5 : (okL secondG (nullM secondG)).length = 3 := by rw [f5]; rfl
  have f6 : okL secondG (lengthsM secondG) = [0, 0, 0] := by rw [okL_pos c2, second_lengthsM]
  have g6 : (okL secondG (lengthsM secondG)).length = 3 := by rw [f6]; rfl
  have pfirst_red : (redM firstG).1 = 2 := by rw [first_red]
  have qfirst_red : (redM firstG).2 = 16 := by rw [first_red]
  have psecond_red : (redM secondG).1 = 0 := by rw [second_red]
  have qsecond_red : (redM secondG).2 = 0 := by rw [second_red]
  have pempty1 : (emptyM secondG [17, 18]).1 = true := by rw [empty1]
  have qempty1 : (emptyM secondG [17, 18]).2 = 0 := by rw [empty1]
  have pempty2 : (emptyM secondG [17, 0]).1 = false := by rw [empty2]
  have qempty2 : (emptyM secondG [17, 0]).2 = 0 := by rw [empty2]
  have pempty3 : (emptyM secondG []).1 = true := by rw [empty3]
  have qempty3 : (emptyM secondG []).2 = 0 := by rw [empty3]
  have pempty4 : (emptyM secondG [9]).1 = false := by rw [empty4]
  have qempty4 : (emptyM secondG [9]).2 = 14 := by rw [empty4]
  have b1 := third_belowE
  have b2 := third_belowM
  have b3 : (belowL thirdG 2).length = 3 := by rw [b2]; rfl
  refine G_seq (G_region ?_)
  refine G_val (V_assign rfl rfl) rfl rfl (.none rfl) ?_
  refine G_end (X_then (G_seq (G_region ?_)))
  refine G_call (k := 50) (.mk rfl rfl rfl rfl) rfl rfl (.none rfl) (first_call _ _) ?_
  rintro r1 E2 L3 hE4 ⟨Z5, rfl⟩
  replace hnil := hnil.mono hE4
  refine G_call (k := 36) (.mk rfl rfl rfl rfl) rfl rfl (.none rfl) (Reached_call _ _ _ _ (by assumption) (by assumption)) ?_
  rintro r6 E7 L8 hE9 ⟨z10, ⟨z11, ⟨rfl, ⟨Z12, rfl⟩⟩⟩⟩
  replace Z5 := Z5.mono hE9
  replace hnil := hnil.mono hE9
  refine G_val (V_move rfl rfl) rfl rfl (.none rfl) ?_
  refine G_val (V_extract rfl rfl rfl) rfl rfl (.none rfl) ?_
  refine G_val (V_extract rfl rfl rfl) rfl rfl (.none rfl) ?_
  refine G_val (V_assign rfl rfl) rfl rfl (.none rfl) ?_
  refine G_val (V_assign rfl rfl) rfl rfl (.none rfl) ?_
  refine G_end (X_then (G_seq (G_region ?_)))
  refine G_call (k := 50) (.mk rfl rfl rfl rfl) rfl rfl (.none rfl) (first_call _ _) ?_
  rintro r13 E14 L15 hE16 ⟨Z17, rfl⟩
  replace Z12 := Z12.mono hE16
  replace Z5 := Z5.mono hE16
  replace hnil := hnil.mono hE16
  refine G_call (k := 38) (.mk rfl rfl rfl rfl) rfl rfl (.none rfl) (Nullable_call _ _ _ _ (by assumption) (by assumption)) ?_
  rintro r18 E19 L20 hE21 ⟨z22, ⟨z23, ⟨rfl, ⟨Z24, rfl⟩⟩⟩⟩
  replace Z17 := Z17.mono hE21
  replace Z12 := Z12.mono hE21
  replace Z5 := Z5.mono hE21
  replace hnil := hnil.mono hE21
  refine G_val (V_move rfl rfl) rfl rfl (.none rfl) ?_
  refine G_val (V_extract rfl rfl rfl) rfl rfl (.none rfl) ?_
  refine G_val (V_extract rfl rfl rfl) rfl rfl (.none rfl) ?_
  refine G_val (V_assign rfl rfl) rfl rfl (.none rfl) ?_
  refine G_val (V_assign rfl rfl) rfl rfl (.none rfl) ?_
  refine G_end (X_then (G_seq (G_region ?_)))
  refine G_call (k := 50) (.mk rfl rfl rfl rfl) rfl rfl (.none rfl) (first_call _ _) ?_
  rintro r25 E26 L27 hE28 ⟨Z29, rfl⟩
  replace Z24 := Z24.mono hE28
  replace Z17 := Z17.mono hE28
  replace Z12 := Z12.mono hE28
  replace Z5 := Z5.mono hE28
  replace hnil := hnil.mono hE28
  refine G_call (k := 40) (.mk rfl rfl rfl rfl) rfl rfl (.none rfl) (Lengths_call _ _ _ _ (by assumption) (by assumption)) ?_
  rintro r30 E31 L32 hE33 ⟨z34, ⟨z35, ⟨rfl, ⟨Z36, rfl⟩⟩⟩⟩
  replace Z29 := Z29.mono hE33
  replace Z24 := Z24.mono hE33
  replace Z17 := Z17.mono hE33
  replace Z12 := Z12.mono hE33
  replace Z5 := Z5.mono hE33
  replace hnil := hnil.mono hE33
  refine G_val (V_move rfl rfl) rfl rfl (.none rfl) ?_
  refine G_val (V_extract rfl rfl rfl) rfl rfl (.none rfl) ?_
  refine G_val (V_extract rfl rfl rfl) rfl rfl (.none rfl) ?_
  refine G_val (V_assign rfl rfl) rfl rfl (.none rfl) ?_
  refine G_val (V_assign rfl rfl) rfl rfl (.none rfl) ?_
  refine G_end (X_then (G_seq (G_region ?_)))
  refine G_call (k := 50) (.mk rfl rfl rfl rfl) rfl rfl (.none rfl) (first_call _ _) ?_
  rintro r37 E38 L39 hE40 ⟨Z41, rfl⟩
  replace Z36 := Z36.mono hE40
  replace Z29 := Z29.mono hE40
  replace Z24 := Z24.mono hE40
  replace Z17 := Z17.mono hE40
  replace Z12 := Z12.mono hE40
  replace Z5 := Z5.mono hE40
  replace hnil := hnil.mono hE40
  refine G_call (k := 42) (.mk rfl rfl rfl rfl) rfl rfl (.none rfl) (Trees_call _ _ _ _ (by assumption) (by assumption)) ?_
  rintro r42 E43 L44 hE45 ⟨z46, ⟨z47, ⟨rfl, ⟨Z48, rfl⟩⟩⟩⟩
  replace Z41 := Z41.mono hE45
  replace Z36 := Z36.mono hE45
  replace Z29 := Z29.mono hE45
  replace Z24 := Z24.mono hE45
  replace Z17 := Z17.mono hE45
  replace Z12 := Z12.mono hE45
  replace Z5 := Z5.mono hE45
  replace hnil := hnil.mono hE45
  refine G_val (V_move rfl rfl) rfl rfl (.none rfl) ?_
  refine G_val (V_extract rfl rfl rfl) rfl rfl (.none rfl) ?_
  refine G_val (V_extract rfl rfl rfl) rfl rfl (.none rfl) ?_
  refine G_val (V_assign rfl rfl) rfl rfl (.none rfl) ?_
  refine G_val (V_assign rfl rfl) rfl rfl (.none rfl) ?_
  refine G_end (X_then (G_seq (G_region ?_)))
  refine G_call (k := 50) (.mk rfl rfl rfl rfl) rfl rfl (.none rfl) (first_call _ _) ?_
  rintro r49 E50 L51 hE52 ⟨Z53, rfl⟩
  replace Z48 := Z48.mono hE52
  replace Z41 := Z41.mono hE52
  replace Z36 := Z36.mono hE52
  replace Z29 := Z29.mono hE52
  replace Z24 := Z24.mono hE52
  replace Z17 := Z17.mono hE52
  replace Z12 := Z12.mono hE52
  replace Z5 := Z5.mono hE52
  replace hnil := hnil.mono hE52
  refine G_callv (k := 44) (.mk rfl rfl rfl rfl) rfl rfl (.none rfl) (Reduced_call _ _ _ _ (by assumption) (by assumption)) ?_
  refine G_val (V_move rfl rfl) rfl rfl (.none rfl) ?_
  refine G_val (V_extract rfl rfl rfl) rfl rfl (.none rfl) ?_
  refine G_val (V_extract rfl rfl rfl) rfl rfl (.none rfl) ?_
  refine G_val (V_assign rfl rfl) rfl rfl (.none rfl) ?_
  refine G_val (V_assign rfl rfl) rfl rfl (.none rfl) ?_
  refine G_end (X_then (G_seq (G_region ?_)))
  refine G_val (V_move rfl rfl) rfl rfl (.none rfl) ?_
  refine G_val (V_eql rfl rfl rfl) rfl rfl (.none rfl) ?_
  refine G_val (V_move rfl rfl) rfl rfl (.none rfl) ?_
  refine G.bool_t 56 rfl (by kernel_rfl) ?_
  refine G_val (V_move rfl rfl) rfl rfl (.yes rfl rfl rfl rfl) ?_
  (refine G_litZ rfl rfl (by decide) (by simp [fillS, zeros, setLs, setL, Value.cells, List.range, List.range.loop]; rfl) (by rfl) rfl rfl (.yes rfl rfl rfl rfl) ?_; intro b58 E58 hE58 hs58)
  replace Z53 := Z53.mono hE58
  replace Z48 := Z48.mono hE58
  replace Z41 := Z41.mono hE58
  replace Z36 := Z36.mono hE58
  replace Z29 := Z29.mono hE58
  replace Z24 := Z24.mono hE58
  replace Z17 := Z17.mono hE58
  replace Z12 := Z12.mono hE58
  replace Z5 := Z5.mono hE58
  replace hnil := hnil.mono hE58
  refine G_callv (k := 35) (.mk rfl rfl rfl rfl) rfl rfl (.yes rfl rfl rfl rfl) (same_call _ _ _ _ _ _ _ _ _ _ (by assumption) (by exact SlE.toB (by assumption) rfl) (by omega) (by omega)) ?_
  refine G_val (V_pick_t rfl rfl rfl) rfl rfl (.none rfl) ?_
  refine G_val (V_move rfl rfl) rfl rfl (.none rfl) ?_
  refine G.bool_t 61 rfl (by kernel_rfl) ?_
  refine G_val (V_move rfl rfl) rfl rfl (.yes rfl rfl rfl rfl) ?_
  refine G_val (V_eql rfl rfl rfl) rfl rfl (.yes rfl rfl rfl rfl) ?_
  refine G_val (V_pick_t rfl rfl rfl) rfl rfl (.none rfl) ?_
  refine G_val (V_move rfl rfl) rfl rfl (.none rfl) ?_
  refine G.bool_t 65 rfl (by kernel_rfl) ?_
  refine G_val (V_move rfl rfl) rfl rfl (.yes rfl rfl rfl rfl) ?_
  (refine G_litZ rfl rfl (by decide) (by simp [fillS, zeros, setLs, setL, Value.cells, List.range, List.range.loop]; rfl) (by rfl) rfl rfl (.yes rfl rfl rfl rfl) ?_; intro b67 E67 hE67 hs67)
  replace hs58 := hs58.mono hE67
  replace Z53 := Z53.mono hE67
  replace Z48 := Z48.mono hE67
  replace Z41 := Z41.mono hE67
  replace Z36 := Z36.mono hE67
  replace Z29 := Z29.mono hE67
  replace Z24 := Z24.mono hE67
  replace Z17 := Z17.mono hE67
  replace Z12 := Z12.mono hE67
  replace Z5 := Z5.mono hE67
  replace hnil := hnil.mono hE67
  refine G_callv (k := 35) (.mk rfl rfl rfl rfl) rfl rfl (.yes rfl rfl rfl rfl) (same_call _ _ _ _ _ _ _ _ _ _ (by assumption) (by exact SlE.toB (by assumption) rfl) (by omega) (by omega)) ?_
  refine G_val (V_pick_t rfl rfl rfl) rfl rfl (.none rfl) ?_
  refine G_val (V_move rfl rfl) rfl rfl (.none rfl) ?_
  refine G.bool_t 70 rfl (by kernel_rfl) ?_
  refine G_val (V_move rfl rfl) rfl rfl (.yes rfl rfl rfl rfl) ?_
  refine G_val (V_eql rfl rfl rfl) rfl rfl (.yes rfl rfl rfl rfl) ?_
  refine G_val (V_pick_t rfl rfl rfl) rfl rfl (.none rfl) ?_
  refine G_val (V_move rfl rfl) rfl rfl (.none rfl) ?_
  refine G.bool_t 74 rfl (by kernel_rfl) ?_
  refine G_val (V_move rfl rfl) rfl rfl (.yes rfl rfl rfl rfl) ?_
  (refine G_litZ rfl rfl (by decide) (by simp [fillS, zeros, setLs, setL, Value.cells, List.range, List.range.loop]; rfl) (by rfl) rfl rfl (.yes rfl rfl rfl rfl) ?_; intro b76 E76 hE76 hs76)
  replace hs67 := hs67.mono hE76
  replace hs58 := hs58.mono hE76
  replace Z53 := Z53.mono hE76
  replace Z48 := Z48.mono hE76
  replace Z41 := Z41.mono hE76
  replace Z36 := Z36.mono hE76
  replace Z29 := Z29.mono hE76
  replace Z24 := Z24.mono hE76
  replace Z17 := Z17.mono hE76
  replace Z12 := Z12.mono hE76
  replace Z5 := Z5.mono hE76
  replace hnil := hnil.mono hE76
  refine G_callv (k := 27) (.mk rfl rfl rfl rfl) rfl rfl (.yes rfl rfl rfl rfl) (SameInts_call' _ _ _ _ _ _ _ _ _ _ (by assumption) (by exact SlE.toI (by assumption) rfl) (by omega) (by omega)) ?_
  refine G_val (V_pick_t rfl rfl rfl) rfl rfl (.none rfl) ?_
  refine G_val (V_move rfl rfl) rfl rfl (.none rfl) ?_
  refine G.bool_t 79 rfl (by kernel_rfl) ?_
  refine G_val (V_move rfl rfl) rfl rfl (.yes rfl rfl rfl rfl) ?_
  refine G_val (V_eql rfl rfl rfl) rfl rfl (.yes rfl rfl rfl rfl) ?_
  refine G_val (V_pick_t rfl rfl rfl) rfl rfl (.none rfl) ?_
  refine G_val (V_move rfl rfl) rfl rfl (.none rfl) ?_
  refine G.bool_t 83 rfl (by kernel_rfl) ?_
  refine G_val (V_move rfl rfl) rfl rfl (.yes rfl rfl rfl rfl) ?_
  (refine G_litZ rfl rfl (by decide) (by simp [fillS, zeros, setLs, setL, Value.cells, List.range, List.range.loop]; rfl) (by rfl) rfl rfl (.yes rfl rfl rfl rfl) ?_; intro b85 E85 hE85 hs85)
  replace hs76 := hs76.mono hE85
  replace hs67 := hs67.mono hE85
  replace hs58 := hs58.mono hE85
  replace Z53 := Z53.mono hE85
  replace Z48 := Z48.mono hE85
  replace Z41 := Z41.mono hE85
  replace Z36 := Z36.mono hE85
  replace Z29 := Z29.mono hE85
  replace Z24 := Z24.mono hE85
  replace Z17 := Z17.mono hE85
  replace Z12 := Z12.mono hE85
  replace Z5 := Z5.mono hE85
  replace hnil := hnil.mono hE85
  refine G_callv (k := 27) (.mk rfl rfl rfl rfl) rfl rfl (.yes rfl rfl rfl rfl) (SameInts_call' _ _ _ _ _ _ _ _ _ _ (by assumption) (by exact SlE.toI (by assumption) rfl) (by omega) (by omega)) ?_
  refine G_val (V_pick_t rfl rfl rfl) rfl rfl (.none rfl) ?_
  refine G_val (V_move rfl rfl) rfl rfl (.none rfl) ?_
  refine G.bool_t 88 rfl (by kernel_rfl) ?_
  refine G_val (V_move rfl rfl) rfl rfl (.yes rfl rfl rfl rfl) ?_
  refine G_val (V_eql rfl rfl rfl) rfl rfl (.yes rfl rfl rfl rfl) ?_
  refine G_val (V_pick_t rfl rfl rfl) rfl rfl (.none rfl) ?_
  refine G_val (V_move rfl rfl) rfl rfl (.none rfl) ?_
  refine G.bool_t 92 rfl (by kernel_rfl) ?_
  refine G_val (V_move rfl rfl) rfl rfl (.yes rfl rfl rfl rfl) ?_
  refine G_val (V_eql rfl rfl rfl) rfl rfl (.yes rfl rfl rfl rfl) ?_
  refine G_val (V_pick_t rfl rfl rfl) rfl rfl (.none rfl) ?_
  refine G_val (V_assign rfl rfl) rfl rfl (.none rfl) ?_
  refine G_end (X_then (G_seq (G_region ?_)))
  refine G_call (k := 51) (.mk rfl rfl rfl rfl) rfl rfl (.none rfl) (second_call _ _) ?_
  rintro r54 E55 L56 hE57 ⟨Z58, rfl⟩
  replace hs85 := hs85.mono hE57
  replace hs76 := hs76.mono hE57
  replace hs67 := hs67.mono hE57
  replace hs58 := hs58.mono hE57
  replace Z53 := Z53.mono hE57
  replace Z48 := Z48.mono hE57
  replace Z41 := Z41.mono hE57
  replace Z36 := Z36.mono hE57
  replace Z29 := Z29.mono hE57
  replace Z24 := Z24.mono hE57
  replace Z17 := Z17.mono hE57
  replace Z12 := Z12.mono hE57
  replace Z5 := Z5.mono hE57
  replace hnil := hnil.mono hE57
  refine G_call (k := 38) (.mk rfl rfl rfl rfl) rfl rfl (.none rfl) (Nullable_call _ _ _ _ (by assumption) (by assumption)) ?_
  rintro r59 E60 L61 hE62 ⟨z63, ⟨z64, ⟨rfl, ⟨Z65, rfl⟩⟩⟩⟩
  replace Z58 := Z58.mono hE62
  replace hs85 := hs85.mono hE62
  replace hs76 := hs76.mono hE62
  replace hs67 := hs67.mono hE62
  replace hs58 := hs58.mono hE62
  replace Z53 := Z53.mono hE62
  replace Z48 := Z48.mono hE62
  replace Z41 := Z41.mono hE62
  replace Z36 := Z36.mono hE62
  replace Z29 := Z29.mono hE62
  replace Z24 := Z24.mono hE62
  replace Z17 := Z17.mono hE62
  replace Z12 := Z12.mono hE62
  replace Z5 := Z5.mono hE62
  replace hnil := hnil.mono hE62
  refine G_val (V_move rfl rfl) rfl rfl (.none rfl) ?_
  refine G_val (V_extract rfl rfl rfl) rfl rfl (.none rfl) ?_
  refine G_val (V_extract rfl rfl rfl) rfl rfl (.none rfl) ?_
  refine G_val (V_assign rfl rfl) rfl rfl (.none rfl) ?_
  refine G_val (V_assign rfl rfl) rfl rfl (.none rfl) ?_
  refine G_end (X_then (G_seq (G_region ?_)))
  refine G_call (k := 51) (.mk rfl rfl rfl rfl) rfl rfl (.none rfl) (second_call _ _) ?_
  rintro r66 E68 L69 hE70 ⟨Z71, rfl⟩
  replace Z65 := Z65.mono hE70
  replace Z58 := Z58.mono hE70
  replace hs85 := hs85.mono hE70
  replace hs76 := hs76.mono hE70
  replace hs67 := hs67.mono hE70
  replace hs58 := hs58.mono hE70
  replace Z53 := Z53.mono hE70
  replace Z48 := Z48.mono hE70
  replace Z41 := Z41.mono hE70
  replace Z36 := Z36.mono hE70
  replace Z29 := Z29.mono hE70
  replace Z24 := Z24.mono hE70
  replace Z17 := Z17.mono hE70
  replace Z12 := Z12.mono hE70
  replace Z5 := Z5.mono hE70
  replace hnil := hnil.mono hE70
  refine G_call (k := 40) (.mk rfl rfl rfl rfl) rfl rfl (.none rfl) (Lengths_call _ _ _ _ (by assumption) (by assumption)) ?_
  rintro r72 E73 L74 hE75 ⟨z76, ⟨z77, ⟨rfl, ⟨Z78, rfl⟩⟩⟩⟩
  replace Z71 := Z71.mono hE75
  replace Z65 := Z65.mono hE75
  replace Z58 := Z58.mono hE75
  replace hs85 := hs85.mono hE75
  replace hs76 := hs76.mono hE75
  replace hs67 := hs67.mono hE75
  replace hs58 := hs58.mono hE75
  replace Z53 := Z53.mono hE75
  replace Z48 := Z48.mono hE75
  replace Z41 := Z41.mono hE75
  replace Z36 := Z36.mono hE75
  replace Z29 := Z29.mono hE75
  replace Z24 := Z24.mono hE75
  replace Z17 := Z17.mono hE75
  replace Z12 := Z12.mono hE75
  replace Z5 := Z5.mono hE75
  replace hnil := hnil.mono hE75
  refine G_val (V_move rfl rfl) rfl rfl (.none rfl) ?_
  refine G_val (V_extract rfl rfl rfl) rfl rfl (.none rfl) ?_
  refine G_val (V_extract rfl rfl rfl) rfl rfl (.none rfl) ?_
  refine G_val (V_assign rfl rfl) rfl rfl (.none rfl) ?_
  refine G_val (V_assign rfl rfl) rfl rfl (.none rfl) ?_
  refine G_end (X_then (G_seq (G_region ?_)))
  refine G_call (k := 51) (.mk rfl rfl rfl rfl) rfl rfl (.none rfl) (second_call _ _) ?_
  rintro r79 E80 L81 hE82 ⟨Z83, rfl⟩
  replace Z78 := Z78.mono hE82
  replace Z71 := Z71.mono hE82
  replace Z65 := Z65.mono hE82
  replace Z58 := Z58.mono hE82
  replace hs85 := hs85.mono hE82
  replace hs76 := hs76.mono hE82
  replace hs67 := hs67.mono hE82
  replace hs58 := hs58.mono hE82
  replace Z53 := Z53.mono hE82
  replace Z48 := Z48.mono hE82
  replace Z41 := Z41.mono hE82
  replace Z36 := Z36.mono hE82
  replace Z29 := Z29.mono hE82
  replace Z24 := Z24.mono hE82
  replace Z17 := Z17.mono hE82
  replace Z12 := Z12.mono hE82
  replace Z5 := Z5.mono hE82
  replace hnil := hnil.mono hE82
  refine G_callv (k := 44) (.mk rfl rfl rfl rfl) rfl rfl (.none rfl) (Reduced_call _ _ _ _ (by assumption) (by assumption)) ?_
  refine G_val (V_move rfl rfl) rfl rfl (.none rfl) ?_
  refine G_val (V_extract rfl rfl rfl) rfl rfl (.none rfl) ?_
  refine G_val (V_extract rfl rfl rfl) rfl rfl (.none rfl) ?_
  refine G_val (V_assign rfl rfl) rfl rfl (.none rfl) ?_
  refine G_val (V_assign rfl rfl) rfl rfl (.none rfl) ?_
  refine G_end (X_then (G_seq (G_region ?_)))
  refine G_call (k := 52) (.mk rfl rfl rfl rfl) rfl rfl (.none rfl) (third_call _ _) ?_
  rintro r84 E86 L87 hE88 ⟨Z89, rfl⟩
  replace Z83 := Z83.mono hE88
  replace Z78 := Z78.mono hE88
  replace Z71 := Z71.mono hE88
  replace Z65 := Z65.mono hE88
  replace Z58 := Z58.mono hE88
  replace hs85 := hs85.mono hE88
  replace hs76 := hs76.mono hE88
  replace hs67 := hs67.mono hE88
  replace hs58 := hs58.mono hE88
  replace Z53 := Z53.mono hE88
  replace Z48 := Z48.mono hE88
  replace Z41 := Z41.mono hE88
  replace Z36 := Z36.mono hE88
  replace Z29 := Z29.mono hE88
  replace Z24 := Z24.mono hE88
  replace Z17 := Z17.mono hE88
  replace Z12 := Z12.mono hE88
  replace Z5 := Z5.mono hE88
  replace hnil := hnil.mono hE88
  refine G_call (k := 48) (.mk rfl rfl rfl rfl) rfl rfl (.none rfl) (Below_call _ _ _ _ (by assumption) (by assumption) _) ?_
  rintro r90 E91 L92 hE93 ⟨z94, ⟨z95, ⟨rfl, ⟨Z96, rfl⟩⟩⟩⟩
  replace Z89 := Z89.mono hE93
  replace Z83 := Z83.mono hE93
  replace Z78 := Z78.mono hE93
  replace Z71 := Z71.mono hE93
  replace Z65 := Z65.mono hE93
  replace Z58 := Z58.mono hE93
  replace hs85 := hs85.mono hE93
  replace hs76 := hs76.mono hE93
  replace hs67 := hs67.mono hE93
  replace hs58 := hs58.mono hE93
  replace Z53 := Z53.mono hE93
  replace Z48 := Z48.mono hE93
  replace Z41 := Z41.mono hE93
  replace Z36 := Z36.mono hE93
  replace Z29 := Z29.mono hE93
  replace Z24 := Z24.mono hE93
  replace Z17 := Z17.mono hE93
  replace Z12 := Z12.mono hE93
  replace Z5 := Z5.mono hE93
  replace hnil := hnil.mono hE93
  refine G_val (V_move rfl rfl) rfl rfl (.none rfl) ?_
  refine G_val (V_extract rfl rfl rfl) rfl rfl (.none rfl) ?_
  refine G_val (V_extract rfl rfl rfl) rfl rfl (.none rfl) ?_
  refine G_val (V_assign rfl rfl) rfl rfl (.none rfl) ?_
  refine G_val (V_assign rfl rfl) rfl rfl (.none rfl) ?_
  refine G_end (X_then (G_seq (G_region ?_)))
  refine G_val (V_move rfl rfl) rfl rfl (.none rfl) ?_
  refine G_val (V_eql rfl rfl rfl) rfl rfl (.none rfl) ?_
  refine G_val (V_move rfl rfl) rfl rfl (.none rfl) ?_
  refine G.bool_t 118 rfl (by kernel_rfl) ?_
  refine G_val (V_move rfl rfl) rfl rfl (.yes rfl rfl rfl rfl) ?_
  (refine G_litZ rfl rfl (by decide) (by simp [fillS, zeros, setLs, setL, Value.cells, List.range, List.range.loop]; rfl) (by rfl) rfl rfl (.yes rfl rfl rfl rfl) ?_; intro b120 E120 hE120 hs120)
  replace Z96 := Z96.mono hE120
  replace Z89 := Z89.mono hE120
  replace Z83 := Z83.mono hE120
  replace Z78 := Z78.mono hE120
  replace Z71 := Z71.mono hE120
  replace Z65 := Z65.mono hE120
  replace Z58 := Z58.mono hE120
  replace hs85 := hs85.mono hE120
  replace hs76 := hs76.mono hE120
  replace hs67 := hs67.mono hE120
  replace hs58 := hs58.mono hE120
  replace Z53 := Z53.mono hE120
  replace Z48 := Z48.mono hE120
  replace Z41 := Z41.mono hE120
  replace Z36 := Z36.mono hE120
  replace Z29 := Z29.mono hE120
  replace Z24 := Z24.mono hE120
  replace Z17 := Z17.mono hE120
  replace Z12 := Z12.mono hE120
  replace Z5 := Z5.mono hE120
  replace hnil := hnil.mono hE120
  refine G_callv (k := 35) (.mk rfl rfl rfl rfl) rfl rfl (.yes rfl rfl rfl rfl) (same_call _ _ _ _ _ _ _ _ _ _ (by assumption) (by exact SlE.toB (by assumption) rfl) (by omega) (by omega)) ?_
  refine G_val (V_pick_t rfl rfl rfl) rfl rfl (.none rfl) ?_
  refine G_val (V_move rfl rfl) rfl rfl (.none rfl) ?_
  refine G.bool_t 123 rfl (by kernel_rfl) ?_
  refine G_val (V_move rfl rfl) rfl rfl (.yes rfl rfl rfl rfl) ?_
  refine G_val (V_eql rfl rfl rfl) rfl rfl (.yes rfl rfl rfl rfl) ?_
  refine G_val (V_pick_t rfl rfl rfl) rfl rfl (.none rfl) ?_
  refine G_val (V_move rfl rfl) rfl rfl (.none rfl) ?_
  refine G.bool_t 127 rfl (by kernel_rfl) ?_
  refine G_val (V_move rfl rfl) rfl rfl (.yes rfl rfl rfl rfl) ?_
  (refine G_litZ rfl rfl (by decide) (by simp [fillS, zeros, setLs, setL, Value.cells, List.range, List.range.loop]; rfl) (by rfl) rfl rfl (.yes rfl rfl rfl rfl) ?_; intro b129 E129 hE129 hs129)
  replace hs120 := hs120.mono hE129
  replace Z96 := Z96.mono hE129
  replace Z89 := Z89.mono hE129
  replace Z83 := Z83.mono hE129
  replace Z78 := Z78.mono hE129
  replace Z71 := Z71.mono hE129
  replace Z65 := Z65.mono hE129
  replace Z58 := Z58.mono hE129
  replace hs85 := hs85.mono hE129
  replace hs76 := hs76.mono hE129
  replace hs67 := hs67.mono hE129
  replace hs58 := hs58.mono hE129
  replace Z53 := Z53.mono hE129
  replace Z48 := Z48.mono hE129
  replace Z41 := Z41.mono hE129
  replace Z36 := Z36.mono hE129
  replace Z29 := Z29.mono hE129
  replace Z24 := Z24.mono hE129
  replace Z17 := Z17.mono hE129
  replace Z12 := Z12.mono hE129
  replace Z5 := Z5.mono hE129
  replace hnil := hnil.mono hE129
  refine G_callv (k := 27) (.mk rfl rfl rfl rfl) rfl rfl (.yes rfl rfl rfl rfl) (SameInts_call' _ _ _ _ _ _ _ _ _ _ (by assumption) (by exact SlE.toI (by assumption) rfl) (by omega) (by omega)) ?_
  refine G_val (V_pick_t rfl rfl rfl) rfl rfl (.none rfl) ?_
  refine G_val (V_move rfl rfl) rfl rfl (.none rfl) ?_
  refine G.bool_t 132 rfl (by kernel_rfl) ?_
  refine G_val (V_move rfl rfl) rfl rfl (.yes rfl rfl rfl rfl) ?_
  refine G_val (V_eql rfl rfl rfl) rfl rfl (.yes rfl rfl rfl rfl) ?_
  refine G_val (V_pick_t rfl rfl rfl) rfl rfl (.none rfl) ?_
  refine G_val (V_move rfl rfl) rfl rfl (.none rfl) ?_
  refine G.bool_t 136 rfl (by kernel_rfl) ?_
  refine G_val (V_move rfl rfl) rfl rfl (.yes rfl rfl rfl rfl) ?_
  refine G_val (V_eql rfl rfl rfl) rfl rfl (.yes rfl rfl rfl rfl) ?_
  refine G_val (V_pick_t rfl rfl rfl) rfl rfl (.none rfl) ?_
  refine G_val (V_move rfl rfl) rfl rfl (.none rfl) ?_
  refine G.bool_t 140 rfl (by kernel_rfl) ?_
  refine G_val (V_move rfl rfl) rfl rfl (.yes rfl rfl rfl rfl) ?_
  refine G_val (V_eql rfl rfl rfl) rfl rfl (.yes rfl rfl rfl rfl) ?_
  refine G_val (V_pick_t rfl rfl rfl) rfl rfl (.none rfl) ?_
  refine G_val (V_move rfl rfl) rfl rfl (.none rfl) ?_
  refine G.bool_t 144 rfl (by kernel_rfl) ?_
  refine G_val (V_move rfl rfl) rfl rfl (.yes rfl rfl rfl rfl) ?_
  (refine G_litZ rfl rfl (by decide) (by simp [fillS, zeros, setLs, setL, Value.cells, List.range, List.range.loop]; rfl) (by rfl) rfl rfl (.yes rfl rfl rfl rfl) ?_; intro b146 E146 hE146 hs146)
  replace hs129 := hs129.mono hE146
  replace hs120 := hs120.mono hE146
  replace Z96 := Z96.mono hE146
  replace Z89 := Z89.mono hE146
  replace Z83 := Z83.mono hE146
  replace Z78 := Z78.mono hE146
  replace Z71 := Z71.mono hE146
  replace Z65 := Z65.mono hE146
  replace Z58 := Z58.mono hE146
  replace hs85 := hs85.mono hE146
  replace hs76 := hs76.mono hE146
  replace hs67 := hs67.mono hE146
  replace hs58 := hs58.mono hE146
  replace Z53 := Z53.mono hE146
  replace Z48 := Z48.mono hE146
  replace Z41 := Z41.mono hE146
  replace Z36 := Z36.mono hE146
  replace Z29 := Z29.mono hE146
  replace Z24 := Z24.mono hE146
  replace Z17 := Z17.mono hE146
  replace Z12 := Z12.mono hE146
  replace Z5 := Z5.mono hE146
  replace hnil := hnil.mono hE146
  refine G_callv (k := 35) (.mk rfl rfl rfl rfl) rfl rfl (.yes rfl rfl rfl rfl) (same_call _ _ _ _ _ _ _ _ _ _ (by assumption) (by exact SlE.toB (by assumption) rfl) (by omega) (by omega)) ?_
  refine G_val (V_pick_t rfl rfl rfl) rfl rfl (.none rfl) ?_
  refine G_val (V_assign rfl rfl) rfl rfl (.none rfl) ?_
  refine G_end (X_then (G_seq (G_region ?_)))
  (refine G_litZ rfl rfl (by decide) (by simp [fillS, zeros, setLs, setL, Value.cells, List.range, List.range.loop]; rfl) (by rfl) rfl rfl (.none rfl) ?_; intro b150 E150 hE150 hs150)
  replace hs146 := hs146.mono hE150
  replace hs129 := hs129.mono hE150
  replace hs120 := hs120.mono hE150
  replace Z96 := Z96.mono hE150
  replace Z89 := Z89.mono hE150
  replace Z83 := Z83.mono hE150
  replace Z78 := Z78.mono hE150
  replace Z71 := Z71.mono hE150
  replace Z65 := Z65.mono hE150
  replace Z58 := Z58.mono hE150
  replace hs85 := hs85.mono hE150
  replace hs76 := hs76.mono hE150
  replace hs67 := hs67.mono hE150
  replace hs58 := hs58.mono hE150
  replace Z53 := Z53.mono hE150
  replace Z48 := Z48.mono hE150
  replace Z41 := Z41.mono hE150
  replace Z36 := Z36.mono hE150
  replace Z29 := Z29.mono hE150
  replace Z24 := Z24.mono hE150
  replace Z17 := Z17.mono hE150
  replace Z12 := Z12.mono hE150
  replace Z5 := Z5.mono hE150
  replace hnil := hnil.mono hE150
  refine G_callv (k := 53) (.mk rfl rfl rfl rfl) rfl rfl (.none rfl) (empty_call _ _ _ _ _ _ (by exact SlE.toI (by assumption) rfl) (by omega) (by (simp; done))) ?_
  refine G_val (V_move rfl rfl) rfl rfl (.none rfl) ?_
  refine G_val (V_extract rfl rfl rfl) rfl rfl (.none rfl) ?_
  refine G_val (V_extract rfl rfl rfl) rfl rfl (.none rfl) ?_
  refine G_val (V_assign rfl rfl) rfl rfl (.none rfl) ?_
  refine G_val (V_assign rfl rfl) rfl rfl (.none rfl) ?_
  refine G_end (X_then (G_seq (G_region ?_)))
  (refine G_litZ rfl rfl (by decide) (by simp [fillS, zeros, setLs, setL, Value.cells, List.range, List.range.loop]; rfl) (by rfl) rfl rfl (.none rfl) ?_; intro b155 E155 hE155 hs155)
  replace hs150 := hs150.mono hE155
  replace hs146 := hs146.mono hE155
  replace hs129 := hs129.mono hE155
  replace hs120 := hs120.mono hE155
  replace Z96 := Z96.mono hE155
  replace Z89 := Z89.mono hE155
  replace Z83 := Z83.mono hE155
  replace Z78 := Z78.mono hE155
  replace Z71 := Z71.mono hE155
  replace Z65 := Z65.mono hE155
  replace Z58 := Z58.mono hE155
  replace hs85 := hs85.mono hE155
  replace hs76 := hs76.mono hE155
  replace hs67 := hs67.mono hE155
  replace hs58 := hs58.mono hE155
  replace Z53 := Z53.mono hE155
  replace Z48 := Z48.mono hE155
  replace Z41 := Z41.mono hE155
  replace Z36 := Z36.mono hE155
  replace Z29 := Z29.mono hE155
  replace Z24 := Z24.mono hE155
  replace Z17 := Z17.mono hE155
  replace Z12 := Z12.mono hE155
  replace Z5 := Z5.mono hE155
  replace hnil := hnil.mono hE155
  refine G_callv (k := 53) (.mk rfl rfl rfl rfl) rfl rfl (.none rfl) (empty_call _ _ _ _ _ _ (by exact SlE.toI (by assumption) rfl) (by omega) (by (simp; done))) ?_
  refine G_val (V_move rfl rfl) rfl rfl (.none rfl) ?_
  refine G_val (V_extract rfl rfl rfl) rfl rfl (.none rfl) ?_
  refine G_val (V_extract rfl rfl rfl) rfl rfl (.none rfl) ?_
  refine G_val (V_assign rfl rfl) rfl rfl (.none rfl) ?_
  refine G_val (V_assign rfl rfl) rfl rfl (.none rfl) ?_
  refine G_end (X_then (G_seq (G_region ?_)))
  refine G_callv (k := 53) (.mk rfl rfl rfl rfl) rfl rfl (.none rfl) (empty_call _ _ _ _ _ _ (by assumption) (by omega) (by (simp; done))) ?_
  refine G_val (V_move rfl rfl) rfl rfl (.none rfl) ?_
  refine G_val (V_extract rfl rfl rfl) rfl rfl (.none rfl) ?_
  refine G_val (V_extract rfl rfl rfl) rfl rfl (.none rfl) ?_
  refine G_val (V_assign rfl rfl) rfl rfl (.none rfl) ?_
  refine G_val (V_assign rfl rfl) rfl rfl (.none rfl) ?_
  refine G_end (X_then (G_seq (G_region ?_)))
  (refine G_litZ rfl rfl (by decide) (by simp [fillS, zeros, setLs, setL, Value.cells, List.range, List.range.loop]; rfl) (by rfl) rfl rfl (.none rfl) ?_; intro b164 E164 hE164 hs164)
  replace hs155 := hs155.mono hE164
  replace hs150 := hs150.mono hE164
  replace hs146 := hs146.mono hE164
  replace hs129 := hs129.mono hE164
  replace hs120 := hs120.mono hE164
  replace Z96 := Z96.mono hE164
  replace Z89 := Z89.mono hE164
  replace Z83 := Z83.mono hE164
  replace Z78 := Z78.mono hE164
  replace Z71 := Z71.mono hE164
  replace Z65 := Z65.mono hE164
  replace Z58 := Z58.mono hE164
  replace hs85 := hs85.mono hE164
  replace hs76 := hs76.mono hE164
  replace hs67 := hs67.mono hE164
  replace hs58 := hs58.mono hE164
  replace Z53 := Z53.mono hE164
  replace Z48 := Z48.mono hE164
  replace Z41 := Z41.mono hE164
  replace Z36 := Z36.mono hE164
  replace Z29 := Z29.mono hE164
  replace Z24 := Z24.mono hE164
  replace Z17 := Z17.mono hE164
  replace Z12 := Z12.mono hE164
  replace Z5 := Z5.mono hE164
  replace hnil := hnil.mono hE164
  refine G_callv (k := 53) (.mk rfl rfl rfl rfl) rfl rfl (.none rfl) (empty_call _ _ _ _ _ _ (by exact SlE.toI (by assumption) rfl) (by omega) (by (simp; done))) ?_
  refine G_val (V_move rfl rfl) rfl rfl (.none rfl) ?_
  refine G_val (V_extract rfl rfl rfl) rfl rfl (.none rfl) ?_
  refine G_val (V_extract rfl rfl rfl) rfl rfl (.none rfl) ?_
  refine G_val (V_assign rfl rfl) rfl rfl (.none rfl) ?_
  refine G_val (V_assign rfl rfl) rfl rfl (.none rfl) ?_
  refine G_end (X_then (G_seq (G_region ?_)))
  refine G_callv (k := 31) (.mk rfl rfl rfl rfl) rfl rfl (.none rfl) (awake_call _ _) ?_
  refine G_val (V_move rfl rfl) rfl rfl (.none rfl) ?_
  refine G_val (V_move rfl rfl) rfl rfl (.yes rfl rfl rfl rfl) ?_
  refine G_val (V_pick_t rfl rfl rfl) rfl rfl (.none rfl) ?_
  refine G_val (V_move rfl rfl) rfl rfl (.none rfl) ?_
  refine G.bool_t 172 rfl (by kernel_rfl) ?_
  refine G_val (V_move rfl rfl) rfl rfl (.yes rfl rfl rfl rfl) ?_
  refine G_val (V_pick_t rfl rfl rfl) rfl rfl (.none rfl) ?_
  refine G_val (V_move rfl rfl) rfl rfl (.none rfl) ?_
  refine G.bool_t 175 rfl (by kernel_rfl) ?_
  refine G_val (V_move rfl rfl) rfl rfl (.yes rfl rfl rfl rfl) ?_
  refine G_val (V_eql rfl rfl rfl) rfl rfl (.yes rfl rfl rfl rfl) ?_
  refine G_val (V_pick_t rfl rfl rfl) rfl rfl (.none rfl) ?_
  refine G_val (V_move rfl rfl) rfl rfl (.none rfl) ?_
  refine G.bool_t 179 rfl (by kernel_rfl) ?_
  refine G_val (V_move rfl rfl) rfl rfl (.yes rfl rfl rfl rfl) ?_
  refine G_val (V_pick_t rfl rfl rfl) rfl rfl (.none rfl) ?_
  refine G_val (V_move rfl rfl) rfl rfl (.none rfl) ?_
  refine G.bool_t 182 rfl (by kernel_rfl) ?_
  refine G_val (V_move rfl rfl) rfl rfl (.yes rfl rfl rfl rfl) ?_
  refine G_val (V_eql rfl rfl rfl) rfl rfl (.yes rfl rfl rfl rfl) ?_
  refine G_val (V_pick_t rfl rfl rfl) rfl rfl (.none rfl) ?_
  refine G_val (V_move rfl rfl) rfl rfl (.none rfl) ?_
  refine G.bool_t 186 rfl (by kernel_rfl) ?_
  refine G_val (V_move rfl rfl) rfl rfl (.yes rfl rfl rfl rfl) ?_
  refine G_val (V_not rfl rfl) rfl rfl (.yes rfl rfl rfl rfl) ?_
  refine G_val (V_pick_t rfl rfl rfl) rfl rfl (.none rfl) ?_
  refine G_val (V_move rfl rfl) rfl rfl (.none rfl) ?_
  refine G.bool_t 190 rfl (by kernel_rfl) ?_
  refine G_val (V_move rfl rfl) rfl rfl (.yes rfl rfl rfl rfl) ?_
  refine G_val (V_eql rfl rfl rfl) rfl rfl (.yes rfl rfl rfl rfl) ?_
  refine G_val (V_pick_t rfl rfl rfl) rfl rfl (.none rfl) ?_
  refine G_val (V_move rfl rfl) rfl rfl (.none rfl) ?_
  refine G.bool_t 194 rfl (by kernel_rfl) ?_
  refine G_val (V_move rfl rfl) rfl rfl (.yes rfl rfl rfl rfl) ?_
  refine G_val (V_pick_t rfl rfl rfl) rfl rfl (.none rfl) ?_
  refine G_val (V_move rfl rfl) rfl rfl (.none rfl) ?_
  refine G.bool_t 197 rfl (by kernel_rfl) ?_
  refine G_val (V_move rfl rfl) rfl rfl (.yes rfl rfl rfl rfl) ?_
  refine G_val (V_eql rfl rfl rfl) rfl rfl (.yes rfl rfl rfl rfl) ?_
  refine G_val (V_pick_t rfl rfl rfl) rfl rfl (.none rfl) ?_
  refine G_val (V_assign rfl rfl) rfl rfl (.none rfl) ?_
  refine G_end (X_then (G_ret ?_))
  refine G_leaveS (.nil _) (by exact (.cons (.tmp rfl) (.nil))) rfl ?_ ?_
  · exact (((((((((((((((((((((((((hE4.trans hE9).trans hE16).trans hE21).trans hE28).trans hE33).trans hE40).trans hE45).trans hE52).trans hE58).trans hE67).trans hE76).trans hE85).trans hE57).trans hE62).trans hE70).trans hE75).trans hE82).trans hE88).trans hE93).trans hE120).trans hE129).trans hE146).trans hE150).trans hE155).trans hE164)
  exact ⟨(by kernel_rfl), rfl⟩
end
end Go.Proofs.Ytaoinojdijbhaaa
set_option linter.unusedSimpArgs false
set_option linter.unusedVariables false
set_option maxHeartbeats 2000000
set_option maxRecDepth 20000
namespace Go.Proofs.Ytaoinojdijbhaaa
open Go.RowKit
theorem i64s_snoc (l : List Int) (n : Int) : i64s (l ++ [n]) = i64s l ++ [.int .i64 n] := by simp [i64s]
def tokL : List (List UInt8) := [[97], [98]]
def namL : List (List UInt8) := [[83], [84], [85]]
structure Made (nt many i top : Nat) (ps : List Pr) : Prop where
  left : ∀ p, p ∈ ps → 16 ≤ p.1 ∧ p.1 < 16 + (top : Int)
  syms : ∀ p, p ∈ ps → ∀ s, s ∈ p.2 → (0 ≤ s ∧ s < nt) ∨ (16 ≤ s ∧ s < 16 + (many : Int))
  right : ∀ p, p ∈ ps → p.2.length ≤ 3
  ord : ps.Pairwise fun a b => a.1 ≤ b.1
  comp : ∀ k, k < i → ∃ p, p ∈ ps ∧ p.1 = 16 + (k : Int)
theorem Made.nil (nt many : Nat) : Made nt many 0 0 [] := ⟨fun _ h => (by cases h), fun _ h => (by cases h), fun _ h => (by cases h), .nil, fun _ h => (by omega)⟩
theorem Made.up {nt many i top : Nat} {ps : List Pr} (h : Made nt many i top ps) {top' : Nat} (ht : top ≤ top') : Made nt many i top' ps := ⟨fun p hp => by have := h.left p hp; omega, h.syms, h.right, h.ord, h.comp⟩
theorem Made.snoc {nt many i : Nat} {ps : List Pr} (h : Made nt many i (i + 1) ps) {r : List Int} (hr : r.length ≤ 3) (hs : ∀ s, s ∈ r → (0 ≤ s ∧ s < nt) ∨ (16 ≤ s ∧ s < 16 + (many : Int))) : Made nt many i (i + 1) (ps ++ [(16 + (i : Int), r)]) := by
  refine ⟨fun p hp => ?_, fun p hp => ?_, fun p hp => ?_, ?_, fun k hk => ?_⟩
  · rcases List.mem_append.1 hp with hp | hp
    · exact h.left p hp
    · rw [List.mem_singleton.1 hp]; simp only; omega
  · rcases List.mem_append.1 hp with hp | hp
    · exact h.syms p hp
    · rw [List.mem_singleton.1 hp]; exact hs
  · rcases List.mem_append.1 hp with hp | hp
    · exact h.right p hp
    · rw [List.mem_singleton.1 hp]; exact hr
  · refine List.pairwise_append.2 ⟨h.ord, List.pairwise_singleton _ _, fun a ha b hb => ?_⟩
    rw [List.mem_singleton.1 hb]
    have := h.left a ha
    simp only; omega
  · obtain ⟨p, hp, he⟩ := h.comp k hk
    exact ⟨p, List.mem_append.2 (.inl hp), he⟩
theorem Made.next {nt many i : Nat} {ps : List Pr} (h : Made nt many i (i + 1) ps) (hc : ∃ p, p ∈ ps ∧ p.1 = 16 + (i : Int)) : Made nt many (i + 1) (i + 1) ps :=
  ⟨h.left, h.syms, h.right, h.ord, fun k hk => by
    by_cases he : k = i
    · rw [he]; exact hc
    · exact h.comp k (by omega)⟩
theorem made_check {k : Int} {nt many : Nat} {ps : List Pr} (h : Made nt many many many ps) (hk : 1 ≤ k ∧ k ≤ 2) (hn : 1 ≤ nt ∧ nt ≤ 2) (hm : 1 ≤ many ∧ many ≤ 3) (hl : ps.length ≤ 7) : Light ⟨k, tokL.take nt, [122], namL.take many, 16, ps⟩ ∧ gcheck ⟨k, tokL.take nt, [122], namL.take many, 16, ps⟩ = 0 := by
  have h1 : (tokL.take nt).length = nt := by rw [List.length_take]; simp [tokL]; omega
  have h2 : (namL.take many).length = many := by rw [List.length_take]; simp [namL]; omega
  have hsm : shortB ⟨k, tokL.take nt, [122], namL.take many, 16, ps⟩ = false ∧ smallsB ⟨k, tokL.take nt, [122], namL.take many, 16, ps⟩ = true ∧ dupB (tokL.take nt ++ [[122]] ++ namL.take many) = false := by
    obtain rfl | rfl : nt = 1 ∨ nt = 2 := by omega
    all_goals obtain rfl | rfl | rfl : many = 1 ∨ many = 2 ∨ many = 3 := by omega
    all_goals exact ⟨by kernel_rfl, by kernel_rfl, by kernel_rfl⟩
  refine ⟨⟨by simp only [h1]; omega, by simp only [h2]; omega, by simp only; omega, Nat.le_of_ble_eq_true rfl, fun s hs => ?_, fun s hs => ?_, fun p hp => by have := h.right p hp; omega⟩, ?_⟩
  · have h := List.mem_of_mem_take hs; simp only [tokL, List.mem_cons, List.not_mem_nil, or_false] at h; rcases h with rfl | rfl <;> decide
  · have h := List.mem_of_mem_take hs; simp only [namL, List.mem_cons, List.not_mem_nil, or_false] at h; rcases h with rfl | rfl | rfl <;> decide
  have hfull : fullB ⟨k, tokL.take nt, [122], namL.take many, 16, ps⟩ = false := by
    simp only [fullB, h1, h2, Bool.or_eq_false_iff, decide_eq_false_iff_not, List.any_eq_false, decide_eq_true_eq]
    exact ⟨⟨⟨by omega, by omega⟩, by omega⟩, fun p hp => by have := h.right p hp; omega⟩
  have hsym : symB ⟨k, tokL.take nt, [122], namL.take many, 16, ps⟩ = true := by
    simp only [symB, ntB, termB, h1, h2, Bool.and_eq_true, decide_eq_true_eq, List.all_eq_true, Bool.not_eq_true', List.any_eq_false]
    refine ⟨⟨by omega, by omega⟩, fun p hp => ⟨⟨(h.left p hp).1, (h.left p hp).2⟩, fun s hs => ?_⟩⟩
    have := h.syms p hp s hs
    simp
    omega
  have hord : ordsB ps = true := by
    refine List.all_eq_true.2 fun i hi => ?_
    have hi := List.mem_range.1 hi
    by_cases h0 : i = 0
    · simp [h0]
    · have hi1 : i - 1 < ps.length := by omega
      have := List.pairwise_iff_getElem.1 h.ord (i - 1) i hi1 hi (by omega)
      simp [List.getElem?_eq_getElem hi1, List.getElem?_eq_getElem hi, h0, this]
  have hcomp : compB ⟨k, tokL.take nt, [122], namL.take many, 16, ps⟩ = true := by
    refine List.all_eq_true.2 fun i hi => ?_
    have hi := List.mem_range.1 hi
    simp only [h2] at hi
    obtain ⟨p, hp, he⟩ := h.comp i hi
    exact List.any_eq_true.2 ⟨p, hp, decide_eq_true he⟩
  have h3 := hsm.2.2
  rw [gcheck, if_neg (by simp only; omega), gc0, hfull, gc1, hsm.1, hsm.2.1, gc2, gc3, hsym, gc4, hord, gc5, hcomp]
  simp only [h3]
  rfl
section
variable (E : Env) (L : List Res)
theorem At_call (p : Option Addr) (c : Nat) (xs : List Int) (hx : SlE E 1 p xs.length (i64s xs)) (hn : xs.length ≤ 9223372036854775807) (hb : ∀ n, n ∈ xs → -9223372036854775808 ≤ n ∧ n ≤ 9223372036854775807) (i : Int) :
    CallS Try.prog 66 #[.slice p xs.length c, .int .i64 i] E L (fun r E' L' => ∃ n : Int, r = .int .i64 n ∧ (-9223372036854775808 ≤ n ∧ n ≤ 9223372036854775807) ∧ E = E' ∧ L' = L) := by
  refine CallS.intro (l := [_, _]) _ Try.func66 rfl Try.ntmps66 rfl ?_
  by_cases h : i < 0 ∨ (xs.length : Int) ≤ i
  · refine G_seq ?_
    refine G_region ?_
    refine G_val (V_assign rfl rfl) rfl rfl (.none rfl) ?_
    refine G_end (X_then (G_seq (G_seq (G_region ?_))))
    refine G_val (V_move rfl rfl) rfl rfl (.none rfl) ?_
    refine G_val (V_lss rfl rfl rfl) rfl rfl (.none rfl) ?_
    refine G_val (V_move rfl rfl) rfl rfl (.none rfl) ?_
    apply G_joinOr 5 7 12 rfl
    · intro H1
      dsimp only [List.take]
      simp only [Bool.and_eq_true, Bool.or_eq_true, Bool.not_eq_true', Bool.not_eq_false', Bool.and_eq_false_iff, Bool.or_eq_false_iff, Bool.not_not, decide_eq_true_eq, decide_eq_false_iff_not, ne_eq, Decidable.not_not, Bool.decide_eq_true] at H1
      refine G_stay (.no rfl rfl rfl rfl) rfl rfl ?_
      refine G_stay (.no rfl rfl rfl rfl) rfl rfl ?_
      refine G_stay (.no rfl rfl rfl rfl) rfl rfl ?_
      refine G_stay (.no rfl rfl rfl rfl) rfl rfl ?_
      refine G_val (V_pick_t rfl rfl rfl) rfl rfl (.none rfl) ?_
      refine G_end ?_
      exact JQ_end 5 rfl rfl (by kernel_rfl)
    · intro H2
      dsimp only [List.take]
      simp only [Bool.and_eq_true, Bool.or_eq_true, Bool.not_eq_true', Bool.not_eq_false', Bool.and_eq_false_iff, Bool.or_eq_false_iff, Bool.not_not, decide_eq_true_eq, decide_eq_false_iff_not, ne_eq, Decidable.not_not, Bool.decide_eq_true] at H2
      refine G_val (V_move rfl rfl) rfl rfl (.yes rfl rfl rfl rfl) ?_
      refine G_val (V_move rfl rfl) rfl rfl (.yes rfl rfl rfl rfl) ?_
      refine G_val (V_lenS rfl rfl) rfl rfl (.yes rfl rfl rfl rfl) ?_
      refine G_val (V_geq rfl rfl rfl) rfl rfl (.yes rfl rfl rfl rfl) ?_
      refine G_val (V_pick_f rfl rfl rfl) rfl rfl (.none rfl) ?_
      refine G_end ?_
      exact JQ_end 5 rfl rfl (by kernel_rfl)
    dsimp only [List.drop]
    refine G_end (X_then ?_)
    refine G_cond_t rfl (by simp [*]; done) ?_
    refine G_seq (G_region ?_)
    refine G_val (V_assign rfl rfl) rfl rfl (.none rfl) ?_
    refine G_end (X_then (G_ret (X_then_ret ?_)))
    refine G_leaveS (.nil _) (by exact (.cons (.tmp rfl) (.nil))) rfl ?_ ?_
    · exact (.refl _)
    exact ⟨_, ⟨rfl, ⟨⟨(by omega), (by omega)⟩, ⟨rfl, rfl⟩⟩⟩⟩
  · have h1 : i.toNat < xs.length := by omega
    have h2 := i64s_at h1
    have h3 := hb _ (List.getElem_mem h1)
    refine G_seq (G_region ?_)
    refine G_val (V_assign rfl rfl) rfl rfl (.none rfl) ?_
    refine G_end (X_then (G_seq (G_seq (G_region ?_))))
    refine G_val (V_move rfl rfl) rfl rfl (.none rfl) ?_
    refine G_val (V_lss rfl rfl rfl) rfl rfl (.none rfl) ?_
    refine G_val (V_move rfl rfl) rfl rfl (.none rfl) ?_
    refine G.bool_f 7 rfl (decide_eq_false (by omega)) ?_
    refine G_val (V_move rfl rfl) rfl rfl (.yes rfl rfl rfl rfl) ?_
    refine G_val (V_move rfl rfl) rfl rfl (.yes rfl rfl rfl rfl) ?_
    refine G_val (V_lenS rfl rfl) rfl rfl (.yes rfl rfl rfl rfl) ?_
    refine G_val (V_geq rfl rfl rfl) rfl rfl (.yes rfl rfl rfl rfl) ?_
    refine G_val (V_pick_f rfl rfl rfl) rfl rfl (.none rfl) ?_
    refine G_end (X_then ?_)
    refine G_cond_f rfl (decide_eq_false (by omega)) ?_
    refine G_skip (X_then (G_seq (G_region ?_)))
    refine G_val (V_move rfl rfl) rfl rfl (.none rfl) ?_
    refine G_val (V_move rfl rfl) rfl rfl (.none rfl) ?_
    refine G_val (V_idxAddr rfl rfl rfl (SlE.rd (by assumption)) (by omega) (by omega)) rfl rfl (.none rfl) ?_
    refine G_val (V_loadS rfl rfl (SlE.rd (by assumption)) (by assumption) (by simp)) rfl rfl (.none rfl) ?_
    refine G_val (V_assign rfl rfl) rfl rfl (.none rfl) ?_
    refine G_end (X_then (G_ret ?_))
    refine G_leaveS (.nil _) (by exact (.cons (.tmp rfl) (.nil))) rfl ?_ ?_
    · exact (.refl _)
    exact ⟨_, ⟨rfl, ⟨⟨(by omega), (by omega)⟩, ⟨rfl, rfl⟩⟩⟩⟩
theorem Mod_call'' (a m : Int) (ha : -9223372036854775808 ≤ a ∧ a ≤ 9223372036854775807) (hm : 1 ≤ m ∧ m ≤ 9223372036854775807) :
    CallS Try.prog 19 #[.int .i64 a, .int .i64 m] E L (fun r E' L' => ∃ n : Nat, r = .int .i64 n ∧ (n : Int) < m ∧ E = E' ∧ L' = L) := by
  have h1 := Int.emod_nonneg a (b := m) (by omega)
  have h2 := Int.emod_lt_of_pos a (b := m) (by omega)
  refine (CallS.ofV (Mod_call' E L a m ha hm)).mono fun r E' L' _ h => ⟨(a % m).toNat, ?_, by omega, h.2.1.symm, h.2.2⟩
  rw [h.1, Int.toNat_of_nonneg h1]
theorem Any_call (p : Option Addr) (c : Nat) (xs : List Int) (hx : SlE E 1 p xs.length (i64s xs)) (hn : xs.length ≤ 9223372036854775807) (hb : ∀ n, n ∈ xs → -9223372036854775808 ≤ n ∧ n ≤ 9223372036854775807) :
    CallS Try.prog 14 #[.slice p xs.length c] E L (fun r E' L' => ∃ g, GrE E' r g ∧ Light g ∧ gcheck g = 0 ∧ L' = L) := by
  refine CallS.intro (l := [_]) _ Try.func14 rfl Try.ntmps14 rfl ?_
  refine G_seq (G_region ?_)
  (refine G_alloc rfl rfl rfl (.none rfl) ?_; intro b2)
  refine G_end (X_then (G_seq (G_region ?_)))
  refine G_val (V_move rfl rfl) rfl rfl (.none rfl) ?_
  refine G_call (k := 66) (.mk rfl rfl rfl rfl) rfl rfl (.none rfl) (At_call _ _ _ _ _ (by assumption) (by assumption) (by assumption) _) ?_
  rintro r1 E2 L3 hE4 ⟨z5, ⟨rfl, ⟨⟨Z6, Z7⟩, ⟨rfl, rfl⟩⟩⟩⟩
  replace hx := hx.mono hE4
  refine G_call (k := 19) (.mk rfl rfl rfl rfl) rfl rfl (.none rfl) (Mod_call'' _ _ _ _ (by omega) (by omega)) ?_
  rintro r8 E9 L10 hE11 ⟨z12, ⟨rfl, ⟨Z13, ⟨rfl, rfl⟩⟩⟩⟩
  replace hx := hx.mono hE11
  refine G_val (V_assign rfl rfl) rfl rfl (.none rfl) ?_
  refine G_end (X_then (G_seq (G_region ?_)))
  refine G_val (V_move rfl rfl) rfl rfl (.none rfl) ?_
  refine G_val (V_rem_n rfl rfl rfl (by omega) (by omega)) rfl rfl (.none rfl) ?_
  refine G_val (V_add_i64 rfl rfl rfl (by omega) (by omega)) rfl rfl (.none rfl) ?_
  (refine G_lit2 rfl rfl rfl rfl rfl rfl rfl (.none rfl) ?_; intro b19)
  refine G_val (V_move rfl rfl) rfl rfl (.none rfl) ?_
  refine G_val (V_quo_n rfl rfl rfl (by omega) (by omega) (by simp [IntKind.max, IntKind.signed, IntKind.bits]; omega)) rfl rfl (.none rfl) ?_
  refine G_val (V_rem_n rfl rfl rfl (by omega) (by omega)) rfl rfl (.none rfl) ?_
  refine G_val (V_add_i64 rfl rfl rfl (by omega) (by omega)) rfl rfl (.none rfl) ?_
  refine G_val (V_slHead rfl rfl rfl (by omega) (by omega)) rfl rfl (.none rfl) ?_
  refine G_val (V_build rfl rfl (by simp [fillV, setLs, setL, Value.cells]; rfl)) rfl rfl (.none rfl) ?_
  (refine G_alloc rfl rfl rfl (.none rfl) ?_; intro b4)
  refine G_storeA rfl rfl rfl rfl (by simp [Value.oneCell']) rfl (.none rfl) (.head _ _ _) rfl ?_
  refine G_end (X_then (G_seq (G_region ?_)))
  refine G_val (V_move rfl rfl) rfl rfl (.none rfl) ?_
  refine G_val (V_quo_n rfl rfl rfl (by omega) (by omega) (by simp [IntKind.max, IntKind.signed, IntKind.bits]; omega)) rfl rfl (.none rfl) ?_
  refine G_val (V_rem_n rfl rfl rfl (by omega) (by omega)) rfl rfl (.none rfl) ?_
  refine G_val (V_add_i64 rfl rfl rfl (by omega) (by omega)) rfl rfl (.none rfl) ?_
  refine G_val (V_assign rfl rfl) rfl rfl (.none rfl) ?_
  refine G_end (X_then (G_seq (G_seq (G_region ?_))))
  refine G_val (V_assign rfl rfl) rfl rfl (.none rfl) ?_
  refine G_end (X_then (G_block ?_))
  have hk : (1 : Int) ≤ 1 + (z12 : Int) % 2 ∧ 1 + (z12 : Int) % 2 ≤ 2 := by omega
  generalize (1 + (z12 : Int) % 2) = k at hk ⊢
  generalize hm : (1 + (z12 : Int) / 4 % 3) = mi
  have hm2 : 1 ≤ mi ∧ mi ≤ 3 := by omega
  obtain ⟨many, rfl⟩ := Int.eq_ofNat_of_zero_le (show 0 ≤ mi by omega)
  generalize hnt : (1 + (z12 : Int) / 2 % 2).toNat = nt
  have hnt2 : 1 ≤ nt ∧ nt ≤ 2 := by omega
  clear hm hnt
  refine G.freeze (.tail _ (.head _ _)) ?_
  intro E1 hE1 hok
  have htk : SlE E1 1 (some ⟨b19, 0, none⟩) nt (strs (tokL.take nt)) := by
    have := (SlE.lit (l := strs tokL) (n := 2) (sz := 1) hok rfl).head (i := nt) hnt2.2
    rw [Nat.mul_one, strs, ← List.map_take] at this
    exact this
  replace hx := hx.mono hE1
  refine G.nilSl 62 2 ?_
  refine G.nilSl 9 1 ?_
  refine G_loop (α := Nat × Env × (Option Addr × Nat) × (Option Addr × Nat × List Row)) (fun x => [(0, .slice p xs.length c), (2, .pointer (some ⟨b2, 0, none⟩)), (4, .pointer (some ⟨b4, 0, none⟩)), (5, .int .i64 many), (6, .int .i64 x.1)]) (fun x => x.2.1)
    (fun x => .sl 9 1 x.2.2.1.1 x.1 x.2.2.1.2 (strs (namL.take x.1)) :: .sl 62 2 x.2.2.2.1 x.2.2.2.2.2.length x.2.2.2.2.1 (prows x.2.2.2.2.2) ::
      .blk b4 (.cells #[.int .i64 k, .slice (some ⟨b19, 0, none⟩) nt 2, .string (S [122]), .slice x.2.2.1.1 x.1 x.2.2.1.2, .int .i64 16, .slice x.2.2.2.1 x.2.2.2.2.2.length x.2.2.2.2.1] 26 (0, 0)) ::
      .blk b2 (.cells #[.int .i64 0, .slice none 0 0, .string (S []), .slice none 0 0, .int .i64 0, .slice none 0 0] 26 (0, 0)) :: L)
    (fun x => E1.Le x.2.1 ∧ x.1 ≤ many ∧ Made nt many x.1 x.1 (x.2.2.2.2.2.map (·.2.2)) ∧ RowsE x.2.1 x.2.2.2.2.2 ∧ x.2.2.2.2.2.length ≤ 3 * x.1 ∧ x.2.2.2.2.2.length ≤ 7) (fun x => many - x.1) (0, E1, (none, 0), (none, 0, []))
    ⟨.refl _, Nat.zero_le _, Made.nil _ _, fun r hr => (by cases hr), Nat.zero_le _, Nat.zero_le _⟩ ⟨rfl, rfl, rfl, rfl, rfl, trivial⟩ rfl rfl ?_
  rintro ⟨i, E, ⟨na, nc⟩, ⟨pa, pc, rows⟩⟩ ⟨hE, hi, hmade, hrE, hl1, hl2⟩
  simp only at hE hi hmade hrE hl1 hl2 ⊢
  replace hx := hx.mono hE
  replace htk := htk.mono hE
  by_cases hlt : i < many
  · have hprl := prows_len rows
    have hnl : (strs (namL.take i)).length = i := by rw [strs, List.length_map, List.length_take]; simp [namL]; omega
    refine G_seq (G_seq (G_region ?_))
    refine G_val (V_move rfl rfl) rfl rfl (.none rfl) ?_
    refine G_val (V_move rfl rfl) rfl rfl (.none rfl) ?_
    refine G_val (V_lss rfl rfl rfl) rfl rfl (.none rfl) ?_
    refine G_end (X_then ?_)
    refine G_cond_t rfl (decide_eq_true (by omega)) ?_
    refine G_skip (X_then (G_seq (G_block (G_seq (G_region ?_)))))
    refine G_val (V_fieldAddr rfl rfl (by decide)) rfl rfl (.none rfl) ?_
    refine G_val (V_load rfl rfl (Cell.own (.tail _ (.tail _ (.head _))) rfl)) rfl rfl (.none rfl) ?_
    refine G_val (V_move rfl rfl) rfl rfl (.none rfl) ?_
    refine G_val (V_add_i64 rfl rfl rfl (by omega) (by omega)) rfl rfl (.none rfl) ?_
    refine G_val (V_conv_u8 rfl rfl (by omega) (by omega)) rfl rfl (.none rfl) ?_
    (refine G_lit1 rfl rfl rfl rfl rfl (.none rfl) ?_; intro b40)
    refine G.freeze (.head _ _) ?_
    intro E2 hE2 hok2
    have hbs : SlE E2 1 (some ⟨b40, 0, none⟩) 1 ([UInt8.ofNat (83 + i)].map fun b => .int .u8 b.toNat) := by
      have e : ((UInt8.ofNat (83 + i)).toNat : Int) = 83 + i := by
        obtain rfl | rfl | rfl : i = 0 ∨ i = 1 ∨ i = 2 := by omega
        all_goals rfl
      rw [List.map_cons, List.map_nil, e]; exact SlE.lit hok2 rfl
    have hne : strs (namL.take (i + 1)) = strs (namL.take i) ++ [.string (S [UInt8.ofNat (83 + i)])] := by
      obtain rfl | rfl | rfl : i = 0 ∨ i = 1 ∨ i = 2 := by omega
      all_goals rfl
    replace hx := hx.mono hE2
    replace htk := htk.mono hE2
    replace hrE := hrE.mono hE2
    replace hE := hE.trans hE2
    refine G_val (V_b2s rfl rfl (SlE.rd (by assumption))) rfl rfl (.none rfl) ?_
    (refine G_lit1 rfl rfl rfl rfl rfl (.none rfl) ?_; intro b42)
    (refine G_append rfl rfl rfl (Rd.lit (.head _) rfl) (by simp [Value.oneCell']) (by omega) (by omega) rfl rfl (.none rfl) (fun _ _ => (.tail _ (.head _ _ _))) ?_; intro a43 c43; refine G.rm (.head _ _) ?_)
    refine G_val (V_fieldAddr rfl rfl (by decide)) rfl rfl (.none rfl) ?_
    refine G_storeAt rfl rfl rfl rfl rfl rfl (.none rfl) (.tail _ (.tail _ (.head _ _ _))) (Nat.le_of_ble_eq_true rfl) (by simp only [putAll, Nat.zero_add, Nat.reduceAdd, List.setIfInBounds_toArray, List.set_cons_succ, List.set_cons_zero]; rfl) ?_
    refine G_end (X_then (G_seq (G_region ?_)))
    refine G_val (V_move rfl rfl) rfl rfl (.none rfl) ?_
    refine G_val (V_move rfl rfl) rfl rfl (.none rfl) ?_
    refine G_val (V_add_i64 rfl rfl rfl (by omega) (by omega)) rfl rfl (.none rfl) ?_
    refine G_call (k := 66) (.mk rfl rfl rfl rfl) rfl rfl (.none rfl) (At_call _ _ _ _ _ (by assumption) (by assumption) (by assumption) _) ?_
    rintro r1 E3 L4 hE5 ⟨z6, ⟨rfl, ⟨⟨Z8, Z9⟩, ⟨rfl, rfl⟩⟩⟩⟩
    replace hbs := hbs.mono hE5
    replace hx := hx.mono hE5
    replace htk := htk.mono hE5
    refine G_call (k := 19) (.mk rfl rfl rfl rfl) rfl rfl (.none rfl) (Mod_call'' _ _ _ _ (by omega) (by omega)) ?_
    rintro r10 E11 L12 hE13 ⟨z14, ⟨rfl, ⟨Z15, ⟨rfl, rfl⟩⟩⟩⟩
    replace hbs := hbs.mono hE13
    replace hx := hx.mono hE13
    replace htk := htk.mono hE13
    refine G_val (V_assign rfl rfl) rfl rfl (.none rfl) ?_
    refine G_end (X_then (G_seq (G_region ?_)))
    refine G_val (V_assign rfl rfl) rfl rfl (.none rfl) ?_
    refine G_end (X_then (G_block ?_))
    rw [← hne]
    refine G_loop (α := Nat × Env × Option Addr × Nat × List Row) (fun y => [(0, .slice p xs.length c), (2, .pointer (some ⟨b2, 0, none⟩)), (4, .pointer (some ⟨b4, 0, none⟩)), (5, .int .i64 many), (6, .int .i64 i), (7, .int .i64 z14), (8, .int .i64 y.1)]) (fun y => y.2.1)
      (fun y => .sl 9 1 a43 (i + 1) c43 (strs (namL.take (i + 1))) :: .sl 62 2 y.2.2.1 y.2.2.2.2.length y.2.2.2.1 (prows y.2.2.2.2) ::
        .blk b4 (.cells #[.int .i64 k, .slice (some ⟨b19, 0, none⟩) nt 2, .string (S [122]), .slice a43 (i + 1) c43, .int .i64 16, .slice y.2.2.1 y.2.2.2.2.length y.2.2.2.1] 26 (0, 0)) ::
        .blk b2 (.cells #[.int .i64 0, .slice none 0 0, .string (S []), .slice none 0 0, .int .i64 0, .slice none 0 0] 26 (0, 0)) :: L)
      (fun y => E2.Le y.2.1 ∧ y.1 ≤ z14 % 3 + 1 ∧ Made nt many i (i + 1) (y.2.2.2.2.map (·.2.2)) ∧ (0 < y.1 → ∃ q, q ∈ y.2.2.2.2.map (·.2.2) ∧ q.1 = 16 + (i : Int)) ∧ RowsE y.2.1 y.2.2.2.2 ∧ y.2.2.2.2.length ≤ 3 * i + y.1 ∧ y.2.2.2.2.length ≤ 7) (fun y => z14 % 3 + 1 - y.1) (0, E2, pa, pc, rows)
      ⟨.refl _, Nat.zero_le _, hmade.up (Nat.le_succ _), fun h => (by cases h), hrE, hl1, hl2⟩ ⟨rfl, rfl, rfl, rfl, rfl, rfl, rfl, trivial⟩ rfl rfl ?_
    rintro ⟨j, E3, pa, pc, rows⟩ ⟨hE3, hj, hmade, hcomp, hrE, hl1, hl2⟩
    simp only at hE3 hj hmade hcomp hrE hl1 hl2 ⊢
    replace hx := hx.mono hE3
    replace htk := htk.mono hE3
    have hprl := prows_len rows
    by_cases hgo : j ≤ z14 % 3 ∧ rows.length < 7
    · obtain ⟨hgo1, hgo2⟩ := hgo
      refine G_seq (G_seq (G_region ?_))
      refine G_val (V_move rfl rfl) rfl rfl (.none rfl) ?_
      refine G_val (V_move rfl rfl) rfl rfl (.none rfl) ?_
      refine G_val (V_rem_n rfl rfl rfl (by omega) (by omega)) rfl rfl (.none rfl) ?_
      refine G_val (V_leq rfl rfl rfl) rfl rfl (.none rfl) ?_
      refine G_val (V_move rfl rfl) rfl rfl (.none rfl) ?_
      refine G.bool_t 54 rfl (decide_eq_true (by omega)) ?_
      refine G_val (V_fieldAddr rfl rfl (by decide)) rfl rfl (.yes rfl rfl rfl rfl) ?_
      refine G_val (V_load rfl rfl (Cell.own (.tail _ (.tail _ (.head _))) rfl)) rfl rfl (.yes rfl rfl rfl rfl) ?_
      refine G_val (V_lenS rfl rfl) rfl rfl (.yes rfl rfl rfl rfl) ?_
      refine G_val (V_lss rfl rfl rfl) rfl rfl (.yes rfl rfl rfl rfl) ?_
      refine G_val (V_pick_t rfl rfl rfl) rfl rfl (.none rfl) ?_
      refine G_end (X_then ?_)
      refine G_cond_t rfl (decide_eq_true (by omega)) ?_
      refine G_skip (X_then (G_seq (G_block (G_seq (G_region ?_)))))
      refine G_val (V_move rfl rfl) rfl rfl (.none rfl) ?_
      refine G_val (V_add_i64 rfl rfl rfl (by omega) (by omega)) rfl rfl (.none rfl) ?_
      refine G_val (V_build rfl rfl (by simp [fillV, setLs, setL, Value.cells]; rfl)) rfl rfl (.none rfl) ?_
      (refine G_alloc rfl rfl rfl (.none rfl) ?_; intro b9)
      refine G_storeA rfl rfl rfl rfl (by simp [Value.oneCell']) rfl (.none rfl) (.head _ _ _) rfl ?_
      refine G_end (X_then (G_seq (G_region ?_)))
      refine G_val (V_move rfl rfl) rfl rfl (.none rfl) ?_
      refine G_val (V_move rfl rfl) rfl rfl (.none rfl) ?_
      refine G_val (V_mul_i64 rfl rfl rfl (by omega) (by omega)) rfl rfl (.none rfl) ?_
      refine G_val (V_add_i64 rfl rfl rfl (by omega) (by omega)) rfl rfl (.none rfl) ?_
      refine G_val (V_move rfl rfl) rfl rfl (.none rfl) ?_
      refine G_val (V_add_i64 rfl rfl rfl (by omega) (by omega)) rfl rfl (.none rfl) ?_
      refine G_call (k := 66) (.mk rfl rfl rfl rfl) rfl rfl (.none rfl) (At_call _ _ _ _ _ (by assumption) (by assumption) (by assumption) _) ?_
      rintro r1 E4 L5 hE6 ⟨z7, ⟨rfl, ⟨⟨Z10, Z11⟩, ⟨rfl, rfl⟩⟩⟩⟩
      replace hx := hx.mono hE6
      replace htk := htk.mono hE6
      refine G_call (k := 19) (.mk rfl rfl rfl rfl) rfl rfl (.none rfl) (Mod_call'' _ _ _ _ (by omega) (by omega)) ?_
      rintro r12 E13 L14 hE15 ⟨z16, ⟨rfl, ⟨Z17, ⟨rfl, rfl⟩⟩⟩⟩
      replace hx := hx.mono hE15
      replace htk := htk.mono hE15
      refine G_val (V_assign rfl rfl) rfl rfl (.none rfl) ?_
      refine G_end (X_then (G_seq (G_seq (G_region ?_))))
      refine G_val (V_assign rfl rfl) rfl rfl (.none rfl) ?_
      refine G_end (X_then (G_block ?_))
      refine G.nilSl 3 1 ?_
      refine G_loop (α := Nat × Env × Option Addr × Nat × List Int) (fun y => [(0, .slice p xs.length c), (2, .pointer (some ⟨b2, 0, none⟩)), (4, .pointer (some ⟨b4, 0, none⟩)), (5, .int .i64 many), (6, .int .i64 i), (7, .int .i64 z14), (8, .int .i64 j), (9, .pointer (some ⟨b9, 0, none⟩)), (10, .int .i64 z16), (11, .int .i64 y.1)]) (fun y => y.2.1)
        (fun y => .sl 3 1 y.2.2.1 y.1 y.2.2.2.1 (i64s y.2.2.2.2) :: .blk b9 (.cells #[.int .i64 (16 + (i : Int)), .slice y.2.2.1 y.1 y.2.2.2.1] 62 (0, 0)) :: .sl 9 1 a43 (i + 1) c43 (strs (namL.take (i + 1))) :: .sl 62 2 pa rows.length pc (prows rows) ::
          .blk b4 (.cells #[.int .i64 k, .slice (some ⟨b19, 0, none⟩) nt 2, .string (S [122]), .slice a43 (i + 1) c43, .int .i64 16, .slice pa rows.length pc] 26 (0, 0)) ::
          .blk b2 (.cells #[.int .i64 0, .slice none 0 0, .string (S []), .slice none 0 0, .int .i64 0, .slice none 0 0] 26 (0, 0)) :: L)
        (fun y => E3.Le y.2.1 ∧ y.1 ≤ z16 % 4 ∧ y.2.2.2.2.length = y.1 ∧ ∀ s, s ∈ y.2.2.2.2 → (0 ≤ s ∧ s < nt) ∨ (16 ≤ s ∧ s < 16 + (many : Int))) (fun y => z16 % 4 - y.1) (0, E3, none, 0, [])
        ⟨.refl _, Nat.zero_le _, rfl, fun s hs => (by cases hs)⟩ ⟨rfl, rfl, rfl, rfl, rfl, rfl, rfl, rfl, rfl, rfl, trivial⟩ rfl rfl ?_
      rintro ⟨k2, E4, ra, rc, r⟩ ⟨hE4, hk2, hrl, hrs⟩
      simp only at hE4 hk2 hrl hrs ⊢
      replace hx := hx.mono hE4
      replace htk := htk.mono hE4
      replace hrE := hrE.mono hE4
      have hrl2 : (i64s r).length = k2 := by rw [i64s, List.length_map]; exact hrl
      by_cases hlt2 : k2 < z16 % 4
      · have hsh : 0 ≤ shrI .i64 ((z16 : Int) / 4) (4 * (k2 : Int)) := Int.fdiv_nonneg (by omega) (Int.le_of_lt (Int.pow_pos (by decide)))
        have h16 : 0 ≤ shrI .i64 ((z16 : Int) / 4) (4 * (k2 : Int)) % 16 := by omega
        have hm1 := Int.emod_nonneg (shrI .i64 ((z16 : Int) / 4) (4 * (k2 : Int)) % 16) (b := many) (by omega)
        have hm3 := Int.emod_lt_of_pos (shrI .i64 ((z16 : Int) / 4) (4 * (k2 : Int)) % 16) (b := many) (by omega)
        have hm4 := Int.emod_nonneg (shrI .i64 ((z16 : Int) / 4) (4 * (k2 : Int)) % 16) (b := nt) (by omega)
        have hm5 := Int.emod_lt_of_pos (shrI .i64 ((z16 : Int) / 4) (4 * (k2 : Int)) % 16) (b := nt) (by omega)
        by_cases h3 : shrI .i64 ((z16 : Int) / 4) (4 * (k2 : Int)) % 16 % 5 < 3
        · refine G_seq ?_
          refine G_seq (G_region ?_)
          refine G_val (V_move rfl rfl) rfl rfl (.none rfl) ?_
          refine G_val (V_move rfl rfl) rfl rfl (.none rfl) ?_
          refine G_val (V_rem_n rfl rfl rfl (by omega) (by omega)) rfl rfl (.none rfl) ?_
          refine G_val (V_lss rfl rfl rfl) rfl rfl (.none rfl) ?_
          refine G_end (X_then ?_)
          refine G_cond_t rfl (decide_eq_true (by omega)) ?_
          refine G_skip (X_then (G_seq (G_block (G_seq (G_region ?_)))))
          refine G_val (V_move rfl rfl) rfl rfl (.none rfl) ?_
          refine G_val (V_quo_n rfl rfl rfl (by omega) (by omega) (by simp [IntKind.max, IntKind.signed, IntKind.bits]; omega)) rfl rfl (.none rfl) ?_
          refine G_val (V_move rfl rfl) rfl rfl (.none rfl) ?_
          refine G_val (V_mul_i64 rfl rfl rfl (by omega) (by omega)) rfl rfl (.none rfl) ?_
          refine G_val (V_conv_u64 rfl rfl (by omega) (by omega)) rfl rfl (.none rfl) ?_
          refine G_val (V_shr rfl rfl rfl (by omega)) rfl rfl (.none rfl) ?_
          refine G_val (V_rem_n rfl rfl rfl (by omega) (by omega)) rfl rfl (.none rfl) ?_
          refine G_val (V_assign rfl rfl) rfl rfl (.none rfl) ?_
          refine G_end (X_then (G_seq (G_region ?_)))
          refine G_val (V_move rfl rfl) rfl rfl (.none rfl) ?_
          refine G_val (V_rem_n rfl rfl rfl (by omega) (by omega)) rfl rfl (.none rfl) ?_
          refine G_val (V_lss rfl rfl rfl) rfl rfl (.none rfl) ?_
          refine G_end (X_then ?_)
          refine G_cond_t rfl (decide_eq_true (by omega)) ?_
          refine G_drawX 8 [(0, 0), (1, 1), (2, 0), (3, 0), (4, 1), (5, 0), (6, 0), (7, 2)] mixed (by kernel_rfl) ?_
          refine F_pure rfl (fun _ _ => V_fieldAddr rfl rfl (by decide)) rfl rfl (.none rfl) ?_
          refine F_load rfl (.tail _ (.head _)) (V_load rfl rfl (Cell.own (.head _) rfl)) rfl rfl (.none rfl) ?_
          refine F_pure rfl (fun _ _ => V_move rfl rfl) rfl rfl (.none rfl) ?_
          refine F_pure rfl (fun _ _ => V_fieldAddr rfl rfl (by decide)) rfl rfl (.none rfl) ?_
          refine F_load rfl (.tail _ (.tail _ (.tail _ (.tail _ (.head _))))) (V_load rfl rfl (Cell.own (.head _) rfl)) rfl rfl (.none rfl) ?_
          refine F_pure rfl (fun _ _ => V_lenS rfl rfl) rfl rfl (.none rfl) ?_
          refine F_pure rfl (fun _ _ => V_rem_n rfl rfl rfl (by omega) (by omega)) rfl rfl (.none rfl) ?_
          (refine F_litZ rfl rfl rfl (by decide) (by simp [fillS, zeros, setLs, setL, Value.cells, List.range, List.range.loop]; rfl) (by rfl) rfl rfl (.none rfl) ?_; intro b96 E96 hE96 hs96)
          replace hx := hx.mono hE96
          replace htk := htk.mono hE96
          (refine F_end (.nil _) ?_; dsimp only [List.drop])
          (refine G_append rfl rfl rfl (SlE.rd (by assumption)) (by simp [Value.oneCell']) (by omega) (by omega) rfl rfl (.none rfl) (fun _ _ => (.head _ _ _)) ?_; intro a97 c97)
          refine G_val (V_fieldAddr rfl rfl (by decide)) rfl rfl (.none rfl) ?_
          refine G_storeAt rfl rfl rfl rfl rfl rfl (.none rfl) (.tail _ (.head _ _ _)) (Nat.le_of_ble_eq_true rfl) (by simp only [putAll, Nat.zero_add, Nat.reduceAdd, List.setIfInBounds_toArray, List.set_cons_succ, List.set_cons_zero]; rfl) ?_
          refine G_end (X_block (X_then (G_region ?_)))
          refine G_val (V_move rfl rfl) rfl rfl (.none rfl) ?_
          refine G_val (V_add_i64 rfl rfl rfl (by omega) (by omega)) rfl rfl (.none rfl) ?_
          refine G_val (V_assign rfl rfl) rfl rfl (.none rfl) ?_
          refine G_end (X_then ?_)
          refine G_again (k2 + 1, E96, a97, c97, r ++ [shrI .i64 ((z16 : Int) / 4) (4 * (k2 : Int)) % 16 % nt]) ⟨hE4.trans hE96, hlt2, by rw [List.length_append, hrl]; rfl, fun s hs => ?_⟩ (by simp only; omega) ⟨rfl, rfl, rfl, rfl, rfl, rfl, rfl, rfl, rfl, rfl, trivial⟩ rfl (by rw [i64s_snoc])
          rcases List.mem_append.1 hs with hs | hs
          · exact hrs s hs
          · rw [List.mem_singleton.1 hs]; exact .inl ⟨hm4, hm5⟩
        · refine G_seq ?_
          refine G_seq (G_region ?_)
          refine G_val (V_move rfl rfl) rfl rfl (.none rfl) ?_
          refine G_val (V_move rfl rfl) rfl rfl (.none rfl) ?_
          refine G_val (V_rem_n rfl rfl rfl (by omega) (by omega)) rfl rfl (.none rfl) ?_
          refine G_val (V_lss rfl rfl rfl) rfl rfl (.none rfl) ?_
          refine G_end (X_then ?_)
          refine G_cond_t rfl (decide_eq_true (by omega)) ?_
          refine G_skip (X_then (G_seq (G_block (G_seq (G_region ?_)))))
          refine G_val (V_move rfl rfl) rfl rfl (.none rfl) ?_
          refine G_val (V_quo_n rfl rfl rfl (by omega) (by omega) (by simp [IntKind.max, IntKind.signed, IntKind.bits]; omega)) rfl rfl (.none rfl) ?_
          refine G_val (V_move rfl rfl) rfl rfl (.none rfl) ?_
          refine G_val (V_mul_i64 rfl rfl rfl (by omega) (by omega)) rfl rfl (.none rfl) ?_
          refine G_val (V_conv_u64 rfl rfl (by omega) (by omega)) rfl rfl (.none rfl) ?_
          refine G_val (V_shr rfl rfl rfl (by omega)) rfl rfl (.none rfl) ?_
          refine G_val (V_rem_n rfl rfl rfl (by omega) (by omega)) rfl rfl (.none rfl) ?_
          refine G_val (V_assign rfl rfl) rfl rfl (.none rfl) ?_
          refine G_end (X_then (G_seq (G_region ?_)))
          refine G_val (V_move rfl rfl) rfl rfl (.none rfl) ?_
          refine G_val (V_rem_n rfl rfl rfl (by omega) (by omega)) rfl rfl (.none rfl) ?_
          refine G_val (V_lss rfl rfl rfl) rfl rfl (.none rfl) ?_
          refine G_end (X_then ?_)
          refine G_cond_f rfl (decide_eq_false (by omega)) ?_
          refine G_drawX 7 [(0, 0), (1, 1), (2, 0), (3, 0), (4, 0), (5, 0), (6, 2)] mixed (by kernel_rfl) ?_
          refine F_pure rfl (fun _ _ => V_fieldAddr rfl rfl (by decide)) rfl rfl (.none rfl) ?_
          refine F_load rfl (.tail _ (.head _)) (V_load rfl rfl (Cell.own (.head _) rfl)) rfl rfl (.none rfl) ?_
          refine F_pure rfl (fun _ _ => V_move rfl rfl) rfl rfl (.none rfl) ?_
          refine F_pure rfl (fun _ _ => V_move rfl rfl) rfl rfl (.none rfl) ?_
          refine F_pure rfl (fun _ _ => V_rem_n rfl rfl rfl (by omega) (by omega)) rfl rfl (.none rfl) ?_
          refine F_pure rfl (fun _ _ => V_add_i64 rfl rfl rfl (by omega) (by omega)) rfl rfl (.none rfl) ?_
          (refine F_litZ rfl rfl rfl (by decide) (by simp [fillS, zeros, setLs, setL, Value.cells, List.range, List.range.loop]; rfl) (by rfl) rfl rfl (.none rfl) ?_; intro b105 E105 hE105 hs105)
          replace hx := hx.mono hE105
          replace htk := htk.mono hE105
          (refine F_end (.nil _) ?_; dsimp only [List.drop])
          (refine G_append rfl rfl rfl (SlE.rd (by assumption)) (by simp [Value.oneCell']) (by omega) (by omega) rfl rfl (.none rfl) (fun _ _ => (.head _ _ _)) ?_; intro a106 c106)
          refine G_val (V_fieldAddr rfl rfl (by decide)) rfl rfl (.none rfl) ?_
          refine G_storeAt rfl rfl rfl rfl rfl rfl (.none rfl) (.tail _ (.head _ _ _)) (Nat.le_of_ble_eq_true rfl) (by simp only [putAll, Nat.zero_add, Nat.reduceAdd, List.setIfInBounds_toArray, List.set_cons_succ, List.set_cons_zero]; rfl) ?_
          refine G_end (X_block (X_then (G_region ?_)))
          refine G_val (V_move rfl rfl) rfl rfl (.none rfl) ?_
          refine G_val (V_add_i64 rfl rfl rfl (by omega) (by omega)) rfl rfl (.none rfl) ?_
          refine G_val (V_assign rfl rfl) rfl rfl (.none rfl) ?_
          refine G_end (X_then ?_)
          refine G_again (k2 + 1, E105, a106, c106, r ++ [16 + shrI .i64 ((z16 : Int) / 4) (4 * (k2 : Int)) % 16 % many]) ⟨hE4.trans hE105, hlt2, by rw [List.length_append, hrl]; rfl, fun s hs => ?_⟩ (by simp only; omega) ⟨rfl, rfl, rfl, rfl, rfl, rfl, rfl, rfl, rfl, rfl, trivial⟩ rfl (by rw [i64s_snoc])
          rcases List.mem_append.1 hs with hs | hs
          · exact hrs s hs
          · rw [List.mem_singleton.1 hs]; exact .inr ⟨by omega, by omega⟩
      · refine G.freezeSl (.head _ _) ?_
        intro E5 hE5 hra hrc
        replace hx := hx.mono hE5
        replace htk := htk.mono hE5
        replace hrE := hrE.mono hE5
        refine G_seq (G_seq (G_region ?_))
        refine G_val (V_move rfl rfl) rfl rfl (.none rfl) ?_
        refine G_val (V_move rfl rfl) rfl rfl (.none rfl) ?_
        refine G_val (V_rem_n rfl rfl rfl (by omega) (by omega)) rfl rfl (.none rfl) ?_
        refine G_val (V_lss rfl rfl rfl) rfl rfl (.none rfl) ?_
        refine G_end (X_then ?_)
        refine G_cond_f rfl (decide_eq_false (by omega)) ?_
        refine G_exit (X_then_exit (X_then_exit (X_block_hit (X_then (G_region ?_)))))
        refine G_val (V_fieldAddr rfl rfl (by decide)) rfl rfl (.none rfl) ?_
        refine G_val (V_load rfl rfl (Cell.own (.tail _ (.tail _ (.tail _ (.head _)))) rfl)) rfl rfl (.none rfl) ?_
        refine G_val (V_loadA rfl rfl (Cells.own (.head _)) rfl) rfl rfl (.none rfl) ?_
        (refine G_lit rfl rfl (by decide) (by simp [fillS, zeros, setLs, setL, Value.cells, List.range, List.range.loop]; rfl) rfl rfl (.none rfl) ?_; intro b111)
        (refine G_append rfl rfl rfl (Rd.lit (.head _) rfl) (by simp [Value.oneCell']) (by omega) (by omega) rfl rfl (.none rfl) (fun _ _ => (.tail _ (.tail _ (.tail _ (.head _ _ _))))) ?_; intro a112 c112; refine G.rm (.head _ _) ?_)
        refine G_val (V_fieldAddr rfl rfl (by decide)) rfl rfl (.none rfl) ?_
        refine G_storeAt rfl rfl rfl rfl rfl rfl (.none rfl) (.tail _ (.tail _ (.tail _ (.head _ _ _)))) (Nat.le_of_ble_eq_true rfl) (by simp only [putAll, Nat.zero_add, Nat.reduceAdd, List.setIfInBounds_toArray, List.set_cons_succ, List.set_cons_zero]; rfl) ?_
        refine G_end (X_block (X_then (G_region ?_)))
        refine G_val (V_move rfl rfl) rfl rfl (.none rfl) ?_
        refine G_val (V_add_i64 rfl rfl rfl (by omega) (by omega)) rfl rfl (.none rfl) ?_
        refine G_val (V_assign rfl rfl) rfl rfl (.none rfl) ?_
        refine G_end (X_then ?_)
        have hap := prows_append rows [(ra, rc, (16 + (i : Int), r))]
        subst hrl
        have hsn := hmade.snoc (r := r) (by omega) hrs
        refine G.drop ?_
        refine G_again (j + 1, E5, a112, c112, rows ++ [(ra, rc, (16 + (i : Int), r))]) ⟨(hE3.trans hE4).trans hE5, by simp only; omega, by rw [List.map_append]; exact hsn, fun _ => ⟨(16 + (i : Int), r), List.mem_map.2 ⟨_, List.mem_append.2 (.inr (.head _)), rfl⟩, rfl⟩, fun y hy => ?_, by rw [List.length_append]; simp only [List.length_singleton]; omega, by rw [List.length_append]; simp only [List.length_singleton]; omega⟩
          (by simp only; omega) ⟨rfl, rfl, rfl, rfl, rfl, rfl, rfl, trivial⟩ rfl (by rw [List.length_append, hap]; rfl)
        rcases List.mem_append.1 hy with h | h
        · exact hrE y h
        · rw [List.mem_singleton.1 h]; exact hra
    · have hj0 : 0 < j := by omega
      refine G_seq (G_seq (G_region ?_))
      refine G_val (V_move rfl rfl) rfl rfl (.none rfl) ?_
      refine G_val (V_move rfl rfl) rfl rfl (.none rfl) ?_
      refine G_val (V_rem_n rfl rfl rfl (by omega) (by omega)) rfl rfl (.none rfl) ?_
      refine G_val (V_leq rfl rfl rfl) rfl rfl (.none rfl) ?_
      refine G_val (V_move rfl rfl) rfl rfl (.none rfl) ?_
      apply G_joinAnd 5 54 59 rfl
      · intro H1
        dsimp only [List.take]
        simp only [Bool.and_eq_true, Bool.or_eq_true, Bool.not_eq_true', Bool.not_eq_false', Bool.and_eq_false_iff, Bool.or_eq_false_iff, Bool.not_not, decide_eq_true_eq, decide_eq_false_iff_not, ne_eq, Decidable.not_not, Bool.decide_eq_true] at H1
        refine G_val (V_fieldAddr rfl rfl (by decide)) rfl rfl (.yes rfl rfl rfl rfl) ?_
        refine G_val (V_load rfl rfl (Cell.own (.tail _ (.tail _ (.head _))) rfl)) rfl rfl (.yes rfl rfl rfl rfl) ?_
        refine G_val (V_lenS rfl rfl) rfl rfl (.yes rfl rfl rfl rfl) ?_
        refine G_val (V_lss rfl rfl rfl) rfl rfl (.yes rfl rfl rfl rfl) ?_
        refine G_val (V_pick_t rfl rfl rfl) rfl rfl (.none rfl) ?_
        refine G_end ?_
        exact JQ_end 5 rfl rfl (by kernel_rfl)
      · intro H2
        dsimp only [List.take]
        simp only [Bool.and_eq_true, Bool.or_eq_true, Bool.not_eq_true', Bool.not_eq_false', Bool.and_eq_false_iff, Bool.or_eq_false_iff, Bool.not_not, decide_eq_true_eq, decide_eq_false_iff_not, ne_eq, Decidable.not_not, Bool.decide_eq_true] at H2
        refine G_stay (.no rfl rfl rfl rfl) rfl rfl ?_
        refine G_stay (.no rfl rfl rfl rfl) rfl rfl ?_
        refine G_stay (.no rfl rfl rfl rfl) rfl rfl ?_
        refine G_stay (.no rfl rfl rfl rfl) rfl rfl ?_
        refine G_val (V_pick_f rfl rfl rfl) rfl rfl (.none rfl) ?_
        refine G_end ?_
        exact JQ_end 5 rfl rfl (by kernel_rfl)
      dsimp only [List.drop]
      refine G_end (X_then ?_)
      refine G_cond rfl (fun H3 => ?_) (fun H3 => ?_)
      · simp only [Bool.and_eq_true, Bool.or_eq_true, Bool.not_eq_true', Bool.not_eq_false', Bool.and_eq_false_iff, Bool.or_eq_false_iff, Bool.not_not, decide_eq_true_eq, decide_eq_false_iff_not, ne_eq, Decidable.not_not, Bool.decide_eq_true] at H3
        (exfalso; omega)
      simp only [Bool.and_eq_true, Bool.or_eq_true, Bool.not_eq_true', Bool.not_eq_false', Bool.and_eq_false_iff, Bool.or_eq_false_iff, Bool.not_not, decide_eq_true_eq, decide_eq_false_iff_not, ne_eq, Decidable.not_not, Bool.decide_eq_true] at H3
      refine G_exit (X_then_exit (X_then_exit (X_block_hit (X_block (X_then (G_region ?_))))))
      refine G_val (V_move rfl rfl) rfl rfl (.none rfl) ?_
      refine G_val (V_add_i64 rfl rfl rfl (by omega) (by omega)) rfl rfl (.none rfl) ?_
      refine G_val (V_assign rfl rfl) rfl rfl (.none rfl) ?_
      refine G_end (X_then ?_)
      exact G_again (i + 1, E3, (a43, c43), (pa, pc, rows)) ⟨hE.trans hE3, hlt, hmade.next (hcomp hj0), hrE, by simp only; omega, hl2⟩ (by simp only; omega) ⟨rfl, rfl, rfl, rfl, rfl, trivial⟩ rfl rfl
  · have hi2 : i = many := by omega
    subst hi2
    have hall := made_check hmade hk hnt2 (by omega) (by rw [List.length_map]; exact hl2)
    refine G.freezeSl (.head _ _) ?_
    intro E2 hE2 hna hnc
    refine G.freezeSl (.head _ _) ?_
    intro E3 hE3 hpa hpc
    have hgr : GrE E3 (.agg #[.int .i64 k, .slice (some ⟨b19, 0, none⟩) nt 2, .string (S [122]), .slice na i nc, .int .i64 16, .slice pa rows.length pc]) ⟨k, tokL.take nt, [122], namL.take i, 16, rows.map (·.2.2)⟩ := by
      have e1 : (tokL.take nt).length = nt := by rw [List.length_take]; simp [tokL]; omega
      have e2 : (namL.take i).length = i := by rw [List.length_take]; simp [namL]; omega
      have e3 : (rows.map (·.2.2)).length = rows.length := List.length_map _
      have := GrE.mk (E := E3) (g := ⟨k, tokL.take nt, [122], namL.take i, 16, rows.map (·.2.2)⟩) (tp := some ⟨b19, 0, none⟩) (np := na) (pp := pa) (tc := 2) (nc := nc) (pc := pc)
        (by simp only [e1]; exact (htk.mono hE2).mono hE3) (by simp only [e2]; exact hna.mono hE3) ⟨rows, rfl, by simp only [e3]; exact hpa, (hrE.mono hE2).mono hE3⟩ (by simp only [e1]; omega) (by simp only [e2]; exact hnc) (by simp only [e3]; exact hpc)
      simp only [e1, e2, e3] at this
      exact this
    have h1 := hall.1
    have h2 := hall.2
    refine G_seq (G_seq (G_region ?_))
    refine G_val (V_move rfl rfl) rfl rfl (.none rfl) ?_
    refine G_val (V_move rfl rfl) rfl rfl (.none rfl) ?_
    refine G_val (V_lss rfl rfl rfl) rfl rfl (.none rfl) ?_
    refine G_end (X_then ?_)
    refine G_cond_f rfl (decide_eq_false (by omega)) ?_
    refine G_exit (X_then_exit (X_then_exit (X_block_hit (X_then (G_seq (G_region ?_))))))
    refine G_val (V_loadA rfl rfl (Cells.own (.head _)) rfl) rfl rfl (.none rfl) ?_
    refine G_storeA rfl rfl rfl rfl (by simp [Value.oneCell']) rfl (.none rfl) (.tail _ (.head _ _ _)) rfl ?_
    refine G_end (X_then (G_ret ?_))
    refine G_leaveS (.drop _ (.drop _ (.nil _))) (by exact (.cons (.cellA rfl (Cells.own (.tail _ (.head _))) rfl) (.nil))) rfl ?_ ?_
    · exact (((hE1.trans hE).trans hE2).trans hE3)
    exact ⟨_, ⟨(by assumption), ⟨(by assumption), ⟨(by (simp [resVal, *]; done)), (by rfl)⟩⟩⟩⟩
end
end Go.Proofs.Ytaoinojdijbhaaa
namespace Go.Proofs.Ytaoinojdijbhaaa
open Go.RowKit
/-! The least costs, production by production. -/
section
variable {ps : List Pr} {n : Nat} {t : Option Nat} {own : Nat} {f : Tab}
theorem IsLeast.from (h : IsLeast ps n t own f) {s : Int} {c : Nat} (hs : 16 ≤ s) (hc : tget f s = some c) : ∃ p, p ∈ ps ∧ p.1 = s ∧ ∃ a, cost t f p.2 = some a ∧ c = own + a := by
  have hd := h.sound s c hs hc
  generalize hl : [s] = l at hd
  cases hd with
  | nil => cases hl
  | term h1 h2 h3 => cases hl; omega
  | @non p r a b hp h16 h1 h2 =>
    obtain ⟨rfl, rfl⟩ := List.cons.inj hl
    cases h2
    obtain ⟨a', ha, hle⟩ := h.stable.le h1
    obtain ⟨c', hc', hle'⟩ := h.stable p hp a' ha
    have : c' = own + a + 0 := Option.some.inj (hc'.symm.trans hc)
    exact ⟨p, hp, rfl, a', ha, by omega⟩
def minO : Option Nat → Option Nat → Option Nat
  | w, none => w
  | none, some c => some c
  | some d, some c => if c < d then some c else some d
theorem minO_none (w : Option Nat) : minO w none = w := by cases w <;> rfl
def stepC (t : Option Nat) (own : Nat) (f : Tab) (s : Int) (w : Option Nat) (p : Pr) : Option Nat := if p.1 = s then minO w (addO (some own) (cost t f p.2)) else w
def foldC (t : Option Nat) (own : Nat) (f : Tab) (s : Int) (l : List Pr) : Option Nat := l.foldl (stepC t own f s) none
theorem stepC_le {s : Int} {w : Option Nat} {p : Pr} {d : Nat} (h : w = some d) : ∃ e, stepC t own f s w p = some e ∧ e ≤ d := by
  subst h
  rw [stepC]
  by_cases h1 : p.1 = s
  · rw [if_pos h1]
    cases hc : addO (some own) (cost t f p.2) with
    | none => exact ⟨d, rfl, Nat.le_refl _⟩
    | some c =>
      rw [minO]
      by_cases hlt : c < d
      · rw [if_pos hlt]; exact ⟨c, rfl, by omega⟩
      · rw [if_neg hlt]; exact ⟨d, rfl, by omega⟩
  · rw [if_neg h1]; exact ⟨d, rfl, Nat.le_refl _⟩
theorem stepC_hit {s : Int} {w : Option Nat} {p : Pr} {c : Nat} (h1 : p.1 = s) (hc : cost t f p.2 = some c) : ∃ e, stepC t own f s w p = some e ∧ e ≤ own + c := by
  rw [stepC, if_pos h1, hc]
  show ∃ e, minO w (some (own + c)) = some e ∧ _
  cases w with
  | none => exact ⟨own + c, rfl, Nat.le_refl _⟩
  | some d =>
    rw [minO]
    by_cases hlt : own + c < d
    · rw [if_pos hlt]; exact ⟨_, rfl, Nat.le_refl _⟩
    · rw [if_neg hlt]; exact ⟨d, rfl, by omega⟩
theorem stepC_from {s : Int} {w : Option Nat} {p : Pr} {d : Nat} (h : stepC t own f s w p = some d) : w = some d ∨ (p.1 = s ∧ ∃ c, cost t f p.2 = some c ∧ d = own + c) := by
  rw [stepC] at h
  by_cases h1 : p.1 = s
  · rw [if_pos h1] at h
    cases hc : cost t f p.2 with
    | none => rw [hc] at h; rw [show addO (some own) none = none from rfl, minO_none] at h; exact .inl h
    | some c =>
      rw [hc] at h
      replace h : minO w (some (own + c)) = some d := h
      cases w with
      | none => exact .inr ⟨h1, c, rfl, (Option.some.inj h).symm⟩
      | some e =>
        rw [minO] at h
        by_cases hlt : own + c < e
        · rw [if_pos hlt] at h; exact .inr ⟨h1, c, rfl, (Option.some.inj h).symm⟩
        · rw [if_neg hlt] at h; exact .inl h
  · rw [if_neg h1] at h; exact .inl h
theorem foldC_le {s : Int} : ∀ (l : List Pr) (w : Option Nat) (d : Nat), w = some d → ∃ e, l.foldl (stepC t own f s) w = some e ∧ e ≤ d := by
  intro l
  induction l with
  | nil => intro w d h; exact ⟨d, h, Nat.le_refl _⟩
  | cons p l ih =>
    intro w d h
    obtain ⟨e, h1, h2⟩ := stepC_le (t := t) (own := own) (f := f) (s := s) (p := p) h
    obtain ⟨e', h3, h4⟩ := ih _ e h1
    exact ⟨e', h3, by omega⟩
theorem foldC_hit {s : Int} : ∀ (l : List Pr) (w : Option Nat) (p : Pr) (c : Nat), p ∈ l → p.1 = s → cost t f p.2 = some c → ∃ e, l.foldl (stepC t own f s) w = some e ∧ e ≤ own + c := by
  intro l
  induction l with
  | nil => intro w p c h; cases h
  | cons q l ih =>
    intro w p c h h1 hc
    rcases List.mem_cons.1 h with rfl | h
    · obtain ⟨e, h2, h3⟩ := stepC_hit (own := own) (w := w) h1 hc
      obtain ⟨e', h4, h5⟩ := foldC_le (t := t) (own := own) (f := f) (s := s) l _ e h2
      exact ⟨e', h4, by omega⟩
    · exact ih _ p c h h1 hc
theorem foldC_from {s : Int} : ∀ (l : List Pr) (w : Option Nat) (d : Nat), l.foldl (stepC t own f s) w = some d → w = some d ∨ ∃ p, p ∈ l ∧ p.1 = s ∧ ∃ c, cost t f p.2 = some c ∧ d = own + c := by
  intro l
  induction l with
  | nil => intro w d h; exact .inl h
  | cons q l ih =>
    intro w d h
    rcases ih _ d h with h | ⟨p, hp, h⟩
    · rcases stepC_from h with h | h
      · exact .inl h
      · exact .inr ⟨q, .head _, h⟩
    · exact .inr ⟨p, .tail _ hp, h⟩
theorem foldC_eq (h : IsLeast ps n t own f) {s : Int} (hs : 16 ≤ s) : foldC t own f s ps = tget f s := by
  cases hc : foldC t own f s ps with
  | some d =>
    rcases foldC_from ps none d hc with h1 | ⟨p, hp, rfl, c, h1, rfl⟩
    · cases h1
    · obtain ⟨c', h2, h3⟩ := h.stable p hp c h1
      obtain ⟨q, hq, hqs, a, h4, rfl⟩ := h.from hs h2
      obtain ⟨e, h5, h6⟩ := foldC_hit ps none q a hq hqs h4 (own := own)
      have : e = own + c := Option.some.inj (h5.symm.trans hc)
      rw [h2]; congr 1; omega
  | none =>
    cases h2 : tget f s with
    | none => rfl
    | some c =>
      obtain ⟨q, hq, hqs, a, h4, rfl⟩ := h.from hs h2
      obtain ⟨e, h5, _⟩ := foldC_hit ps none q a hq hqs h4 (own := own)
      rw [show foldC t own f s ps = some e from h5] at hc
      cases hc
theorem foldC_snoc {s : Int} {i : Nat} (h : i < ps.length) : foldC t own f s (ps.take (i + 1)) = stepC t own f s (foldC t own f s (ps.take i)) ps[i] := by
  rw [foldC, List.take_succ_eq_append_getElem h, List.foldl_append]; rfl
/-- Costs as sums. -/
def valS (t : Option Nat) (f : Tab) (s : Int) : Nat := (symc t f s).getD 0
def sumS (t : Option Nat) (f : Tab) (r : List Int) : Nat := (r.map (valS t f)).sum
theorem cost_sum (t : Option Nat) (f : Tab) (r : List Int) : cost t f r = if r.all (fun s => (symc t f s).isSome) = true then some (sumS t f r) else none := by
  induction r with
  | nil => rfl
  | cons s r ih =>
    rw [cost, ih, List.all_cons]
    cases hs : symc t f s with
    | none => simp [addO]
    | some c =>
      by_cases ha : r.all (fun s => (symc t f s).isSome) = true
      · rw [if_pos ha, if_pos (by simpa using ha)]; simp [addO, sumS, valS, hs]
      · rw [if_neg ha, if_neg (by simpa using ha)]; rfl
theorem sumS_take {r : List Int} {k : Nat} (h : k < r.length) : sumS t f (r.take (k + 1)) = sumS t f (r.take k) + valS t f r[k] := by
  rw [sumS, sumS, List.take_succ_eq_append_getElem h, List.map_append, List.sum_append]
  simp only [List.map_cons, List.map_nil, List.sum_cons, List.sum_nil, Nat.add_zero]
theorem sumS_le {B : Nat} (hB : ∀ s, valS t f s ≤ B) (r : List Int) : sumS t f r ≤ r.length * B := by
  induction r with
  | nil => exact Nat.zero_le _
  | cons s r ih =>
    have := hB s
    show valS t f s + sumS t f r ≤ (r.length + 1) * B
    rw [Nat.add_mul, Nat.one_mul]; omega
end
/-- What is nullable has the length 0. -/
theorem D.null {ps : List Pr} {own : Nat} {r : List Int} {c : Nat} (h : D ps none own r c) : D ps (some 1) 0 r 0 := by
  induction h with
  | nil => exact .nil
  | term _ h _ => cases h
  | non hp h16 _ _ ih1 ih2 => exact .non hp h16 ih1 ih2
theorem D.zero {ps : List Pr} (own : Nat) {r : List Int} {c : Nat} (h : D ps (some 1) 0 r c) (hc : c = 0) : ∃ c', D ps none own r c' := by
  induction h with
  | nil => exact ⟨0, .nil⟩
  | term _ h _ => cases h; omega
  | non hp h16 _ _ ih1 ih2 =>
    obtain ⟨a, ha⟩ := ih1 (by omega)
    obtain ⟨b, hb⟩ := ih2 (by omega)
    exact ⟨_, .non hp h16 ha hb⟩
theorem null_zero {ps : List Pr} {n : Nat} {own : Nat} {f h : Tab} (h1 : IsLeast ps n (some 1) 0 f) (h2 : IsLeast ps n none own h) {s : Int} (hs : 16 ≤ s) : (tget h s).isSome = decide (tget f s = some 0) := by
  cases hb : (tget h s).isSome with
  | true =>
    obtain ⟨c, hc⟩ := (h2.iff hs).1 hb
    obtain ⟨c', h3, h4⟩ := h1.stable.le hc.null
    rw [cost] at h3
    obtain ⟨x, y, h5, h6, rfl⟩ := addO_some h3
    have h7 : tget f s = some x := by rw [symc, if_neg (by omega)] at h5; exact h5
    have h8 : y = 0 := by rw [cost] at h6; exact (Option.some.inj h6).symm
    rw [h7]; exact (decide_eq_true (by congr 1; omega)).symm
  | false =>
    refine (decide_eq_false fun he => ?_).symm
    have := h1.sound s 0 hs he
    have := (h2.iff hs).2 (D.zero own this rfl)
    rw [hb] at this; cases this
end Go.Proofs.Ytaoinojdijbhaaa
