import Derived.Test.YtaoinojdijbhaaaSep19
import Derived.Test.YtaoinojdijbhaaaSep20
import Derived.Test.YtaoinojdijbhaaaSep21
import Derived.Test.YtaoinojdijbhaaaSep22
import Derived.Test.YtaoinojdijbhaaaSep23
import Derived.Test.YtaoinojdijbhaaaSep24
import Derived.Test.YtaoinojdijbhaaaInst
import Derived.Test.YtaoinojdijbhaaaD11
set_option linter.unusedSimpArgs false
set_option linter.unusedVariables false
set_option maxHeartbeats 2000000
set_option maxRecDepth 20000
namespace Go.Proofs.Ytaoinojdijbhaaa
open Go.RowKit
theorem wrap_lo {a : Int} (h1 : -9223372036854775808 ≤ a) (h2 : a < -9223372036854775792) : IntKind.i64.wrap (a - 16) = a + 18446744073709551600 := by
  simp [IntKind.wrap, IntKind.signed, IntKind.bits]
  split <;> omega
section
variable (E : Env) (L : List Res)
theorem Empty_call (gv : Value) (g : Gr) (hg : GrE E gv g) (hl : Light g) (rp : Option Addr) (rc : Nat) (r : List Int) (hr : SlE E 1 rp r.length (i64s r)) (h12 : r.length ≤ 1000) (hri : ∀ s, s ∈ r → -9223372036854775808 ≤ s ∧ s ≤ 9223372036854775807) :
    CallV Try.prog 46 #[gv, .slice rp r.length rc] E L (.tuple #[.bool (emptyM g r).1, .int .i64 (emptyM g r).2]) := by
  have hg0 := hg
  obtain ⟨tp, tc, np, nc, pp, pc, rfl, ht, hn, ⟨rows, hrows, hps, hre⟩, k1, k2, k3⟩ := hg
  have q2 := hl.n
  refine CallS.toV (CallS.intro (l := [_, _]) _ Try.func46 rfl Try.ntmps46 rfl ?_)
  by_cases hv : gcheck g = 0
  · have hva := valid_of hv
    have hy := nullM_len hva
    have e := okL_pos hv (nullM g)
    have e2 : emptyM g r = if r.any (fun s => !termB g s && !ntB g s) = true then (false, 14) else (r.all (goodB false (nullM g)), 0) := by rw [emptyM, if_pos hv]
    refine G_seq (G_region ?_)
    (refine G_boxA rfl rfl rfl rfl (.none rfl) ?_; intro b2)
    refine G_val (V_assign rfl rfl) rfl rfl (.none rfl) ?_
    refine G_val (V_assign rfl rfl) rfl rfl (.none rfl) ?_
    refine G_end (X_then (G_seq (G_region ?_)))
    refine G_val (V_loadA rfl rfl (Cells.own (.head _)) rfl) rfl rfl (.none rfl) ?_
    refine G_call (k := 38) (.mk rfl rfl rfl rfl) rfl rfl (.none rfl) (Nullable_call _ _ _ _ (by assumption) (by assumption)) ?_
    rintro r1 E2 L3 hE4 ⟨z5, ⟨z6, ⟨rfl, ⟨Z7, rfl⟩⟩⟩⟩
    replace hr := hr.mono hE4
    replace hg0 := hg0.mono hE4
    replace ht := ht.mono hE4
    replace hn := hn.mono hE4
    replace hps := hps.mono hE4
    refine G_val (V_move rfl rfl) rfl rfl (.none rfl) ?_
    refine G_val (V_extract rfl rfl rfl) rfl rfl (.none rfl) ?_
    refine G_val (V_extract rfl rfl rfl) rfl rfl (.none rfl) ?_
    refine G_val (V_assign rfl rfl) rfl rfl (.none rfl) ?_
    refine G_val (V_assign rfl rfl) rfl rfl (.none rfl) ?_
    refine G_end (X_then (G_seq (G_seq (G_region ?_))))
    refine G_val (V_move rfl rfl) rfl rfl (.none rfl) ?_
    refine G_val (V_neq rfl rfl rfl) rfl rfl (.none rfl) ?_
    refine G_end (X_then ?_)
    refine G_cond_f rfl (decide_eq_false (by omega)) ?_
    refine G_skip (X_then (G_seq (G_region ?_)))
    refine G_val (V_assign rfl rfl) rfl rfl (.none rfl) ?_
    refine G_end (X_then (G_seq (G_seq (G_region ?_))))
    refine G_val (V_move rfl rfl) rfl rfl (.none rfl) ?_
    refine G_val (V_lenS rfl rfl) rfl rfl (.none rfl) ?_
    refine G_val (V_move rfl rfl) rfl rfl (.none rfl) ?_
    refine G_end (X_then (G_block ?_))
    rw [e, hy] at Z7 ⊢
    refine G_loop (α := Nat) (fun i => [(2, .pointer (some ⟨b2, 0, none⟩)), (6, .slice z5 g.names.length z6), (8, .bool ((r.take i).all (goodB false (nullM g)))), (20, .slice rp r.length rc), (21, .int .i64 r.length), (22, .int .i64 i)]) (fun _ => E2) (fun _ => GB b2 g tp tc np nc pp pc :: L)
      (fun i => i ≤ r.length ∧ ∀ k, k < i → (hk : k < r.length) → (!termB g r[k] && !ntB g r[k]) = false) (fun i => r.length - i) 0 ⟨Nat.zero_le _, fun k hk => by cases hk⟩ ⟨rfl, rfl, rfl, rfl, rfl, rfl, trivial⟩ rfl rfl ?_
    rintro i ⟨hi, hall⟩
    by_cases hlt : i < r.length
    · have hx := i64s_at hlt
      have hrb := hri _ (List.getElem_mem hlt)
      have htake : (r.take (i + 1)).all (goodB false (nullM g)) = ((r.take i).all (goodB false (nullM g)) && goodB false (nullM g) r[i]) := by rw [List.take_succ_eq_append_getElem hlt, List.all_append]; simp
      have again : (!termB g r[i] && !ntB g r[i]) = false → ∀ k, k < i + 1 → (hk : k < r.length) → (!termB g r[k] && !ntB g r[k]) = false := by
        intro h k hk hk2
        by_cases he : k = i
        · subst he; exact h
        · exact hall k (by omega) hk2
      by_cases hnt : 16 ≤ r[i] ∧ r[i] < 16 + (g.names.length : Int)
      · have hgood : (!termB g r[i] && !ntB g r[i]) = false := by simp [ntB, hnt.1, hnt.2]
        have hlt3 : (r[i] - 16).toNat < (nullM g).length := by omega
        have hb := bools_at hlt3
        have hg : goodB false (nullM g) r[i] = (nullM g)[(r[i] - 16).toNat] := by rw [goodB, if_neg (by omega), bget, List.getElem?_eq_getElem hlt3]; rfl
        rw [hg] at htake
        refine G_seq (G_region ?_)
        refine G_val (V_lss rfl rfl rfl) rfl rfl (.none rfl) ?_
        refine G_end (X_then (G_seq ?_))
        refine G_cond_t rfl (decide_eq_true (by omega)) ?_
        refine G_skip (X_then (G_seq (G_block (G_seq (G_region ?_)))))
        refine G_val (V_idxAddr rfl rfl rfl (SlE.rd (by assumption)) (by omega) (by omega)) rfl rfl (.none rfl) ?_
        refine G_val (V_loadS rfl rfl (SlE.rd (by assumption)) (by assumption) (by simp)) rfl rfl (.none rfl) ?_
        refine G_val (V_assign rfl rfl) rfl rfl (.none rfl) ?_
        refine G_end (X_then (G_seq (G_region ?_)))
        refine G_val (V_move rfl rfl) rfl rfl (.none rfl) ?_
        refine G_val (V_sub_i64 rfl rfl rfl (by omega) (by omega)) rfl rfl (.none rfl) ?_
        refine G_val (V_assign rfl rfl) rfl rfl (.none rfl) ?_
        refine G_end (X_then (G_block (G_seq (G_region ?_))))
        refine G_val (V_move rfl rfl) rfl rfl (.none rfl) ?_
        refine G_val (V_geq rfl rfl rfl) rfl rfl (.none rfl) ?_
        refine G_val (V_move rfl rfl) rfl rfl (.none rfl) ?_
        refine G.bool_t 31 rfl (decide_eq_true (by omega)) ?_
        refine G_val (V_move rfl rfl) rfl rfl (.yes rfl rfl rfl rfl) ?_
        refine G_val (V_move rfl rfl) rfl rfl (.yes rfl rfl rfl rfl) ?_
        refine G_val (V_lenS rfl rfl) rfl rfl (.yes rfl rfl rfl rfl) ?_
        refine G_val (V_lss rfl rfl rfl) rfl rfl (.yes rfl rfl rfl rfl) ?_
        refine G_val (V_pick_t rfl rfl rfl) rfl rfl (.none rfl) ?_
        refine G_val (V_assign rfl rfl) rfl rfl (.none rfl) ?_
        refine G_end (X_then ?_)
        refine G_cond_t rfl (decide_eq_true (by omega)) ?_
        refine G_region ?_
        refine G_val (V_move rfl rfl) rfl rfl (.none rfl) ?_
        refine G_val (V_move rfl rfl) rfl rfl (.none rfl) ?_
        apply G_joinAnd 5 38 43 rfl
        · intro H1
          dsimp only [List.take]
          refine G_val (V_move rfl rfl) rfl rfl (.yes rfl rfl rfl rfl) ?_
          refine G_val (V_move rfl rfl) rfl rfl (.yes rfl rfl rfl rfl) ?_
          refine G_val (V_idxAddr rfl rfl rfl (SlE.rd (by assumption)) (by omega) (by omega)) rfl rfl (.yes rfl rfl rfl rfl) ?_
          refine G_val (V_loadS rfl rfl (SlE.rd (by assumption)) (by assumption) (by simp)) rfl rfl (.yes rfl rfl rfl rfl) ?_
          refine G_val (V_pick_t rfl rfl rfl) rfl rfl (.none rfl) ?_
          refine G_end ?_
          exact JQ_end 5 rfl rfl (by kernel_rfl)
        · intro H2
          dsimp only [List.take]
          refine G_stay (.no rfl rfl rfl rfl) rfl rfl ?_
          refine G_stay (.no rfl rfl rfl rfl) rfl rfl ?_
          refine G_stay (.no rfl rfl rfl rfl) rfl rfl ?_
          refine G_stay (.no rfl rfl rfl rfl) rfl rfl ?_
          refine G_val (V_pick_f rfl rfl rfl) rfl rfl (.none rfl) ?_
          refine G_end ?_
          exact JQ_end 5 rfl rfl (by kernel_rfl)
        dsimp only [List.drop]
        refine G_val (V_assign rfl rfl) rfl rfl (.none rfl) ?_
        refine G_end (X_block (X_block (X_then (G_region ?_))))
        refine G_val (V_add_i64 rfl rfl rfl (by omega) (by omega)) rfl rfl (.none rfl) ?_
        refine G_val (V_move rfl rfl) rfl rfl (.none rfl) ?_
        refine G_end (X_then ?_)
        rw [← htake]
        exact G_again (i + 1) ⟨hlt, again hgood⟩ (by omega) ⟨rfl, rfl, rfl, rfl, rfl, rfl, trivial⟩ rfl rfl
      · by_cases ht : 0 ≤ r[i] ∧ r[i] < g.toks.length
        · have hgood : (!termB g r[i] && !ntB g r[i]) = false := by simp [termB, ht.1, ht.2]
          have hg : goodB false (nullM g) r[i] = false := by rw [goodB, if_pos (by have := hva.toks; omega)]
          rw [hg, Bool.and_false] at htake
          refine G_seq (G_region ?_)
          refine G_val (V_lss rfl rfl rfl) rfl rfl (.none rfl) ?_
          refine G_end (X_then (G_seq ?_))
          refine G_cond_t rfl (decide_eq_true (by omega)) ?_
          refine G_skip (X_then (G_seq (G_block (G_seq (G_region ?_)))))
          refine G_val (V_idxAddr rfl rfl rfl (SlE.rd (by assumption)) (by omega) (by omega)) rfl rfl (.none rfl) ?_
          refine G_val (V_loadS rfl rfl (SlE.rd (by assumption)) (by assumption) (by simp)) rfl rfl (.none rfl) ?_
          refine G_val (V_assign rfl rfl) rfl rfl (.none rfl) ?_
          refine G_end (X_then (G_seq (G_region ?_)))
          refine G_val (V_move rfl rfl) rfl rfl (.none rfl) ?_
          refine G_val (V_sub_i64 rfl rfl rfl (by omega) (by omega)) rfl rfl (.none rfl) ?_
          refine G_val (V_assign rfl rfl) rfl rfl (.none rfl) ?_
          refine G_end (X_then (G_block (G_seq (G_region ?_))))
          refine G_val (V_move rfl rfl) rfl rfl (.none rfl) ?_
          refine G_val (V_geq rfl rfl rfl) rfl rfl (.none rfl) ?_
          refine G_val (V_move rfl rfl) rfl rfl (.none rfl) ?_
          apply G_joinAnd 5 31 36 rfl
          · intro H1
            dsimp only [List.take]
            simp only [Bool.and_eq_true, Bool.or_eq_true, Bool.not_eq_true', Bool.not_eq_false', Bool.and_eq_false_iff, Bool.or_eq_false_iff, Bool.not_not, decide_eq_true_eq, decide_eq_false_iff_not, ne_eq, Decidable.not_not, Bool.decide_eq_true] at H1
            refine G_val (V_move rfl rfl) rfl rfl (.yes rfl rfl rfl rfl) ?_
            refine G_val (V_move rfl rfl) rfl rfl (.yes rfl rfl rfl rfl) ?_
            refine G_val (V_lenS rfl rfl) rfl rfl (.yes rfl rfl rfl rfl) ?_
            refine G_val (V_lss rfl rfl rfl) rfl rfl (.yes rfl rfl rfl rfl) ?_
            refine G_val (V_pick_t rfl rfl rfl) rfl rfl (.none rfl) ?_
            refine G_end ?_
            exact JQ_end 5 rfl rfl (by kernel_rfl)
          · intro H2
            dsimp only [List.take]
            simp only [Bool.and_eq_true, Bool.or_eq_true, Bool.not_eq_true', Bool.not_eq_false', Bool.and_eq_false_iff, Bool.or_eq_false_iff, Bool.not_not, decide_eq_true_eq, decide_eq_false_iff_not, ne_eq, Decidable.not_not, Bool.decide_eq_true] at H2
            refine G_stay (.no rfl rfl rfl rfl) rfl rfl ?_
            refine G_stay (.no rfl rfl rfl rfl) rfl rfl ?_
            refine G_stay (.no rfl rfl rfl rfl) rfl rfl ?_
            refine G_stay (.no rfl rfl rfl rfl) rfl rfl ?_
            refine G_val (V_pick_f rfl rfl rfl) rfl rfl (.none rfl) ?_
            refine G_end ?_
            exact JQ_end 5 rfl rfl (by kernel_rfl)
          dsimp only [List.drop]
          refine G_val (V_assign rfl rfl) rfl rfl (.none rfl) ?_
          refine G_end (X_then ?_)
          refine G_cond rfl (fun H3 => ?_) (fun H3 => ?_)
          · simp only [Bool.and_eq_true, Bool.or_eq_true, Bool.not_eq_true', Bool.not_eq_false', Bool.and_eq_false_iff, Bool.or_eq_false_iff, Bool.not_not, decide_eq_true_eq, decide_eq_false_iff_not, ne_eq, Decidable.not_not, Bool.decide_eq_true] at H3
            (exfalso; omega)
          simp only [Bool.and_eq_true, Bool.or_eq_true, Bool.not_eq_true', Bool.not_eq_false', Bool.and_eq_false_iff, Bool.or_eq_false_iff, Bool.not_not, decide_eq_true_eq, decide_eq_false_iff_not, ne_eq, Decidable.not_not, Bool.decide_eq_true] at H3
          refine G_seq (G_region ?_)
          refine G_val (V_move rfl rfl) rfl rfl (.none rfl) ?_
          refine G_val (V_geq rfl rfl rfl) rfl rfl (.none rfl) ?_
          refine G_val (V_move rfl rfl) rfl rfl (.none rfl) ?_
          refine G.bool_t 47 rfl (decide_eq_true (by omega)) ?_
          refine G_val (V_move rfl rfl) rfl rfl (.yes rfl rfl rfl rfl) ?_
          refine G_val (V_fieldAddr rfl rfl (by decide)) rfl rfl (.yes rfl rfl rfl rfl) ?_
          refine G_val (V_load rfl rfl (Cell.own (.head _) rfl)) rfl rfl (.yes rfl rfl rfl rfl) ?_
          refine G_val (V_lenS rfl rfl) rfl rfl (.yes rfl rfl rfl rfl) ?_
          refine G_val (V_lss rfl rfl rfl) rfl rfl (.yes rfl rfl rfl rfl) ?_
          refine G_val (V_pick_t rfl rfl rfl) rfl rfl (.none rfl) ?_
          refine G_val (V_assign rfl rfl) rfl rfl (.none rfl) ?_
          refine G_end (X_then ?_)
          refine G_cond_t rfl (decide_eq_true (by omega)) ?_
          refine G_region ?_
          refine G_val (V_assign rfl rfl) rfl rfl (.none rfl) ?_
          refine G_end (X_block (X_block (X_then (G_region ?_))))
          refine G_val (V_add_i64 rfl rfl rfl (by omega) (by omega)) rfl rfl (.none rfl) ?_
          refine G_val (V_move rfl rfl) rfl rfl (.none rfl) ?_
          refine G_end (X_then ?_)
          exact G_again (i + 1) ⟨hlt, again hgood⟩ (by omega) ⟨rfl, rfl, by rw [htake]; rfl, rfl, rfl, rfl, trivial⟩ rfl rfl
        · have hbad : (!termB g r[i] && !ntB g r[i]) = true := by
            have h1 : termB g r[i] = false := by simp [termB]; omega
            have h2 : ntB g r[i] = false := by simp [ntB]; omega
            rw [h1, h2]; rfl
          have e3 : emptyM g r = (false, 14) := by rw [e2, if_pos (any_of hlt hbad)]
          rw [e3]
          by_cases hwr : r[i] < -9223372036854775792
          · have hwv : IntKind.i64.wrap (r[i] - 16) = r[i] + 18446744073709551600 := wrap_lo hrb.1 hwr
            refine G_seq (G_region ?_)
            refine G_val (V_lss rfl rfl rfl) rfl rfl (.none rfl) ?_
            refine G_end (X_then (G_seq ?_))
            refine G_cond_t rfl (decide_eq_true (by omega)) ?_
            refine G_skip (X_then (G_seq (G_block (G_seq (G_region ?_)))))
            refine G_val (V_idxAddr rfl rfl rfl (SlE.rd (by assumption)) (by omega) (by omega)) rfl rfl (.none rfl) ?_
            refine G_val (V_loadS rfl rfl (SlE.rd (by assumption)) (by assumption) (by simp)) rfl rfl (.none rfl) ?_
            refine G_val (V_assign rfl rfl) rfl rfl (.none rfl) ?_
            refine G_end (X_then (G_seq (G_region ?_)))
            refine G_val (V_move rfl rfl) rfl rfl (.none rfl) ?_
            refine G_val (V_sub rfl rfl rfl) rfl rfl (.none rfl) ?_
            refine G_val (V_assign rfl rfl) rfl rfl (.none rfl) ?_
            refine G_end (X_then (G_block (G_seq (G_region ?_))))
            refine G_val (V_move rfl rfl) rfl rfl (.none rfl) ?_
            refine G_val (V_geq rfl rfl rfl) rfl rfl (.none rfl) ?_
            refine G_val (V_move rfl rfl) rfl rfl (.none rfl) ?_
            refine G.bool_t 31 rfl (decide_eq_true (by omega)) ?_
            refine G_val (V_move rfl rfl) rfl rfl (.yes rfl rfl rfl rfl) ?_
            refine G_val (V_move rfl rfl) rfl rfl (.yes rfl rfl rfl rfl) ?_
            refine G_val (V_lenS rfl rfl) rfl rfl (.yes rfl rfl rfl rfl) ?_
            refine G_val (V_lss rfl rfl rfl) rfl rfl (.yes rfl rfl rfl rfl) ?_
            refine G_val (V_pick_t rfl rfl rfl) rfl rfl (.none rfl) ?_
            refine G_val (V_assign rfl rfl) rfl rfl (.none rfl) ?_
            refine G_end (X_then ?_)
            refine G_cond_f rfl (decide_eq_false (by omega)) ?_
            refine G_seq (G_region ?_)
            refine G_val (V_move rfl rfl) rfl rfl (.none rfl) ?_
            refine G_val (V_geq rfl rfl rfl) rfl rfl (.none rfl) ?_
            refine G_val (V_move rfl rfl) rfl rfl (.none rfl) ?_
            refine G.bool_f 47 rfl (decide_eq_false (by omega)) ?_
            refine G_stay (.no rfl rfl rfl rfl) rfl rfl ?_
            refine G_stay (.no rfl rfl rfl rfl) rfl rfl ?_
            refine G_stay (.no rfl rfl rfl rfl) rfl rfl ?_
            refine G_stay (.no rfl rfl rfl rfl) rfl rfl ?_
            refine G_stay (.no rfl rfl rfl rfl) rfl rfl ?_
            refine G_val (V_pick_f rfl rfl rfl) rfl rfl (.none rfl) ?_
            refine G_val (V_assign rfl rfl) rfl rfl (.none rfl) ?_
            refine G_end (X_then ?_)
            refine G_cond_f rfl rfl ?_
            refine G_seq (G_region ?_)
            refine G_val (V_assign rfl rfl) rfl rfl (.none rfl) ?_
            refine G_val (V_assign rfl rfl) rfl rfl (.none rfl) ?_
            refine G_end (X_then (G_ret (X_block_ret (X_block_ret (X_then_ret (X_then_ret (X_block_ret (X_then_ret ?_))))))))
            refine G_leaveS (.drop _ (.nil _)) (by exact (.cons (.tmp rfl) (.cons (.tmp rfl) (.nil)))) rfl ?_ ?_
            · exact hE4
            exact ⟨(by kernel_rfl), rfl⟩
          · refine G_seq ?_
            refine G_region ?_
            refine G_val (V_lss rfl rfl rfl) rfl rfl (.none rfl) ?_
            refine G_end (X_then (G_seq ?_))
            refine G_cond_t rfl (decide_eq_true (by omega)) ?_
            refine G_skip (X_then (G_seq (G_block (G_seq (G_region ?_)))))
            refine G_val (V_idxAddr rfl rfl rfl (SlE.rd (by assumption)) (by omega) (by omega)) rfl rfl (.none rfl) ?_
            refine G_val (V_loadS rfl rfl (SlE.rd (by assumption)) (by assumption) (by simp)) rfl rfl (.none rfl) ?_
            refine G_val (V_assign rfl rfl) rfl rfl (.none rfl) ?_
            refine G_end (X_then (G_seq (G_region ?_)))
            refine G_val (V_move rfl rfl) rfl rfl (.none rfl) ?_
            refine G_val (V_sub_i64 rfl rfl rfl (by omega) (by omega)) rfl rfl (.none rfl) ?_
            refine G_val (V_assign rfl rfl) rfl rfl (.none rfl) ?_
            refine G_end (X_then (G_block (G_seq (G_region ?_))))
            refine G_val (V_move rfl rfl) rfl rfl (.none rfl) ?_
            refine G_val (V_geq rfl rfl rfl) rfl rfl (.none rfl) ?_
            refine G_val (V_move rfl rfl) rfl rfl (.none rfl) ?_
            apply G_joinAnd 5 31 36 rfl
            · intro H1
              dsimp only [List.take]
              simp only [Bool.and_eq_true, Bool.or_eq_true, Bool.not_eq_true', Bool.not_eq_false', Bool.and_eq_false_iff, Bool.or_eq_false_iff, Bool.not_not, decide_eq_true_eq, decide_eq_false_iff_not, ne_eq, Decidable.not_not, Bool.decide_eq_true] at H1
              refine G_val (V_move rfl rfl) rfl rfl (.yes rfl rfl rfl rfl) ?_
              refine G_val (V_move rfl rfl) rfl rfl (.yes rfl rfl rfl rfl) ?_
              refine G_val (V_lenS rfl rfl) rfl rfl (.yes rfl rfl rfl rfl) ?_
              refine G_val (V_lss rfl rfl rfl) rfl rfl (.yes rfl rfl rfl rfl) ?_
              refine G_val (V_pick_t rfl rfl rfl) rfl rfl (.none rfl) ?_
              refine G_end ?_
              exact JQ_end 5 rfl rfl (by kernel_rfl)
            · intro H2
              dsimp only [List.take]
              simp only [Bool.and_eq_true, Bool.or_eq_true, Bool.not_eq_true', Bool.not_eq_false', Bool.and_eq_false_iff, Bool.or_eq_false_iff, Bool.not_not, decide_eq_true_eq, decide_eq_false_iff_not, ne_eq, Decidable.not_not, Bool.decide_eq_true] at H2
              refine G_stay (.no rfl rfl rfl rfl) rfl rfl ?_
              refine G_stay (.no rfl rfl rfl rfl) rfl rfl ?_
              refine G_stay (.no rfl rfl rfl rfl) rfl rfl ?_
              refine G_stay (.no rfl rfl rfl rfl) rfl rfl ?_
              refine G_val (V_pick_f rfl rfl rfl) rfl rfl (.none rfl) ?_
              refine G_end ?_
              exact JQ_end 5 rfl rfl (by kernel_rfl)
            dsimp only [List.drop]
            refine G_val (V_assign rfl rfl) rfl rfl (.none rfl) ?_
            refine G_end (X_then ?_)
            refine G_cond rfl (fun H3 => ?_) (fun H3 => ?_)
            · simp only [Bool.and_eq_true, Bool.or_eq_true, Bool.not_eq_true', Bool.not_eq_false', Bool.and_eq_false_iff, Bool.or_eq_false_iff, Bool.not_not, decide_eq_true_eq, decide_eq_false_iff_not, ne_eq, Decidable.not_not, Bool.decide_eq_true] at H3
              (exfalso; omega)
            simp only [Bool.and_eq_true, Bool.or_eq_true, Bool.not_eq_true', Bool.not_eq_false', Bool.and_eq_false_iff, Bool.or_eq_false_iff, Bool.not_not, decide_eq_true_eq, decide_eq_false_iff_not, ne_eq, Decidable.not_not, Bool.decide_eq_true] at H3
            refine G_seq (G_region ?_)
            refine G_val (V_move rfl rfl) rfl rfl (.none rfl) ?_
            refine G_val (V_geq rfl rfl rfl) rfl rfl (.none rfl) ?_
            refine G_val (V_move rfl rfl) rfl rfl (.none rfl) ?_
            apply G_joinAnd 6 47 53 rfl
            · intro H4
              dsimp only [List.take]
              simp only [Bool.and_eq_true, Bool.or_eq_true, Bool.not_eq_true', Bool.not_eq_false', Bool.and_eq_false_iff, Bool.or_eq_false_iff, Bool.not_not, decide_eq_true_eq, decide_eq_false_iff_not, ne_eq, Decidable.not_not, Bool.decide_eq_true] at H4
              refine G_val (V_move rfl rfl) rfl rfl (.yes rfl rfl rfl rfl) ?_
              refine G_val (V_fieldAddr rfl rfl (by decide)) rfl rfl (.yes rfl rfl rfl rfl) ?_
              refine G_val (V_load rfl rfl (Cell.own (.head _) rfl)) rfl rfl (.yes rfl rfl rfl rfl) ?_
              refine G_val (V_lenS rfl rfl) rfl rfl (.yes rfl rfl rfl rfl) ?_
              refine G_val (V_lss rfl rfl rfl) rfl rfl (.yes rfl rfl rfl rfl) ?_
              refine G_val (V_pick_t rfl rfl rfl) rfl rfl (.none rfl) ?_
              refine G_end ?_
              exact JQ_end 6 rfl rfl (by kernel_rfl)
            · intro H5
              dsimp only [List.take]
              simp only [Bool.and_eq_true, Bool.or_eq_true, Bool.not_eq_true', Bool.not_eq_false', Bool.and_eq_false_iff, Bool.or_eq_false_iff, Bool.not_not, decide_eq_true_eq, decide_eq_false_iff_not, ne_eq, Decidable.not_not, Bool.decide_eq_true] at H5
              refine G_stay (.no rfl rfl rfl rfl) rfl rfl ?_
              refine G_stay (.no rfl rfl rfl rfl) rfl rfl ?_
              refine G_stay (.no rfl rfl rfl rfl) rfl rfl ?_
              refine G_stay (.no rfl rfl rfl rfl) rfl rfl ?_
              refine G_stay (.no rfl rfl rfl rfl) rfl rfl ?_
              refine G_val (V_pick_f rfl rfl rfl) rfl rfl (.none rfl) ?_
              refine G_end ?_
              exact JQ_end 6 rfl rfl (by kernel_rfl)
            dsimp only [List.drop]
            refine G_val (V_assign rfl rfl) rfl rfl (.none rfl) ?_
            refine G_end (X_then ?_)
            refine G_cond rfl (fun H6 => ?_) (fun H6 => ?_)
            · simp only [Bool.and_eq_true, Bool.or_eq_true, Bool.not_eq_true', Bool.not_eq_false', Bool.and_eq_false_iff, Bool.or_eq_false_iff, Bool.not_not, decide_eq_true_eq, decide_eq_false_iff_not, ne_eq, Decidable.not_not, Bool.decide_eq_true] at H6
              (exfalso; omega)
            simp only [Bool.and_eq_true, Bool.or_eq_true, Bool.not_eq_true', Bool.not_eq_false', Bool.and_eq_false_iff, Bool.or_eq_false_iff, Bool.not_not, decide_eq_true_eq, decide_eq_false_iff_not, ne_eq, Decidable.not_not, Bool.decide_eq_true] at H6
            refine G_seq (G_region ?_)
            refine G_val (V_assign rfl rfl) rfl rfl (.none rfl) ?_
            refine G_val (V_assign rfl rfl) rfl rfl (.none rfl) ?_
            refine G_end (X_then (G_ret (X_block_ret (X_block_ret (X_then_ret (X_then_ret (X_block_ret (X_then_ret ?_))))))))
            refine G_leaveS (.drop _ (.nil _)) (by exact (.cons (.tmp rfl) (.cons (.tmp rfl) (.nil)))) rfl ?_ ?_
            · exact hE4
            exact ⟨(by kernel_rfl), rfl⟩
    · have e3 : emptyM g r = (r.all (goodB false (nullM g)), 0) := by rw [e2, if_neg (by rw [any_none fun k hk => hall k (by omega) hk]; decide)]
      have e4 : r.take i = r := List.take_of_length_le (by omega)
      rw [e3, e4]
      refine G_seq (G_region ?_)
      refine G_val (V_lss rfl rfl rfl) rfl rfl (.none rfl) ?_
      refine G_end (X_then (G_seq ?_))
      refine G_cond_f rfl (decide_eq_false (by omega)) ?_
      refine G_exit (X_then_exit (X_then_exit (X_block_hit (X_then (G_seq (G_region ?_))))))
      refine G_val (V_move rfl rfl) rfl rfl (.none rfl) ?_
      refine G_val (V_assign rfl rfl) rfl rfl (.none rfl) ?_
      refine G_val (V_assign rfl rfl) rfl rfl (.none rfl) ?_
      refine G_end (X_then (G_ret ?_))
      refine G_leaveS (.drop _ (.nil _)) (by exact (.cons (.tmp rfl) (.cons (.tmp rfl) (.nil)))) rfl ?_ ?_
      · exact hE4
      exact ⟨rfl, rfl⟩
  · have e := okL_neg hv (nullM g)
    rw [emptyM, if_neg hv]
    refine G_seq (G_region ?_)
    (refine G_boxA rfl rfl rfl rfl (.none rfl) ?_; intro b2)
    refine G_val (V_assign rfl rfl) rfl rfl (.none rfl) ?_
    refine G_val (V_assign rfl rfl) rfl rfl (.none rfl) ?_
    refine G_end (X_then (G_seq (G_region ?_)))
    refine G_val (V_loadA rfl rfl (Cells.own (.head _)) rfl) rfl rfl (.none rfl) ?_
    refine G_call (k := 38) (.mk rfl rfl rfl rfl) rfl rfl (.none rfl) (Nullable_call _ _ _ _ (by assumption) (by assumption)) ?_
    rintro r1 E2 L3 hE4 ⟨z5, ⟨z6, ⟨rfl, ⟨Z7, rfl⟩⟩⟩⟩
    replace hr := hr.mono hE4
    replace hg0 := hg0.mono hE4
    replace ht := ht.mono hE4
    replace hn := hn.mono hE4
    replace hps := hps.mono hE4
    refine G_val (V_move rfl rfl) rfl rfl (.none rfl) ?_
    refine G_val (V_extract rfl rfl rfl) rfl rfl (.none rfl) ?_
    refine G_val (V_extract rfl rfl rfl) rfl rfl (.none rfl) ?_
    refine G_val (V_assign rfl rfl) rfl rfl (.none rfl) ?_
    refine G_val (V_assign rfl rfl) rfl rfl (.none rfl) ?_
    refine G_end (X_then (G_seq (G_seq (G_region ?_))))
    refine G_val (V_move rfl rfl) rfl rfl (.none rfl) ?_
    refine G_val (V_neq rfl rfl rfl) rfl rfl (.none rfl) ?_
    refine G_end (X_then ?_)
    refine G_cond_t rfl (decide_eq_true (by omega)) ?_
    refine G_seq (G_region ?_)
    refine G_val (V_move rfl rfl) rfl rfl (.none rfl) ?_
    refine G_val (V_assign rfl rfl) rfl rfl (.none rfl) ?_
    refine G_val (V_assign rfl rfl) rfl rfl (.none rfl) ?_
    refine G_end (X_then (G_ret (X_then_ret ?_)))
    refine G_leaveS (.drop _ (.nil _)) (by exact (.cons (.tmp rfl) (.cons (.tmp rfl) (.nil)))) rfl ?_ ?_
    · exact hE4
    exact ⟨rfl, rfl⟩
end
end Go.Proofs.Ytaoinojdijbhaaa
