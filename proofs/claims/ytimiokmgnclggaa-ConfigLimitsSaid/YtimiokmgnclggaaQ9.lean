/-
  Rules and contracts, packed: G10, G11, G12, G13, S2, G15.
-/
import Derived.Test.YtimiokmgnclggaaQ8
set_option maxHeartbeats 1000000
set_option linter.unusedSimpArgs false
set_option linter.unusedVariables false
set_option maxHeartbeats 2000000
set_option maxRecDepth 20000
namespace Go.Proofs.Ytimiokmgnclggaa
open Go.RowKit
/-! What configurations need, whether they wait, their place. -/
theorem awC_kind (g : Gr) (st : Int) (b : Bool) (us : List Spt) : 0 ≤ (awC g st b us).1 ∧ (awC g st b us).1 ≤ 3 := by
  unfold awC
  split
  · simp
  · split
    · simp
    · exact awS_kind _ _
section
variable (E : Env) (L : List Res) (st rc at' : Int) (part : List UInt8) (tp : Option Addr) (tn tc : Nat) (e ea : Int) (b : Bool) (sp : Option Addr) (sn sc : Nat)
  (gv : Value) (g : Gr) (hg : GrE E gv g) (hl : Light g) (h0 : gcheck g = 0)
  (h3 : st = 1 ∨ st = 2) (hr : rngB rc at' = true) (hp : part.length ≤ 1) (l : List Tok) (hs : SlE E 3 tp tn (toks l)) (hgr : gringB g.k g.toks.length l e ea = true) (us : List Spt) (hu : SlE E 2 sp sn (spC us)) (hn : sn ≤ 9223372036854775807)
include hg hl h0 h3 hr hp hs hgr hu hn
theorem CNeeds_call : CallV Try.prog 20 #[gv, cfV st rc at' part tp tn tc e ea b sp sn sc] E L
    (.tuple #[.int .i64 (if ckM g st at' part l e ea b us = 0 then needC g st l.length e b us else 0), .int .i64 (ckM g st at' part l e ea b us)]) := by
  have hc := fun L0 => CAwaits_call E L0 st rc at' part tp tn tc e ea b sp sn sc gv g hg hl h0 h3 hr hp l hs hgr us hu hn
  have hkind := awC_kind g st b us
  have hq := gring_iff.1 hgr
  obtain ⟨q1, q2, q3, q4, q5, _⟩ := hq
  have en := hs.nT
  by_cases hk : ckM g st at' part l e ea b us = 0
  · simp only [if_pos hk] at hc ⊢
    rw [hk] at hc ⊢
    unfold needC
    generalize awC g st b us = r at *
    obtain ⟨gp, gc, np, nc, pp, pc, rfl, _⟩ := hg
    rw [← en]
    rw [← en] at q5
    by_cases he : e = 0
    · subst he
      by_cases h3k : r.1 = 3
      · rw [if_pos (.inr h3k)]
        refine CallS.toV (CallS.intro (l := [_, _]) _ Try.func20 rfl Try.ntmps20 rfl ?_)
        refine G_seq (G_region ?_)
        (refine G_boxA rfl rfl rfl rfl (.none rfl) ?_; intro b2)
        (refine G_boxA rfl rfl rfl rfl (.none rfl) ?_; intro b3)
        refine G_val (V_assign rfl rfl) rfl rfl (.none rfl) ?_
        refine G_val (V_assign rfl rfl) rfl rfl (.none rfl) ?_
        refine G_end (X_then (G_seq (G_region ?_)))
        refine G_val (V_loadA rfl rfl (Cells.own (.tail _ (.head _))) rfl) rfl rfl (.none rfl) ?_
        refine G_val (V_loadA rfl rfl (Cells.own (.head _)) rfl) rfl rfl (.none rfl) ?_
        refine G_callv (k := 29) (.mk rfl rfl rfl rfl) rfl rfl (.none rfl) (hc _) ?_
        refine G_val (V_move rfl rfl) rfl rfl (.none rfl) ?_
        refine G_val (V_extract rfl rfl rfl) rfl rfl (.none rfl) ?_
        refine G_val (V_extract rfl rfl rfl) rfl rfl (.none rfl) ?_
        refine G_val (V_extract rfl rfl rfl) rfl rfl (.none rfl) ?_
        refine G_val (V_assign rfl rfl) rfl rfl (.none rfl) ?_
        refine G_val (V_assign rfl rfl) rfl rfl (.none rfl) ?_
        refine G_val (V_assign rfl rfl) rfl rfl (.none rfl) ?_
        refine G_end (X_then (G_seq (G_seq (G_region ?_))))
        refine G_val (V_move rfl rfl) rfl rfl (.none rfl) ?_
        refine G_val (V_neq rfl rfl rfl) rfl rfl (.none rfl) ?_
        refine G_end (X_then ?_)
        refine G_cond_f rfl (by kernel_rfl) ?_
        refine G_skip (X_then (G_seq (G_region ?_)))
        refine G_val (V_fieldAddr rfl rfl (by decide)) rfl rfl (.none rfl) ?_
        refine G_val (V_fieldAddr rfl rfl (by decide)) rfl rfl (.none rfl) ?_
        refine G_val (V_load rfl rfl (Cell.own (.head _) rfl)) rfl rfl (.none rfl) ?_
        refine G_val (V_lenS rfl rfl) rfl rfl (.none rfl) ?_
        refine G_val (V_assign rfl rfl) rfl rfl (.none rfl) ?_
        refine G_end (X_then (G_seq (G_block (G_seq (G_region ?_)))))
        refine G_val (V_loadA rfl rfl (Cells.own (.head _)) rfl) rfl rfl (.none rfl) ?_
        refine G_callv (k := 41) (.mk rfl rfl rfl rfl) rfl rfl (.none rfl) (Stopped_call _ _ _ _ _ _ _ _ _ _ _ _ _ _ _) ?_
        refine G_val (V_move rfl rfl) rfl rfl (.none rfl) ?_
        apply G_joinOr 5 27 32 rfl
        · intro H1
          dsimp only [List.take]
          simp only [Bool.and_eq_true, Bool.or_eq_true, Bool.not_eq_true', Bool.not_eq_false', Bool.and_eq_false_iff, Bool.or_eq_false_iff, Bool.not_not, decide_eq_true_eq, decide_eq_false_iff_not, ne_eq, Decidable.not_not, Bool.decide_eq_true] at H1
          (exfalso; omega)
        · intro H2
          dsimp only [List.take]
          simp only [Bool.and_eq_true, Bool.or_eq_true, Bool.not_eq_true', Bool.not_eq_false', Bool.and_eq_false_iff, Bool.or_eq_false_iff, Bool.not_not, decide_eq_true_eq, decide_eq_false_iff_not, ne_eq, Decidable.not_not, Bool.decide_eq_true] at H2
          refine G_val (V_fieldAddr rfl rfl (by decide)) rfl rfl (.yes rfl rfl rfl rfl) ?_
          refine G_val (V_fieldAddr rfl rfl (by decide)) rfl rfl (.yes rfl rfl rfl rfl) ?_
          refine G_val (V_load rfl rfl (Cell.own (.head _) rfl)) rfl rfl (.yes rfl rfl rfl rfl) ?_
          refine G_val (V_neq rfl rfl rfl) rfl rfl (.yes rfl rfl rfl rfl) ?_
          refine G_val (V_pick_f rfl rfl rfl) rfl rfl (.none rfl) ?_
          refine G_end ?_
          exact JQ_end 5 rfl rfl (by kernel_rfl)
        dsimp only [List.drop]
        refine G_val (V_move rfl rfl) rfl rfl (.none rfl) ?_
        apply G_joinOr 3 33 36 rfl
        · intro H3
          dsimp only [List.take]
          simp only [Bool.and_eq_true, Bool.or_eq_true, Bool.not_eq_true', Bool.not_eq_false', Bool.and_eq_false_iff, Bool.or_eq_false_iff, Bool.not_not, decide_eq_true_eq, decide_eq_false_iff_not, ne_eq, Decidable.not_not, Bool.decide_eq_true] at H3
          refine G_stay (.no rfl rfl rfl rfl) rfl rfl ?_
          refine G_stay (.no rfl rfl rfl rfl) rfl rfl ?_
          refine G_val (V_pick_t rfl rfl rfl) rfl rfl (.none rfl) ?_
          refine G_end ?_
          exact JQ_end 3 rfl rfl (by kernel_rfl)
        · intro H4
          dsimp only [List.take]
          simp only [Bool.and_eq_true, Bool.or_eq_true, Bool.not_eq_true', Bool.not_eq_false', Bool.and_eq_false_iff, Bool.or_eq_false_iff, Bool.not_not, decide_eq_true_eq, decide_eq_false_iff_not, ne_eq, Decidable.not_not, Bool.decide_eq_true] at H4
          refine G_val (V_move rfl rfl) rfl rfl (.yes rfl rfl rfl rfl) ?_
          refine G_val (V_eql rfl rfl rfl) rfl rfl (.yes rfl rfl rfl rfl) ?_
          refine G_val (V_pick_f rfl rfl rfl) rfl rfl (.none rfl) ?_
          refine G_end ?_
          exact JQ_end 3 rfl rfl (by kernel_rfl)
        dsimp only [List.drop]
        refine G_val (V_assign rfl rfl) rfl rfl (.none rfl) ?_
        refine G_end (X_then ?_)
        refine G_cond_t rfl (by simp [*]; done) ?_
        refine G_seq (G_region ?_)
        refine G_val (V_assign rfl rfl) rfl rfl (.none rfl) ?_
        refine G_val (V_assign rfl rfl) rfl rfl (.none rfl) ?_
        refine G_end (X_then (G_ret (X_block_ret (X_then_ret ?_))))
        refine G_leaveS (.drop _ (.drop _ (.nil _))) (by exact (.cons (.tmp rfl) (.cons (.tmp rfl) (.nil)))) rfl ?_ ?_
        · exact (.refl _)
        exact ⟨(by kernel_rfl), rfl⟩
      · rw [if_neg (by omega)]
        by_cases h2k : r.1 = 2
        · rw [if_pos h2k]
          refine CallS.toV (CallS.intro (l := [_, _]) _ Try.func20 rfl Try.ntmps20 rfl ?_)
          refine G_seq (G_region ?_)
          (refine G_boxA rfl rfl rfl rfl (.none rfl) ?_; intro b2)
          (refine G_boxA rfl rfl rfl rfl (.none rfl) ?_; intro b3)
          refine G_val (V_assign rfl rfl) rfl rfl (.none rfl) ?_
          refine G_val (V_assign rfl rfl) rfl rfl (.none rfl) ?_
          refine G_end (X_then (G_seq (G_region ?_)))
          refine G_val (V_loadA rfl rfl (Cells.own (.tail _ (.head _))) rfl) rfl rfl (.none rfl) ?_
          refine G_val (V_loadA rfl rfl (Cells.own (.head _)) rfl) rfl rfl (.none rfl) ?_
          refine G_callv (k := 29) (.mk rfl rfl rfl rfl) rfl rfl (.none rfl) (hc _) ?_
          refine G_val (V_move rfl rfl) rfl rfl (.none rfl) ?_
          refine G_val (V_extract rfl rfl rfl) rfl rfl (.none rfl) ?_
          refine G_val (V_extract rfl rfl rfl) rfl rfl (.none rfl) ?_
          refine G_val (V_extract rfl rfl rfl) rfl rfl (.none rfl) ?_
          refine G_val (V_assign rfl rfl) rfl rfl (.none rfl) ?_
          refine G_val (V_assign rfl rfl) rfl rfl (.none rfl) ?_
          refine G_val (V_assign rfl rfl) rfl rfl (.none rfl) ?_
          refine G_end (X_then (G_seq (G_seq (G_region ?_))))
          refine G_val (V_move rfl rfl) rfl rfl (.none rfl) ?_
          refine G_val (V_neq rfl rfl rfl) rfl rfl (.none rfl) ?_
          refine G_end (X_then ?_)
          refine G_cond_f rfl (by kernel_rfl) ?_
          refine G_skip (X_then (G_seq (G_region ?_)))
          refine G_val (V_fieldAddr rfl rfl (by decide)) rfl rfl (.none rfl) ?_
          refine G_val (V_fieldAddr rfl rfl (by decide)) rfl rfl (.none rfl) ?_
          refine G_val (V_load rfl rfl (Cell.own (.head _) rfl)) rfl rfl (.none rfl) ?_
          refine G_val (V_lenS rfl rfl) rfl rfl (.none rfl) ?_
          refine G_val (V_assign rfl rfl) rfl rfl (.none rfl) ?_
          refine G_end (X_then (G_seq (G_block (G_seq (G_region ?_)))))
          refine G_val (V_loadA rfl rfl (Cells.own (.head _)) rfl) rfl rfl (.none rfl) ?_
          refine G_callv (k := 41) (.mk rfl rfl rfl rfl) rfl rfl (.none rfl) (Stopped_call _ _ _ _ _ _ _ _ _ _ _ _ _ _ _) ?_
          refine G_val (V_move rfl rfl) rfl rfl (.none rfl) ?_
          apply G_joinOr 5 27 32 rfl
          · intro H1
            dsimp only [List.take]
            simp only [Bool.and_eq_true, Bool.or_eq_true, Bool.not_eq_true', Bool.not_eq_false', Bool.and_eq_false_iff, Bool.or_eq_false_iff, Bool.not_not, decide_eq_true_eq, decide_eq_false_iff_not, ne_eq, Decidable.not_not, Bool.decide_eq_true] at H1
            (exfalso; omega)
          · intro H2
            dsimp only [List.take]
            simp only [Bool.and_eq_true, Bool.or_eq_true, Bool.not_eq_true', Bool.not_eq_false', Bool.and_eq_false_iff, Bool.or_eq_false_iff, Bool.not_not, decide_eq_true_eq, decide_eq_false_iff_not, ne_eq, Decidable.not_not, Bool.decide_eq_true] at H2
            refine G_val (V_fieldAddr rfl rfl (by decide)) rfl rfl (.yes rfl rfl rfl rfl) ?_
            refine G_val (V_fieldAddr rfl rfl (by decide)) rfl rfl (.yes rfl rfl rfl rfl) ?_
            refine G_val (V_load rfl rfl (Cell.own (.head _) rfl)) rfl rfl (.yes rfl rfl rfl rfl) ?_
            refine G_val (V_neq rfl rfl rfl) rfl rfl (.yes rfl rfl rfl rfl) ?_
            refine G_val (V_pick_f rfl rfl rfl) rfl rfl (.none rfl) ?_
            refine G_end ?_
            exact JQ_end 5 rfl rfl (by kernel_rfl)
          dsimp only [List.drop]
          refine G_val (V_move rfl rfl) rfl rfl (.none rfl) ?_
          apply G_joinOr 3 33 36 rfl
          · intro H3
            dsimp only [List.take]
            simp only [Bool.and_eq_true, Bool.or_eq_true, Bool.not_eq_true', Bool.not_eq_false', Bool.and_eq_false_iff, Bool.or_eq_false_iff, Bool.not_not, decide_eq_true_eq, decide_eq_false_iff_not, ne_eq, Decidable.not_not, Bool.decide_eq_true] at H3
            refine G_stay (.no rfl rfl rfl rfl) rfl rfl ?_
            refine G_stay (.no rfl rfl rfl rfl) rfl rfl ?_
            refine G_val (V_pick_t rfl rfl rfl) rfl rfl (.none rfl) ?_
            refine G_end ?_
            exact JQ_end 3 rfl rfl (by kernel_rfl)
          · intro H4
            dsimp only [List.take]
            simp only [Bool.and_eq_true, Bool.or_eq_true, Bool.not_eq_true', Bool.not_eq_false', Bool.and_eq_false_iff, Bool.or_eq_false_iff, Bool.not_not, decide_eq_true_eq, decide_eq_false_iff_not, ne_eq, Decidable.not_not, Bool.decide_eq_true] at H4
            refine G_val (V_move rfl rfl) rfl rfl (.yes rfl rfl rfl rfl) ?_
            refine G_val (V_eql rfl rfl rfl) rfl rfl (.yes rfl rfl rfl rfl) ?_
            refine G_val (V_pick_f rfl rfl rfl) rfl rfl (.none rfl) ?_
            refine G_end ?_
            exact JQ_end 3 rfl rfl (by kernel_rfl)
          dsimp only [List.drop]
          refine G_val (V_assign rfl rfl) rfl rfl (.none rfl) ?_
          refine G_end (X_then ?_)
          refine G_cond rfl (fun H5 => ?_) (fun H5 => ?_)
          · simp only [Bool.and_eq_true, Bool.or_eq_true, Bool.not_eq_true', Bool.not_eq_false', Bool.and_eq_false_iff, Bool.or_eq_false_iff, Bool.not_not, decide_eq_true_eq, decide_eq_false_iff_not, ne_eq, Decidable.not_not, Bool.decide_eq_true] at H5
            refine G_seq (G_region ?_)
            refine G_val (V_assign rfl rfl) rfl rfl (.none rfl) ?_
            refine G_val (V_assign rfl rfl) rfl rfl (.none rfl) ?_
            refine G_end (X_then (G_ret (X_block_ret (X_then_ret ?_))))
            refine G_leaveS (.drop _ (.drop _ (.nil _))) (by exact (.cons (.tmp rfl) (.cons (.tmp rfl) (.nil)))) rfl ?_ ?_
            · exact (.refl _)
            exact ⟨(by ((try simp only [resVal]); (repeat' split) <;> first | rfl | (exfalso; omega) | (simp_all; done) | (simp_all; omega))), (by rfl)⟩
          simp only [Bool.and_eq_true, Bool.or_eq_true, Bool.not_eq_true', Bool.not_eq_false', Bool.and_eq_false_iff, Bool.or_eq_false_iff, Bool.not_not, decide_eq_true_eq, decide_eq_false_iff_not, ne_eq, Decidable.not_not, Bool.decide_eq_true] at H5
          refine G_seq (G_region ?_)
          refine G_val (V_move rfl rfl) rfl rfl (.none rfl) ?_
          refine G_val (V_eql rfl rfl rfl) rfl rfl (.none rfl) ?_
          refine G_val (V_assign rfl rfl) rfl rfl (.none rfl) ?_
          refine G_end (X_then ?_)
          refine G_cond_t rfl (decide_eq_true (by omega)) ?_
          refine G_seq (G_region ?_)
          refine G_val (V_fieldAddr rfl rfl (by decide)) rfl rfl (.none rfl) ?_
          refine G_val (V_load rfl rfl (Cell.own (.tail _ (.head _)) rfl)) rfl rfl (.none rfl) ?_
          refine G_val (V_move rfl rfl) rfl rfl (.none rfl) ?_
          refine G_val (V_sub_i64 rfl rfl rfl (by omega) (by omega)) rfl rfl (.none rfl) ?_
          refine G_val (V_max rfl rfl rfl) rfl rfl (.none rfl) ?_
          refine G_val (V_assign rfl rfl) rfl rfl (.none rfl) ?_
          refine G_val (V_assign rfl rfl) rfl rfl (.none rfl) ?_
          refine G_end (X_then (G_ret (X_block_ret (X_then_ret ?_))))
          refine G_leaveS (.drop _ (.drop _ (.nil _))) (by exact (.cons (.tmp rfl) (.cons (.tmp rfl) (.nil)))) rfl ?_ ?_
          · exact (.refl _)
          exact ⟨rfl, rfl⟩
        · rw [if_neg h2k]
          refine CallS.toV (CallS.intro (l := [_, _]) _ Try.func20 rfl Try.ntmps20 rfl ?_)
          refine G_seq (G_region ?_)
          (refine G_boxA rfl rfl rfl rfl (.none rfl) ?_; intro b2)
          (refine G_boxA rfl rfl rfl rfl (.none rfl) ?_; intro b3)
          refine G_val (V_assign rfl rfl) rfl rfl (.none rfl) ?_
          refine G_val (V_assign rfl rfl) rfl rfl (.none rfl) ?_
          refine G_end (X_then (G_seq (G_region ?_)))
          refine G_val (V_loadA rfl rfl (Cells.own (.tail _ (.head _))) rfl) rfl rfl (.none rfl) ?_
          refine G_val (V_loadA rfl rfl (Cells.own (.head _)) rfl) rfl rfl (.none rfl) ?_
          refine G_callv (k := 29) (.mk rfl rfl rfl rfl) rfl rfl (.none rfl) (hc _) ?_
          refine G_val (V_move rfl rfl) rfl rfl (.none rfl) ?_
          refine G_val (V_extract rfl rfl rfl) rfl rfl (.none rfl) ?_
          refine G_val (V_extract rfl rfl rfl) rfl rfl (.none rfl) ?_
          refine G_val (V_extract rfl rfl rfl) rfl rfl (.none rfl) ?_
          refine G_val (V_assign rfl rfl) rfl rfl (.none rfl) ?_
          refine G_val (V_assign rfl rfl) rfl rfl (.none rfl) ?_
          refine G_val (V_assign rfl rfl) rfl rfl (.none rfl) ?_
          refine G_end (X_then (G_seq (G_seq (G_region ?_))))
          refine G_val (V_move rfl rfl) rfl rfl (.none rfl) ?_
          refine G_val (V_neq rfl rfl rfl) rfl rfl (.none rfl) ?_
          refine G_end (X_then ?_)
          refine G_cond_f rfl (by kernel_rfl) ?_
          refine G_skip (X_then (G_seq (G_region ?_)))
          refine G_val (V_fieldAddr rfl rfl (by decide)) rfl rfl (.none rfl) ?_
          refine G_val (V_fieldAddr rfl rfl (by decide)) rfl rfl (.none rfl) ?_
          refine G_val (V_load rfl rfl (Cell.own (.head _) rfl)) rfl rfl (.none rfl) ?_
          refine G_val (V_lenS rfl rfl) rfl rfl (.none rfl) ?_
          refine G_val (V_assign rfl rfl) rfl rfl (.none rfl) ?_
          refine G_end (X_then (G_seq (G_block (G_seq (G_region ?_)))))
          refine G_val (V_loadA rfl rfl (Cells.own (.head _)) rfl) rfl rfl (.none rfl) ?_
          refine G_callv (k := 41) (.mk rfl rfl rfl rfl) rfl rfl (.none rfl) (Stopped_call _ _ _ _ _ _ _ _ _ _ _ _ _ _ _) ?_
          refine G_val (V_move rfl rfl) rfl rfl (.none rfl) ?_
          apply G_joinOr 5 27 32 rfl
          · intro H1
            dsimp only [List.take]
            simp only [Bool.and_eq_true, Bool.or_eq_true, Bool.not_eq_true', Bool.not_eq_false', Bool.and_eq_false_iff, Bool.or_eq_false_iff, Bool.not_not, decide_eq_true_eq, decide_eq_false_iff_not, ne_eq, Decidable.not_not, Bool.decide_eq_true] at H1
            (exfalso; omega)
          · intro H2
            dsimp only [List.take]
            simp only [Bool.and_eq_true, Bool.or_eq_true, Bool.not_eq_true', Bool.not_eq_false', Bool.and_eq_false_iff, Bool.or_eq_false_iff, Bool.not_not, decide_eq_true_eq, decide_eq_false_iff_not, ne_eq, Decidable.not_not, Bool.decide_eq_true] at H2
            refine G_val (V_fieldAddr rfl rfl (by decide)) rfl rfl (.yes rfl rfl rfl rfl) ?_
            refine G_val (V_fieldAddr rfl rfl (by decide)) rfl rfl (.yes rfl rfl rfl rfl) ?_
            refine G_val (V_load rfl rfl (Cell.own (.head _) rfl)) rfl rfl (.yes rfl rfl rfl rfl) ?_
            refine G_val (V_neq rfl rfl rfl) rfl rfl (.yes rfl rfl rfl rfl) ?_
            refine G_val (V_pick_f rfl rfl rfl) rfl rfl (.none rfl) ?_
            refine G_end ?_
            exact JQ_end 5 rfl rfl (by kernel_rfl)
          dsimp only [List.drop]
          refine G_val (V_move rfl rfl) rfl rfl (.none rfl) ?_
          apply G_joinOr 3 33 36 rfl
          · intro H3
            dsimp only [List.take]
            simp only [Bool.and_eq_true, Bool.or_eq_true, Bool.not_eq_true', Bool.not_eq_false', Bool.and_eq_false_iff, Bool.or_eq_false_iff, Bool.not_not, decide_eq_true_eq, decide_eq_false_iff_not, ne_eq, Decidable.not_not, Bool.decide_eq_true] at H3
            refine G_stay (.no rfl rfl rfl rfl) rfl rfl ?_
            refine G_stay (.no rfl rfl rfl rfl) rfl rfl ?_
            refine G_val (V_pick_t rfl rfl rfl) rfl rfl (.none rfl) ?_
            refine G_end ?_
            exact JQ_end 3 rfl rfl (by kernel_rfl)
          · intro H4
            dsimp only [List.take]
            simp only [Bool.and_eq_true, Bool.or_eq_true, Bool.not_eq_true', Bool.not_eq_false', Bool.and_eq_false_iff, Bool.or_eq_false_iff, Bool.not_not, decide_eq_true_eq, decide_eq_false_iff_not, ne_eq, Decidable.not_not, Bool.decide_eq_true] at H4
            refine G_val (V_move rfl rfl) rfl rfl (.yes rfl rfl rfl rfl) ?_
            refine G_val (V_eql rfl rfl rfl) rfl rfl (.yes rfl rfl rfl rfl) ?_
            refine G_val (V_pick_f rfl rfl rfl) rfl rfl (.none rfl) ?_
            refine G_end ?_
            exact JQ_end 3 rfl rfl (by kernel_rfl)
          dsimp only [List.drop]
          refine G_val (V_assign rfl rfl) rfl rfl (.none rfl) ?_
          refine G_end (X_then ?_)
          refine G_cond rfl (fun H5 => ?_) (fun H5 => ?_)
          · simp only [Bool.and_eq_true, Bool.or_eq_true, Bool.not_eq_true', Bool.not_eq_false', Bool.and_eq_false_iff, Bool.or_eq_false_iff, Bool.not_not, decide_eq_true_eq, decide_eq_false_iff_not, ne_eq, Decidable.not_not, Bool.decide_eq_true] at H5
            refine G_seq (G_region ?_)
            refine G_val (V_assign rfl rfl) rfl rfl (.none rfl) ?_
            refine G_val (V_assign rfl rfl) rfl rfl (.none rfl) ?_
            refine G_end (X_then (G_ret (X_block_ret (X_then_ret ?_))))
            refine G_leaveS (.drop _ (.drop _ (.nil _))) (by exact (.cons (.tmp rfl) (.cons (.tmp rfl) (.nil)))) rfl ?_ ?_
            · exact (.refl _)
            exact ⟨(by ((try simp only [resVal]); (repeat' split) <;> first | rfl | (exfalso; omega) | (simp_all; done) | (simp_all; omega))), (by rfl)⟩
          simp only [Bool.and_eq_true, Bool.or_eq_true, Bool.not_eq_true', Bool.not_eq_false', Bool.and_eq_false_iff, Bool.or_eq_false_iff, Bool.not_not, decide_eq_true_eq, decide_eq_false_iff_not, ne_eq, Decidable.not_not, Bool.decide_eq_true] at H5
          refine G_seq (G_region ?_)
          refine G_val (V_move rfl rfl) rfl rfl (.none rfl) ?_
          refine G_val (V_eql rfl rfl rfl) rfl rfl (.none rfl) ?_
          refine G_val (V_assign rfl rfl) rfl rfl (.none rfl) ?_
          refine G_end (X_then ?_)
          refine G_cond_f rfl (decide_eq_false (by omega)) ?_
          refine G_skip (X_block (X_then (G_seq (G_region ?_))))
          refine G_val (V_move rfl rfl) rfl rfl (.none rfl) ?_
          refine G_val (V_sub_i64 rfl rfl rfl (by omega) (by omega)) rfl rfl (.none rfl) ?_
          refine G_val (V_max rfl rfl rfl) rfl rfl (.none rfl) ?_
          refine G_val (V_assign rfl rfl) rfl rfl (.none rfl) ?_
          refine G_val (V_assign rfl rfl) rfl rfl (.none rfl) ?_
          refine G_end (X_then (G_ret ?_))
          refine G_leaveS (.drop _ (.drop _ (.nil _))) (by exact (.cons (.tmp rfl) (.cons (.tmp rfl) (.nil)))) rfl ?_ ?_
          · exact (.refl _)
          exact ⟨rfl, rfl⟩
    · rw [if_pos (.inl he)]
      refine CallS.toV (CallS.intro (l := [_, _]) _ Try.func20 rfl Try.ntmps20 rfl ?_)
      refine G_seq (G_region ?_)
      (refine G_boxA rfl rfl rfl rfl (.none rfl) ?_; intro b2)
      (refine G_boxA rfl rfl rfl rfl (.none rfl) ?_; intro b3)
      refine G_val (V_assign rfl rfl) rfl rfl (.none rfl) ?_
      refine G_val (V_assign rfl rfl) rfl rfl (.none rfl) ?_
      refine G_end (X_then (G_seq (G_region ?_)))
      refine G_val (V_loadA rfl rfl (Cells.own (.tail _ (.head _))) rfl) rfl rfl (.none rfl) ?_
      refine G_val (V_loadA rfl rfl (Cells.own (.head _)) rfl) rfl rfl (.none rfl) ?_
      refine G_callv (k := 29) (.mk rfl rfl rfl rfl) rfl rfl (.none rfl) (hc _) ?_
      refine G_val (V_move rfl rfl) rfl rfl (.none rfl) ?_
      refine G_val (V_extract rfl rfl rfl) rfl rfl (.none rfl) ?_
      refine G_val (V_extract rfl rfl rfl) rfl rfl (.none rfl) ?_
      refine G_val (V_extract rfl rfl rfl) rfl rfl (.none rfl) ?_
      refine G_val (V_assign rfl rfl) rfl rfl (.none rfl) ?_
      refine G_val (V_assign rfl rfl) rfl rfl (.none rfl) ?_
      refine G_val (V_assign rfl rfl) rfl rfl (.none rfl) ?_
      refine G_end (X_then (G_seq (G_seq (G_region ?_))))
      refine G_val (V_move rfl rfl) rfl rfl (.none rfl) ?_
      refine G_val (V_neq rfl rfl rfl) rfl rfl (.none rfl) ?_
      refine G_end (X_then ?_)
      refine G_cond_f rfl (by kernel_rfl) ?_
      refine G_skip (X_then (G_seq (G_region ?_)))
      refine G_val (V_fieldAddr rfl rfl (by decide)) rfl rfl (.none rfl) ?_
      refine G_val (V_fieldAddr rfl rfl (by decide)) rfl rfl (.none rfl) ?_
      refine G_val (V_load rfl rfl (Cell.own (.head _) rfl)) rfl rfl (.none rfl) ?_
      refine G_val (V_lenS rfl rfl) rfl rfl (.none rfl) ?_
      refine G_val (V_assign rfl rfl) rfl rfl (.none rfl) ?_
      refine G_end (X_then (G_seq (G_block (G_seq (G_region ?_)))))
      refine G_val (V_loadA rfl rfl (Cells.own (.head _)) rfl) rfl rfl (.none rfl) ?_
      refine G_callv (k := 41) (.mk rfl rfl rfl rfl) rfl rfl (.none rfl) (Stopped_call _ _ _ _ _ _ _ _ _ _ _ _ _ _ _) ?_
      refine G_val (V_move rfl rfl) rfl rfl (.none rfl) ?_
      apply G_joinOr 5 27 32 rfl
      · intro H1
        dsimp only [List.take]
        simp only [Bool.and_eq_true, Bool.or_eq_true, Bool.not_eq_true', Bool.not_eq_false', Bool.and_eq_false_iff, Bool.or_eq_false_iff, Bool.not_not, decide_eq_true_eq, decide_eq_false_iff_not, ne_eq, Decidable.not_not, Bool.decide_eq_true] at H1
        (exfalso; omega)
      · intro H2
        dsimp only [List.take]
        simp only [Bool.and_eq_true, Bool.or_eq_true, Bool.not_eq_true', Bool.not_eq_false', Bool.and_eq_false_iff, Bool.or_eq_false_iff, Bool.not_not, decide_eq_true_eq, decide_eq_false_iff_not, ne_eq, Decidable.not_not, Bool.decide_eq_true] at H2
        refine G_val (V_fieldAddr rfl rfl (by decide)) rfl rfl (.yes rfl rfl rfl rfl) ?_
        refine G_val (V_fieldAddr rfl rfl (by decide)) rfl rfl (.yes rfl rfl rfl rfl) ?_
        refine G_val (V_load rfl rfl (Cell.own (.head _) rfl)) rfl rfl (.yes rfl rfl rfl rfl) ?_
        refine G_val (V_neq rfl rfl rfl) rfl rfl (.yes rfl rfl rfl rfl) ?_
        refine G_val (V_pick_f rfl rfl rfl) rfl rfl (.none rfl) ?_
        refine G_end ?_
        exact JQ_end 5 rfl rfl (by kernel_rfl)
      dsimp only [List.drop]
      refine G_val (V_move rfl rfl) rfl rfl (.none rfl) ?_
      refine G.bool_t 33 rfl (by simp [*]; done) ?_
      refine G_stay (.no rfl rfl rfl rfl) rfl rfl ?_
      refine G_stay (.no rfl rfl rfl rfl) rfl rfl ?_
      refine G_val (V_pick_t rfl rfl rfl) rfl rfl (.none rfl) ?_
      refine G_val (V_assign rfl rfl) rfl rfl (.none rfl) ?_
      refine G_end (X_then ?_)
      refine G_cond_t rfl rfl ?_
      refine G_seq (G_region ?_)
      refine G_val (V_assign rfl rfl) rfl rfl (.none rfl) ?_
      refine G_val (V_assign rfl rfl) rfl rfl (.none rfl) ?_
      refine G_end (X_then (G_ret (X_block_ret (X_then_ret ?_))))
      refine G_leaveS (.drop _ (.drop _ (.nil _))) (by exact (.cons (.tmp rfl) (.cons (.tmp rfl) (.nil)))) rfl ?_ ?_
      · exact (.refl _)
      exact ⟨(by kernel_rfl), rfl⟩
  · simp only [if_neg hk] at hc ⊢
    generalize ckM g st at' part l e ea b us = x at *
    obtain ⟨gp, gc, np, nc, pp, pc, rfl, _⟩ := hg
    refine CallS.toV (CallS.intro (l := [_, _]) _ Try.func20 rfl Try.ntmps20 rfl ?_)
    refine G_seq (G_region ?_)
    (refine G_boxA rfl rfl rfl rfl (.none rfl) ?_; intro b2)
    (refine G_boxA rfl rfl rfl rfl (.none rfl) ?_; intro b3)
    refine G_val (V_assign rfl rfl) rfl rfl (.none rfl) ?_
    refine G_val (V_assign rfl rfl) rfl rfl (.none rfl) ?_
    refine G_end (X_then (G_seq (G_region ?_)))
    refine G_val (V_loadA rfl rfl (Cells.own (.tail _ (.head _))) rfl) rfl rfl (.none rfl) ?_
    refine G_val (V_loadA rfl rfl (Cells.own (.head _)) rfl) rfl rfl (.none rfl) ?_
    refine G_callv (k := 29) (.mk rfl rfl rfl rfl) rfl rfl (.none rfl) (hc _) ?_
    refine G_val (V_move rfl rfl) rfl rfl (.none rfl) ?_
    refine G_val (V_extract rfl rfl rfl) rfl rfl (.none rfl) ?_
    refine G_val (V_extract rfl rfl rfl) rfl rfl (.none rfl) ?_
    refine G_val (V_extract rfl rfl rfl) rfl rfl (.none rfl) ?_
    refine G_val (V_assign rfl rfl) rfl rfl (.none rfl) ?_
    refine G_val (V_assign rfl rfl) rfl rfl (.none rfl) ?_
    refine G_val (V_assign rfl rfl) rfl rfl (.none rfl) ?_
    refine G_end (X_then (G_seq (G_seq (G_region ?_))))
    refine G_val (V_move rfl rfl) rfl rfl (.none rfl) ?_
    refine G_val (V_neq rfl rfl rfl) rfl rfl (.none rfl) ?_
    refine G_end (X_then ?_)
    refine G_cond_t rfl (decide_eq_true (by omega)) ?_
    refine G_seq (G_region ?_)
    refine G_val (V_move rfl rfl) rfl rfl (.none rfl) ?_
    refine G_val (V_assign rfl rfl) rfl rfl (.none rfl) ?_
    refine G_val (V_assign rfl rfl) rfl rfl (.none rfl) ?_
    refine G_end (X_then (G_ret (X_then_ret ?_)))
    refine G_leaveS (.drop _ (.drop _ (.nil _))) (by exact (.cons (.tmp rfl) (.cons (.tmp rfl) (.nil)))) rfl ?_ ?_
    · exact (.refl _)
    exact ⟨rfl, rfl⟩
end
end Go.Proofs.Ytimiokmgnclggaa
set_option linter.unusedSimpArgs false
set_option linter.unusedVariables false
set_option maxHeartbeats 2000000
set_option maxRecDepth 20000
namespace Go.Proofs.Ytimiokmgnclggaa
open Go.RowKit
/-! The law's helpers: example, limits, inside, awaits, awake. -/
abbrev exG : Gr := ⟨2, [[97], [98]], [110, 108], [[83]], 16, [(16, [0, 16]), (16, [])]⟩
theorem exG_ok : gcheck exG = 0 := by decide +kernel
theorem exG_light : Light exG := lightB_iff.1 (by decide +kernel)
section
variable (E : Env) (L : List Res)
theorem example_call : CallS Try.prog 14 #[] E L (fun r E' L' => ∃ b0 b1 b2 b3 b6, r = .agg #[.int .i64 2, .slice (some ⟨b1, 0, none⟩) 2 2, .string (S [110, 108]), .slice (some ⟨b2, 0, none⟩) 1 1, .int .i64 16, .slice (some ⟨b6, 0, none⟩) 2 2] ∧ E = E' ∧
    L' = .blk b6 (.cells #[.int .i64 16, .slice (some ⟨b3, 0, none⟩) 2 2, .int .i64 16, .slice none 0 0] 59 (0, 0)) :: .blk b3 (.cells #[.int .i64 0, .int .i64 16] 3 (0, 0)) :: .blk b2 (.cells #[.string (S [83])] 9 (0, 0)) :: .blk b1 (.cells #[.string (S [97]), .string (S [98])] 9 (0, 0)) :: .blk b0 (.cells #[.int .i64 2, .slice (some ⟨b1, 0, none⟩) 2 2, .string (S [110, 108]), .slice (some ⟨b2, 0, none⟩) 1 1, .int .i64 16, .slice (some ⟨b6, 0, none⟩) 2 2] 41 (0, 0)) :: L) := by
  refine CallS.intro (l := []) _ Try.func14 rfl Try.ntmps14 rfl ?_
  refine G_seq (G_region ?_)
  (refine G_alloc rfl rfl rfl (.none rfl) ?_; intro b0)
  refine G_end (X_then (G_seq (G_region ?_)))
  (refine G_lit2 rfl rfl rfl rfl rfl rfl rfl (.none rfl) ?_; intro b1)
  (refine G_lit1 rfl rfl rfl rfl rfl (.none rfl) ?_; intro b2)
  (refine G_lit2 rfl rfl rfl rfl rfl rfl rfl (.none rfl) ?_; intro b3)
  refine G_val (V_build rfl rfl (by simp [fillV, setLs, setL, Value.cells]; rfl)) rfl rfl (.none rfl) ?_
  refine G_val (V_build rfl rfl (by simp [fillV, setLs, setL, Value.cells]; rfl)) rfl rfl (.none rfl) ?_
  (refine G_lit rfl rfl (by decide) (by simp [fillS, zeros, setLs, setL, Value.cells, List.range, List.range.loop]; rfl) rfl rfl (.none rfl) ?_; intro b6)
  refine G_val (V_build rfl rfl (by simp [fillV, setLs, setL, Value.cells]; rfl)) rfl rfl (.none rfl) ?_
  refine G_storeA rfl rfl rfl rfl (by simp [Value.oneCell']) rfl (.none rfl) (.tail _ (.tail _ (.tail _ (.tail _ (.head _ _ _))))) rfl ?_
  refine G_end (X_then (G_ret ?_))
  refine G_leaveS (.keep _ (.keep _ (.keep _ (.keep _ (.keep _ (.nil _)))))) (by exact (.cons (.cellA rfl (Cells.own (.tail _ (.tail _ (.tail _ (.tail _ (.head _)))))) rfl) (.nil))) rfl ?_ ?_
  · exact (.refl _)
  exact ⟨_, ⟨_, ⟨_, ⟨_, ⟨_, ⟨rfl, ⟨rfl, rfl⟩⟩⟩⟩⟩⟩⟩
theorem example_call' : CallS Try.prog 14 #[] E L (fun r E' L' => GrE E' r exG ∧ L' = L) :=
  fun w hw => (example_call E L w hw).mono fun _ _ ⟨r, E', L', he, hE, hs, b0, b1, b2, b3, b6, hr, _, hL⟩ => by
    subst hL hr
    obtain ⟨E2, hE2, hs2, hok2⟩ := hs.freeze
    obtain ⟨E3, hE3, hs3, hok3⟩ := hs2.freeze
    obtain ⟨E4, hE4, hs4, hok4⟩ := hs3.freeze
    obtain ⟨E5, hE5, hs5, hok5⟩ := hs4.freeze
    refine ⟨_, E5, L, he, (((hE.trans hE2).trans hE3).trans hE4).trans hE5, hs5.drop, ?_, rfl⟩
    refine GrE.mk (g := exG) (SlE.lit (l := strs [[97], [98]]) hok5 rfl) ((SlE.lit (l := strs [[83]]) hok4 rfl).mono hE5) ⟨[(some ⟨b3, 0, none⟩, 2, (16, [0, 16])), (none, 0, (16, []))], rfl, ?_, fun r hr => ?_⟩ (Nat.le_refl _) (Nat.le_refl _) (Nat.le_refl _)
    · exact ((SlE.lit (l := prows [(some ⟨b3, 0, none⟩, 2, (16, [0, 16])), (none, 0, (16, []))]) hok2 rfl).mono (hE3.trans hE4)).mono hE5
    · simp only [List.mem_cons, List.not_mem_nil, or_false] at hr
      rcases hr with rfl | rfl
      · exact ((SlE.lit (l := i64s [0, 16]) hok3 rfl).mono hE4).mono hE5
      · exact SlE.nil
theorem limits_call : CallV Try.prog 15 #[] E L (.agg #[.int .i64 9, .int .i64 9, .int .i64 5, .int .i64 1]) := by
  refine CallS.toV (CallS.intro (l := []) _ Try.func15 rfl Try.ntmps15 rfl ?_)
  refine G_seq (G_region ?_)
  (refine G_alloc rfl rfl rfl (.none rfl) ?_; intro b0)
  refine G_end (X_then (G_seq (G_region ?_)))
  refine G_val (V_build rfl rfl (by simp [fillV, setLs, setL, Value.cells]; rfl)) rfl rfl (.none rfl) ?_
  refine G_storeA rfl rfl rfl rfl (by simp [Value.oneCell']) rfl (.none rfl) (.head _ _ _) rfl ?_
  refine G_end (X_then (G_ret ?_))
  refine G_leaveS (.drop _ (.nil _)) (by exact (.cons (.cellA rfl (Cells.own (.head _)) rfl) (.nil))) rfl ?_ ?_
  · exact (.refl _)
  exact ⟨(by kernel_rfl), rfl⟩
theorem New_ex : CallV Try.prog 7 #[.agg #[.int .i64 9, .int .i64 9, .int .i64 5, .int .i64 1]] E L (.tuple #[cfV 1 1 5 [] none 0 0 0 0 false none 0 0, .int .i64 0]) := CallV.castV (New_call E L 9 9 5 1) (by kernel_rfl)
theorem Needs_ex (gv : Value) (hg : GrE E gv exG) : CallV Try.prog 20 #[gv, cfV 1 1 5 [] none 0 0 0 0 false none 0 0] E L (.tuple #[.int .i64 1, .int .i64 0]) :=
  CallV.castV (CNeeds_call E L 1 1 5 [] none 0 0 0 0 false none 0 0 gv exG hg exG_light exG_ok (.inl rfl) (by rfl) (by simp) [] SlE.nilT (by decide +kernel) [] SlE.nil (by omega)) (by kernel_rfl)
theorem Same_ex : CallV Try.prog 11 #[cfV 1 1 5 [] none 0 0 0 0 false none 0 0, cfV 1 1 5 [] none 0 0 0 0 false none 0 0] E L (.bool true) :=
  CallV.castV (SameConf_call E L 1 1 5 1 1 5 [] [] none none 0 0 0 0 0 0 0 0 false false none none 0 0 0 0 [] [] [] [] SlE.nilT SlE.nilT SlE.nil SlE.nil (by omega) (by omega) (by omega) (by omega)) (by rfl)
theorem awake_call' : CallS Try.prog 6 #[] E L (fun r E' L' => r = .bool true ∧ L' = L) := by
  refine CallS.intro (l := []) _ Try.func6 rfl Try.ntmps6 rfl ?_
  refine G_seq (G_region ?_)
  refine G_val (V_assign rfl rfl) rfl rfl (.none rfl) ?_
  refine G_end (X_then (G_seq (G_region ?_)))
  refine G_callv (k := 15) (.mk rfl rfl rfl rfl) rfl rfl (.none rfl) (limits_call _ _) ?_
  refine G_callv (k := 7) (.mk rfl rfl rfl rfl) rfl rfl (.none rfl) (New_ex _ _) ?_
  refine G_val (V_move rfl rfl) rfl rfl (.none rfl) ?_
  refine G_val (V_extract rfl rfl rfl) rfl rfl (.none rfl) ?_
  refine G_val (V_extract rfl rfl rfl) rfl rfl (.none rfl) ?_
  (refine G_alloc rfl rfl rfl (.none rfl) ?_; intro b1)
  refine G_storeA rfl rfl rfl rfl (by simp [Value.oneCell']) rfl (.none rfl) (.head _ _ _) rfl ?_
  refine G_val (V_assign rfl rfl) rfl rfl (.none rfl) ?_
  refine G_end (X_then (G_seq ?_))
  refine G_drawX 8 [(1, 1), (0, 3), (2, 3), (3, 0), (4, 0), (5, 0), (6, 0), (7, 0)] mixed (by kernel_rfl) ?_
  refine F_load rfl (.head _) (V_loadA rfl rfl (Cells.own (.head _)) rfl) rfl rfl (.none rfl) ?_
  apply F_call (k := 14) rfl (.mk rfl rfl rfl rfl) rfl rfl (.none rfl)
  · (intro L0; refine CallS.mono (example_call' _ _) ?_; exact fun _ _ _ _ h => h)
  · (rintro L0 r E' L' ⟨Z1, rfl⟩; exact ⟨rfl, ⟨(by assumption), rfl⟩⟩)
  rintro r2 E3 hE4 ⟨Z5, _⟩
  refine F_callv (k := 20) rfl (.mk rfl rfl rfl rfl) rfl rfl (.none rfl) (fun _ => Needs_ex _ _ _ (by assumption)) ?_
  refine F_pure rfl (fun _ _ => V_move rfl rfl) rfl rfl (.none rfl) ?_
  refine F_pure rfl (fun _ _ => V_extract rfl rfl rfl) rfl rfl (.none rfl) ?_
  refine F_pure rfl (fun _ _ => V_extract rfl rfl rfl) rfl rfl (.none rfl) ?_
  refine F_pure rfl (fun _ _ => V_assign rfl rfl) rfl rfl (.none rfl) ?_
  refine F_pure rfl (fun _ _ => V_assign rfl rfl) rfl rfl (.none rfl) ?_
  (refine F_end (.nil _) ?_; dsimp only [List.drop])
  refine G_end (X_then (G_seq (G_region ?_)))
  refine G_val (V_move rfl rfl) rfl rfl (.none rfl) ?_
  refine G_val (V_eql rfl rfl rfl) rfl rfl (.none rfl) ?_
  refine G_val (V_move rfl rfl) rfl rfl (.none rfl) ?_
  refine G.bool_t 18 rfl (by kernel_rfl) ?_
  refine G_val (V_loadA rfl rfl (Cells.own (.head _)) rfl) rfl rfl (.yes rfl rfl rfl rfl) ?_
  refine G_val (V_build rfl rfl (by simp [fillV, setLs, setL, Value.cells]; rfl)) rfl rfl (.yes rfl rfl rfl rfl) ?_
  refine G_callv (k := 11) (.mk rfl rfl rfl rfl) rfl rfl (.yes rfl rfl rfl rfl) (Same_ex _ _) ?_
  refine G_val (V_pick_t rfl rfl rfl) rfl rfl (.none rfl) ?_
  refine G_val (V_move rfl rfl) rfl rfl (.none rfl) ?_
  refine G_val (V_move rfl rfl) rfl rfl (.yes rfl rfl rfl rfl) ?_
  refine G_val (V_eql rfl rfl rfl) rfl rfl (.yes rfl rfl rfl rfl) ?_
  refine G_val (V_pick_t rfl rfl rfl) rfl rfl (.none rfl) ?_
  refine G_val (V_move rfl rfl) rfl rfl (.none rfl) ?_
  refine G.bool_t 27 rfl (by kernel_rfl) ?_
  refine G_val (V_move rfl rfl) rfl rfl (.yes rfl rfl rfl rfl) ?_
  refine G_val (V_eql rfl rfl rfl) rfl rfl (.yes rfl rfl rfl rfl) ?_
  refine G_val (V_pick_t rfl rfl rfl) rfl rfl (.none rfl) ?_
  refine G_val (V_assign rfl rfl) rfl rfl (.none rfl) ?_
  refine G_end (X_then (G_ret ?_))
  refine G_leaveS (.drop _ (.nil _)) (by exact (.cons (.tmp rfl) (.nil))) rfl ?_ ?_
  · exact hE4
  exact ⟨(by kernel_rfl), rfl⟩
end
end Go.Proofs.Ytimiokmgnclggaa
set_option linter.unusedSimpArgs false
set_option linter.unusedVariables false
set_option maxHeartbeats 2000000
set_option maxRecDepth 20000
namespace Go.Proofs.Ytimiokmgnclggaa
open Go.RowKit
/-! The law's helpers: inside, awaits; the law ConfigLimits. -/
section
variable (E : Env) (L : List Res)
section
/-- What the examples' configurations are, and what they await and need. -/
structure ExOk (st rc at' : Int) (part : List UInt8) (l : List Tok) (e ea : Int) (b : Bool) (us : List Spt) (kd sy nd : Int) : Prop where
  h3 : st = 1 ∨ st = 2
  hr : rngB rc at' = true
  hp : part.length ≤ 1
  hgr : gringB exG.k exG.toks.length l e ea = true
  hk : ckM exG st at' part l e ea b us = 0
  ha : awC exG st b us = (kd, sy)
  hnd : needC exG st l.length e b us = nd
variable (st rc at' : Int) (part : List UInt8) (tp : Option Addr) (tn tc : Nat) (e ea : Int) (b : Bool) (sp : Option Addr) (sn sc : Nat)
  (l : List Tok) (hs : SlE E 3 tp tn (toks l)) (us : List Spt) (hu : SlE E 2 sp sn (spC us)) (hn : sn ≤ 9223372036854775807) (kd sy nd : Int) (hx : ExOk st rc at' part l e ea b us kd sy nd)
include hs hu hn hx
end
end
end Go.Proofs.Ytimiokmgnclggaa
set_option linter.unusedSimpArgs false
set_option linter.unusedVariables false
set_option maxHeartbeats 2000000
set_option maxRecDepth 20000
namespace Go.Proofs.Ytimiokmgnclggaa
open Go.RowKit
/-! The law ConfigLimits. -/
theorem fstV_cf (d q s r : Int) : ∃ u v w, fstV d q s r = cfV u v w [] none 0 0 0 0 false none 0 0 := by
  unfold fstV
  split
  · exact ⟨_, _, _, rfl⟩
  · exact ⟨_, _, _, rfl⟩
section
variable (E : Env) (L : List Res)
theorem New_call' (d q s r u v w m : Int) (hm : limM d q s r = m) (hv : fstV d q s r = cfV u v w [] none 0 0 0 0 false none 0 0) : CallV Try.prog 7 #[.agg #[.int .i64 d, .int .i64 q, .int .i64 s, .int .i64 r]] E L (.tuple #[cfV u v w [] none 0 0 0 0 false none 0 0, .int .i64 m]) := by
  rw [← hm, ← hv]; exact New_call E L d q s r
theorem NewR_call' (d q s r u v w m : Int) (hm : limM d q s r = m) (hv : fstV d q s r = cfV u v w [] none 0 0 0 0 false none 0 0) : CallV Try.prog 8 #[.agg #[.int .i64 d, .int .i64 q, .int .i64 s, .int .i64 r]] E L (.tuple #[cfV u v w [] none 0 0 0 0 false none 0 0, .int .i64 m]) := by
  rw [← hm, ← hv]; exact NewR_call E L d q s r
theorem Limits_call' (d q s r m : Int) (hm : limM d q s r = m) : CallV Try.prog 9 #[.agg #[.int .i64 d, .int .i64 q, .int .i64 s, .int .i64 r]] E L (.int .i64 m) := by
  rw [← hm]; exact Limits_call E L d q s r
theorem LimitsR_call' (d q s r m : Int) (hm : limM d q s r = m) : CallV Try.prog 10 #[.agg #[.int .i64 d, .int .i64 q, .int .i64 s, .int .i64 r]] E L (.int .i64 m) := by
  rw [← hm]; exact LimitsR_call E L d q s r
theorem Same_first (u v w : Int) : CallV Try.prog 11 #[cfV u v w [] none 0 0 0 0 false none 0 0, cfV u v w [] none 0 0 0 0 false none 0 0] E L (.bool true) :=
  CallV.castV (SameConf_call E L u v w u v w [] [] none none 0 0 0 0 0 0 0 0 false false none none 0 0 0 0 [] [] [] [] SlE.nilT SlE.nilT SlE.nil SlE.nil (by omega) (by omega) (by omega) (by omega)) (by simp)
variable (d q s r st rc at' st' rc' at'' : Int) (part part' : List UInt8) (tp tp' : Option Addr) (tn tc tn' tc' : Nat) (e ea e' ea' : Int) (b b' : Bool) (sp sp' : Option Addr) (sn sc sn' sc' : Nat) (xs ys : List Tok) (us vs : List Spt)
theorem ConfigLimits_call (h1 : SlE E 3 tp tn (toks xs)) (h2 : SlE E 3 tp' tn' (toks ys)) (h3 : SlE E 2 sp sn (spC us)) (h4 : SlE E 2 sp' sn' (spC vs)) (n1 : tn ≤ 9223372036854775807) (n2 : tn' ≤ 9223372036854775807) (n3 : sn ≤ 9223372036854775807) (n4 : sn' ≤ 9223372036854775807)
    (n5 : part.length ≤ 9223372036854775807) (n6 : part'.length ≤ 9223372036854775807) (n7 : ∀ t, t ∈ xs → t.text.length ≤ 9223372036854775807) (n8 : ∀ t, t ∈ ys → t.text.length ≤ 9223372036854775807) :
    CallS Try.prog 3 #[.agg #[.int .i64 d, .int .i64 q, .int .i64 s, .int .i64 r], cfV st rc at' part tp tn tc e ea b sp sn sc, cfV st' rc' at'' part' tp' tn' tc' e' ea' b' sp' sn' sc'] E L (fun r E' L' => r = .bool true ∧ L' = L) := by
  obtain ⟨m, hm⟩ : ∃ m, limM d q s r = m := ⟨_, rfl⟩
  obtain ⟨u, v, w, hv⟩ := fstV_cf d q s r
  have l1 := fun L0 => LightConf_call E L0 st rc at' part tp tn tc e ea b sp sn sc xs h1 n1 n3 n5 n7
  have l2 := fun L0 => LightConf_call E L0 st' rc' at'' part' tp' tn' tc' e' ea' b' sp' sn' sc' ys h2 n2 n4 n6 n8
  cases hl1 : (decide ((tn : Int) ≤ 10) && decide ((part.length : Int) ≤ 100) && decide ((sn : Int) ≤ 100) && lightT xs) with
  | false =>
    rw [hl1] at l1
    refine CallS.intro (l := [_, _, _]) _ Try.func3 rfl Try.ntmps3 rfl ?_
    refine G_seq (G_region ?_)
    (refine G_boxA rfl rfl rfl rfl (.none rfl) ?_; intro b3)
    (refine G_boxA rfl rfl rfl rfl (.none rfl) ?_; intro b4)
    (refine G_boxA rfl rfl rfl rfl (.none rfl) ?_; intro b5)
    refine G_val (V_assign rfl rfl) rfl rfl (.none rfl) ?_
    refine G_end (X_then (G_seq (G_seq (G_region ?_))))
    refine G_val (V_loadA rfl rfl (Cells.own (.tail _ (.head _))) rfl) rfl rfl (.none rfl) ?_
    refine G_callv (k := 5) (.mk rfl rfl rfl rfl) rfl rfl (.none rfl) (l1 _) ?_
    refine G_val (V_not rfl rfl) rfl rfl (.none rfl) ?_
    refine G_val (V_move rfl rfl) rfl rfl (.none rfl) ?_
    refine G.bool_t 14 rfl (by kernel_rfl) ?_
    refine G_stay (.no rfl rfl rfl rfl) rfl rfl ?_
    refine G_stay (.no rfl rfl rfl rfl) rfl rfl ?_
    refine G_stay (.no rfl rfl rfl rfl) rfl rfl ?_
    refine G_val (V_pick_t rfl rfl rfl) rfl rfl (.none rfl) ?_
    refine G_end (X_then ?_)
    refine G_cond_t rfl rfl ?_
    refine G_seq (G_region ?_)
    refine G_call (k := 6) (.mk rfl rfl rfl rfl) rfl rfl (.none rfl) (awake_call' _ _) ?_
    rintro r1 E2 L3 hE4 ⟨rfl, rfl⟩
    replace h1 := h1.mono hE4
    replace h2 := h2.mono hE4
    replace h3 := h3.mono hE4
    replace h4 := h4.mono hE4
    refine G_val (V_assign rfl rfl) rfl rfl (.none rfl) ?_
    refine G_end (X_then (G_ret (X_then_ret ?_)))
    refine G_leaveS (.drop _ (.drop _ (.drop _ (.nil _)))) (by exact (.cons (.tmp rfl) (.nil))) rfl ?_ ?_
    · exact hE4
    exact ⟨(by kernel_rfl), rfl⟩
  | true =>
    cases hl2 : (decide ((tn' : Int) ≤ 10) && decide ((part'.length : Int) ≤ 100) && decide ((sn' : Int) ≤ 100) && lightT ys) with
    | false =>
      rw [hl1] at l1
      rw [hl2] at l2
      refine CallS.intro (l := [_, _, _]) _ Try.func3 rfl Try.ntmps3 rfl ?_
      refine G_seq (G_region ?_)
      (refine G_boxA rfl rfl rfl rfl (.none rfl) ?_; intro b3)
      (refine G_boxA rfl rfl rfl rfl (.none rfl) ?_; intro b4)
      (refine G_boxA rfl rfl rfl rfl (.none rfl) ?_; intro b5)
      refine G_val (V_assign rfl rfl) rfl rfl (.none rfl) ?_
      refine G_end (X_then (G_seq (G_seq (G_region ?_))))
      refine G_val (V_loadA rfl rfl (Cells.own (.tail _ (.head _))) rfl) rfl rfl (.none rfl) ?_
      refine G_callv (k := 5) (.mk rfl rfl rfl rfl) rfl rfl (.none rfl) (l1 _) ?_
      refine G_val (V_not rfl rfl) rfl rfl (.none rfl) ?_
      refine G_val (V_move rfl rfl) rfl rfl (.none rfl) ?_
      refine G.bool_f 14 rfl (by kernel_rfl) ?_
      refine G_val (V_loadA rfl rfl (Cells.own (.head _)) rfl) rfl rfl (.yes rfl rfl rfl rfl) ?_
      refine G_callv (k := 5) (.mk rfl rfl rfl rfl) rfl rfl (.yes rfl rfl rfl rfl) (l2 _) ?_
      refine G_val (V_not rfl rfl) rfl rfl (.yes rfl rfl rfl rfl) ?_
      refine G_val (V_pick_f rfl rfl rfl) rfl rfl (.none rfl) ?_
      refine G_end (X_then ?_)
      refine G_cond_t rfl (by kernel_rfl) ?_
      refine G_seq (G_region ?_)
      refine G_call (k := 6) (.mk rfl rfl rfl rfl) rfl rfl (.none rfl) (awake_call' _ _) ?_
      rintro r1 E2 L3 hE4 ⟨rfl, rfl⟩
      replace h1 := h1.mono hE4
      replace h2 := h2.mono hE4
      replace h3 := h3.mono hE4
      replace h4 := h4.mono hE4
      refine G_val (V_assign rfl rfl) rfl rfl (.none rfl) ?_
      refine G_end (X_then (G_ret (X_then_ret ?_)))
      refine G_leaveS (.drop _ (.drop _ (.drop _ (.nil _)))) (by exact (.cons (.tmp rfl) (.nil))) rfl ?_ ?_
      · exact hE4
      exact ⟨(by kernel_rfl), rfl⟩
    | true =>
      rw [hl1] at l1
      rw [hl2] at l2
      simp only [Bool.and_eq_true, decide_eq_true_eq] at hl1 hl2
      refine CallS.intro (l := [_, _, _]) _ Try.func3 rfl Try.ntmps3 rfl ?_
      refine G_seq (G_region ?_)
      (refine G_boxA rfl rfl rfl rfl (.none rfl) ?_; intro b3)
      (refine G_boxA rfl rfl rfl rfl (.none rfl) ?_; intro b4)
      (refine G_boxA rfl rfl rfl rfl (.none rfl) ?_; intro b5)
      refine G_val (V_assign rfl rfl) rfl rfl (.none rfl) ?_
      refine G_end (X_then (G_seq (G_seq (G_region ?_))))
      refine G_val (V_loadA rfl rfl (Cells.own (.tail _ (.head _))) rfl) rfl rfl (.none rfl) ?_
      refine G_callv (k := 5) (.mk rfl rfl rfl rfl) rfl rfl (.none rfl) (l1 _) ?_
      refine G_val (V_not rfl rfl) rfl rfl (.none rfl) ?_
      refine G_val (V_move rfl rfl) rfl rfl (.none rfl) ?_
      refine G.bool_f 14 rfl (by kernel_rfl) ?_
      refine G_val (V_loadA rfl rfl (Cells.own (.head _)) rfl) rfl rfl (.yes rfl rfl rfl rfl) ?_
      refine G_callv (k := 5) (.mk rfl rfl rfl rfl) rfl rfl (.yes rfl rfl rfl rfl) (l2 _) ?_
      refine G_val (V_not rfl rfl) rfl rfl (.yes rfl rfl rfl rfl) ?_
      refine G_val (V_pick_f rfl rfl rfl) rfl rfl (.none rfl) ?_
      refine G_end (X_then ?_)
      refine G_cond_f rfl (by kernel_rfl) ?_
      refine G_skip (X_then (G_seq (G_region ?_)))
      refine G_val (V_loadA rfl rfl (Cells.own (.tail _ (.tail _ (.head _)))) rfl) rfl rfl (.none rfl) ?_
      refine G_callv (k := 7) (.mk rfl rfl rfl rfl) rfl rfl (.none rfl) (New_call' _ _ _ _ _ _ _ _ _ _ (by assumption) (by assumption)) ?_
      refine G_val (V_move rfl rfl) rfl rfl (.none rfl) ?_
      refine G_val (V_extract rfl rfl rfl) rfl rfl (.none rfl) ?_
      refine G_val (V_extract rfl rfl rfl) rfl rfl (.none rfl) ?_
      (refine G_alloc rfl rfl rfl (.none rfl) ?_; intro b7)
      refine G_storeA rfl rfl rfl rfl (by simp [Value.oneCell']) rfl (.none rfl) (.head _ _ _) rfl ?_
      refine G_val (V_assign rfl rfl) rfl rfl (.none rfl) ?_
      refine G_end (X_then (G_seq (G_region ?_)))
      refine G_val (V_loadA rfl rfl (Cells.own (.tail _ (.tail _ (.tail _ (.head _))))) rfl) rfl rfl (.none rfl) ?_
      refine G_callv (k := 8) (.mk rfl rfl rfl rfl) rfl rfl (.none rfl) (NewR_call' _ _ _ _ _ _ _ _ _ _ (by assumption) (by assumption)) ?_
      refine G_val (V_move rfl rfl) rfl rfl (.none rfl) ?_
      refine G_val (V_extract rfl rfl rfl) rfl rfl (.none rfl) ?_
      refine G_val (V_extract rfl rfl rfl) rfl rfl (.none rfl) ?_
      (refine G_alloc rfl rfl rfl (.none rfl) ?_; intro b9)
      refine G_storeA rfl rfl rfl rfl (by simp [Value.oneCell']) rfl (.none rfl) (.head _ _ _) rfl ?_
      refine G_val (V_assign rfl rfl) rfl rfl (.none rfl) ?_
      refine G_end (X_then (G_seq ?_))
      refine G_drawX 28 [(0, 1), (2, 1), (1, 3), (3, 3), (4, 0), (5, 0), (6, 1), (7, 1), (8, 3), (9, 0), (10, 0), (11, 0), (12, 0), (13, 0), (14, 0), (15, 0), (16, 1), (17, 1), (19, 1), (20, 1), (18, 3), (21, 3), (22, 0), (23, 0), (24, 0), (25, 3), (26, 0), (27, 0)] mixed (by kernel_rfl) ?_
      refine F_load rfl (.tail _ (.tail _ (.tail _ (.tail _ (.head _))))) (V_loadA rfl rfl (Cells.own (.head _)) rfl) rfl rfl (.none rfl) ?_
      refine F_load rfl (.tail _ (.tail _ (.tail _ (.tail _ (.head _))))) (V_loadA rfl rfl (Cells.own (.head _)) rfl) rfl rfl (.none rfl) ?_
      refine F_callv (k := 9) rfl (.mk rfl rfl rfl rfl) rfl rfl (.none rfl) (fun _ => Limits_call' _ _ _ _ _ _ _ (by assumption)) ?_
      refine F_callv (k := 10) rfl (.mk rfl rfl rfl rfl) rfl rfl (.none rfl) (fun _ => LimitsR_call' _ _ _ _ _ _ _ (by assumption)) ?_
      refine F_pure rfl (fun _ _ => V_eql rfl rfl rfl) rfl rfl (.none rfl) ?_
      refine F_pure rfl (fun _ _ => V_move rfl rfl) rfl rfl (.none rfl) ?_
      refine GF.bool_t 35 rfl (decide_eq_true (by omega)) ?_
      refine F_load rfl (.tail _ (.head _)) (V_loadA rfl rfl (Cells.own (.head _)) rfl) rfl rfl (.yes rfl rfl rfl rfl) ?_
      refine F_load rfl (.head _) (V_loadA rfl rfl (Cells.own (.head _)) rfl) rfl rfl (.yes rfl rfl rfl rfl) ?_
      refine F_callv (k := 11) rfl (.mk rfl rfl rfl rfl) rfl rfl (.yes rfl rfl rfl rfl) (fun _ => Same_first _ _ _ _ _) ?_
      refine F_pure rfl (fun _ _ => V_pick_t rfl rfl rfl) rfl rfl (.none rfl) ?_
      refine F_pure rfl (fun _ _ => V_move rfl rfl) rfl rfl (.none rfl) ?_
      refine F_pure rfl (fun _ _ => V_move rfl rfl) rfl rfl (.yes rfl rfl rfl rfl) ?_
      refine F_pure rfl (fun _ _ => V_move rfl rfl) rfl rfl (.yes rfl rfl rfl rfl) ?_
      refine F_pure rfl (fun _ _ => V_eql rfl rfl rfl) rfl rfl (.yes rfl rfl rfl rfl) ?_
      refine F_pure rfl (fun _ _ => V_pick_t rfl rfl rfl) rfl rfl (.none rfl) ?_
      refine F_pure rfl (fun _ _ => V_move rfl rfl) rfl rfl (.none rfl) ?_
      refine GF.bool_t 45 rfl (decide_eq_true (by omega)) ?_
      refine F_load rfl (.tail _ (.tail _ (.tail _ (.head _)))) (V_loadA rfl rfl (Cells.own (.head _)) rfl) rfl rfl (.yes rfl rfl rfl rfl) ?_
      refine F_load rfl (.tail _ (.tail _ (.head _))) (V_loadA rfl rfl (Cells.own (.head _)) rfl) rfl rfl (.yes rfl rfl rfl rfl) ?_
      refine F_load rfl (.tail _ (.tail _ (.tail _ (.head _)))) (V_loadA rfl rfl (Cells.own (.head _)) rfl) rfl rfl (.yes rfl rfl rfl rfl) ?_
      refine F_load rfl (.tail _ (.tail _ (.head _))) (V_loadA rfl rfl (Cells.own (.head _)) rfl) rfl rfl (.yes rfl rfl rfl rfl) ?_
      refine F_callv (k := 12) rfl (.mk rfl rfl rfl rfl) rfl rfl (.yes rfl rfl rfl rfl) (fun _ => CSame_call _ _ _ _ _ _ _ _ _ _ _ _ _ _ _ _ _ _ _ _ _ _ _ _ _ _ _ _ _ _ _ _ (by assumption) (by assumption) (by assumption) (by assumption) (by omega) (by omega) (by omega) (by omega)) ?_
      refine F_callv (k := 13) rfl (.mk rfl rfl rfl rfl) rfl rfl (.yes rfl rfl rfl rfl) (fun _ => Same27_call _ _ _ _ _ _ _ _ _ _ _ _ _ _ _ _ _ _ _ _ _ _ _ _ _ _ _ _ _ _ _ _ (by assumption) (by assumption) (by assumption) (by assumption) (by omega) (by omega) (by omega) (by omega)) ?_
      refine F_pure rfl (fun _ _ => V_beql rfl rfl rfl) rfl rfl (.yes rfl rfl rfl rfl) ?_
      refine F_pure rfl (fun _ _ => V_pick_t rfl rfl rfl) rfl rfl (.none rfl) ?_
      refine F_pure rfl (fun _ _ => V_move rfl rfl) rfl rfl (.none rfl) ?_
      refine GF.bool_t 54 rfl (by simp [*]; done) ?_
      apply F_call (k := 6) rfl (.mk rfl rfl rfl rfl) rfl rfl (.yes rfl rfl rfl rfl)
      · (intro L0; refine CallS.mono (awake_call' _ _) ?_; exact fun _ _ _ _ h => h)
      · (rintro L0 r E' L' ⟨rfl, rfl⟩; exact ⟨rfl, ⟨rfl, rfl⟩⟩)
      rintro r1 E2 hE3 ⟨rfl, _⟩
      replace h1 := h1.mono hE3
      replace h2 := h2.mono hE3
      replace h3 := h3.mono hE3
      replace h4 := h4.mono hE3
      refine F_pure rfl (fun _ _ => V_pick_t rfl rfl rfl) rfl rfl (.none rfl) ?_
      refine F_pure rfl (fun _ _ => V_assign rfl rfl) rfl rfl (.none rfl) ?_
      (refine F_end (.nil _) ?_; dsimp only [List.drop])
      refine G_end (X_then (G_ret ?_))
      refine G_leaveS (.drop _ (.drop _ (.drop _ (.drop _ (.drop _ (.nil _)))))) (by exact (.cons (.tmp rfl) (.nil))) rfl ?_ ?_
      · exact hE3
      exact ⟨(by kernel_rfl), rfl⟩
end
end Go.Proofs.Ytimiokmgnclggaa
namespace Go.Proofs.Ytimiokmgnclggaa
open Go.RowKit Go.WideShapes Go.ChangeShapes
/-! A stack that came in. -/
variable {H : Type} {enc : TypeId × Value → H} {P : Program} {W : World} {sp : Nat → Bool} {held : Bool}
theorem open_spt {t e u : TypeId} {fs : Array Field} {fuel : Nat} {cs : List Value} {x : DataW H × List MemPlace} (ht : P.underlying t = some (.slice e)) (he : P.underlying e = some (.struct fs)) (hu : P.underlying u = some (.int .i64))
    (hf0 : (fs[0]?).map (fun f => (f.type, f.offset)) = some (u, 0)) (hf1 : (fs[1]?).map (fun f => (f.type, f.offset)) = some (u, 1)) (hc : P.cellsOf e = 2) (hcu : P.cellsOf u = 1) (hd : DataW.trod enc P W 0 sp held fuel t cs = some x) :
    ∃ a c, ∃ xs : List Spt, cs = [.slice a xs.length c] ∧ SlE (Env.of W) 2 a xs.length (spC xs) ∧ (∀ c, c ∈ xs → (-9223372036854775808 ≤ c.1 ∧ c.1 ≤ 9223372036854775807) ∧ -9223372036854775808 ≤ c.2 ∧ c.2 ≤ 9223372036854775807) ∧ xs.length ≤ 9223372036854775807 := by
  obtain ⟨a, c, xs, h1, h2, h3, h4, h5⟩ := open_sl (fun s : Spt => [.int .i64 s.1, .int .i64 s.2]) (fun s => (Lit.int .i64 s.1).wf = true ∧ (Lit.int .i64 s.2).wf = true) ht (by omega)
    (fun m cs y h => by
      obtain ⟨_, _, _, _, hl, _, _⟩ := DataW.trod_struct he h
      rw [hc] at hl
      obtain ⟨v0, r0, rfl, hr0⟩ := list_cons hl
      obtain ⟨v1, r1, rfl, hr1⟩ := list_cons hr0
      obtain rfl := List.eq_nil_of_length_eq_zero hr1
      obtain ⟨n0, y0, hd0⟩ := struct_field he h 0 u 0 1 hf0 hcu
      obtain ⟨n1, y1, hd1⟩ := struct_field he h 1 u 1 1 hf1 hcu
      obtain ⟨l0, e0, _, w0⟩ := DataW.trod_int hu hd0
      obtain ⟨l1, e1, _, w1⟩ := DataW.trod_int hu hd1
      refine ⟨(l0, l1), ?_, w0, w1⟩
      have e0' : v0 = .int .i64 l0 := by simpa using e0
      have e1' : v1 = .int .i64 l1 := by simpa using e1
      rw [e0', e1']) (fun _ => hc.symm) hd
  rw [hc] at h2
  exact ⟨a, c, xs, h1, h2, fun s hs => ⟨wf_i64 (h3 s hs).1, wf_i64 (h3 s hs).2⟩, by simp only [maxLen] at h5; omega⟩
end Go.Proofs.Ytimiokmgnclggaa
namespace Go.Proofs.Ytimiokmgnclggaa
open Go.RowKit Go.WideShapes Go.ChangeShapes
/-! Tokens that came in. -/
variable {H : Type} {enc : TypeId × Value → H} {P : Program} {W : World} {sp : Nat → Bool} {held : Bool}
theorem open_tok {t e u v : TypeId} {fs : Array Field} {fuel : Nat} {cs : List Value} {x : DataW H × List MemPlace} (ht : P.underlying t = some (.slice e)) (he : P.underlying e = some (.struct fs)) (hu : P.underlying u = some (.int .i64)) (hv : P.underlying v = some .string)
    (hf0 : (fs[0]?).map (fun f => (f.type, f.offset)) = some (u, 0)) (hf1 : (fs[1]?).map (fun f => (f.type, f.offset)) = some (v, 1)) (hf2 : (fs[2]?).map (fun f => (f.type, f.offset)) = some (u, 2)) (hc : P.cellsOf e = 3) (hcu : P.cellsOf u = 1) (hcv : P.cellsOf v = 1) (hd : DataW.trod enc P W 0 sp held fuel t cs = some x) :
    ∃ a c, ∃ xs : List Tok, cs = [.slice a xs.length c] ∧ SlE (Env.of W) 3 a xs.length (toks xs) ∧ (∀ c, c ∈ xs → c.text.length ≤ 9223372036854775807) ∧ xs.length ≤ 9223372036854775807 := by
  obtain ⟨a, c, xs, h1, h2, h3, h4, h5⟩ := open_sl Tok.cells (fun r => r.text.length ≤ 9223372036854775807) ht (by omega)
    (fun m cs y h => by
      obtain ⟨_, _, _, _, hl, _, _⟩ := DataW.trod_struct he h
      rw [hc] at hl
      obtain ⟨v0, r0, rfl, hr0⟩ := list_cons hl
      obtain ⟨v1, r1, rfl, hr1⟩ := list_cons hr0
      obtain ⟨v2, r2, rfl, hr2⟩ := list_cons hr1
      obtain rfl := List.eq_nil_of_length_eq_zero hr2
      obtain ⟨n0, y0, hd0⟩ := struct_field he h 0 u 0 1 hf0 hcu
      obtain ⟨n1, y1, hd1⟩ := struct_field he h 1 v 1 1 hf1 hcv
      obtain ⟨n2, y2, hd2⟩ := struct_field he h 2 u 2 1 hf2 hcu
      obtain ⟨l0, e0, _, w0⟩ := DataW.trod_int hu hd0
      obtain ⟨l1, e1, _, w1⟩ := DataW.trod_string hv hd1
      obtain ⟨l2, e2, _, w2⟩ := DataW.trod_int hu hd2
      refine ⟨⟨l0, l1.data.toList, l2⟩, ?_, by have : l1.data.toList.length = l1.size := rfl; simp only [maxLen] at w1; show l1.data.toList.length ≤ _; omega⟩
      have e0' : v0 = .int .i64 l0 := by simpa using e0
      have e1' : v1 = .string l1 := by simpa using e1
      have e2' : v2 = .int .i64 l2 := by simpa using e2
      rw [e0', e1', e2']; rfl) (fun _ => hc.symm) hd
  rw [hc] at h2
  exact ⟨a, c, xs, h1, h2, h3, by simp only [maxLen] at h5; omega⟩
end Go.Proofs.Ytimiokmgnclggaa
